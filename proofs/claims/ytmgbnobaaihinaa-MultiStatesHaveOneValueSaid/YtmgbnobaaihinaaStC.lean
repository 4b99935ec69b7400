/- Contracts: operators that apply; states after plans. -/
import Derived.Test.YtmgbnobaaihinaaStB
import Derived.Test.YtmgbnobaaihinaaStA
section
/- Contracts: operators that apply; states after plans. -/
namespace Hm
open Go
set_option maxRecDepth 100000
set_option maxHeartbeats 2000000
set_option linter.unusedSimpArgs false
set_option linter.unusedVariables false
/-- A range that changes the state in every round alike. -/
theorem YL_all {G : Type} {α : Type} {f : α → List V} (st : List α → G) {H' : HT G} (hM : MonoH H') {K : G → Prop} (L : List α) (hH : ∀ (pre : List α) (c : α) (r : List α), pre ++ c :: r = L → ∀ K : V → G → Prop, K (.bool true) (st (pre ++ [c])) → H' (f c) (st pre) K) (hk : K (st L)) :
    ∀ (l pre : List α), pre ++ l = L → YL H' (l.map f) (st pre) K
  | [], pre, h => by
    have : pre = L := by simpa using h
    subst this
    exact hk
  | c :: r, pre, h => hH pre c r h _ (.inl ⟨rfl, YL_all st hM L hH hk r (pre ++ [c]) (by simpa using h)⟩)
def ssV (s : List Int) : V := .sl .p (s.map i64V)
def succF (s : List Int) : Nat → List SOp → List (Int × List Int)
  | _, [] => []
  | k, o :: r => if inclB o.pre s = true then ((k : Int), updL s o.add o.del) :: succF s (k + 1) r else succF s (k + 1) r
def yV (p : Int × List Int) : List V := [.int .i64 p.1, ssV p.2]
theorem sv_op {t : STask} (hv : SV t) {k : Nat} {o : SOp} (h : t.ops[k]? = some o) : SOv t.facts o := hv.op o (mem_get h)
theorem set_le {t : STask} (hv : SV t) {l : List Int} (h : IsSet t.facts l) : l.length ≤ 24 := by
  have := isSet_len h hv.f0
  have := hv.f1
  omega
def appS (t : STask) (s : List Int) : List Int := (succF s 0 t.ops).map (·.1)
theorem succF_len (s : List Int) : ∀ (k : Nat) (l : List SOp), (succF s k l).length ≤ l.length
  | _, [] => by simp [succF]
  | k, o :: r => by
    have := succF_len s (k + 1) r
    simp only [succF]
    split <;> simp <;> omega
end Hm
end

section
/- States that plans reach, in plain terms. No program in sight. -/
namespace Hm
set_option linter.unusedVariables false
set_option linter.unusedSimpArgs false
open Go
def stepS (t : STask) (s : List Int) (op : Int) : Option (List Int) := match t.ops[op.toNat]? with
  | some o => if inclB o.pre s = true then some (updL s o.add o.del) else none
  | none => none
def runT (t : STask) : List Int → List Int → List (List Int)
  | _, [] => []
  | s, op :: r => match stepS t s op with
    | some s' => s' :: runT t s' r
    | none => []
def endS (t : STask) : List Int → List Int → Option (List Int)
  | s, [] => some s
  | s, op :: r => match stepS t s op with
    | some s' => endS t s' r
    | none => none
theorem run_get (t : STask) : ∀ (plan s : List Int), (s :: runT t s plan)[plan.length]? = endS t s plan
  | [], s => rfl
  | op :: r, s => by
    simp only [runT, endS]
    cases h : stepS t s op with
    | none => simp
    | some s' => simpa using run_get t r s'
theorem run_len_le (t : STask) : ∀ (plan s : List Int), (runT t s plan).length ≤ plan.length
  | [], s => by simp [runT]
  | op :: r, s => by
    simp only [runT]
    cases h : stepS t s op with
    | none => simp
    | some s' => have := run_len_le t r s'; simp; omega
theorem run_len_eq (t : STask) (plan s : List Int) : (runT t s plan).length = plan.length ↔ (endS t s plan).isSome = true := by
  rw [← run_get]
  have := run_len_le t plan s
  constructor
  · intro h
    rw [List.getElem?_eq_getElem (by simp; omega)]
    rfl
  · intro h
    obtain ⟨e, he⟩ := Option.isSome_iff_exists.1 h
    have := get_lt he
    simp at this
    omega
theorem run_at (t : STask) : ∀ (plan s : List Int) (i : Nat), i ≤ plan.length → (s :: runT t s plan)[i]? = endS t s (plan.take i)
  | _, s, 0, _ => by simp [endS]
  | [], s, i + 1, h => by simp at h
  | op :: r, s, i + 1, h => by
    simp only [runT, endS, List.take_succ_cons]
    cases hst : stepS t s op with
    | none => simp
    | some s' => simpa using run_at t r s' i (by simpa using h)
theorem run_fail {t : STask} {plan s : List Int} {i : Nat} {e : List Int} (hi : i < plan.length) (h : endS t s (plan.take i) = some e) (hn : endS t s (plan.take (i + 1)) = none) : (runT t s plan).length = i := by
  rw [← run_at t plan s i (by omega)] at h
  rw [← run_at t plan s (i + 1) (by omega)] at hn
  have h1 := get_lt h
  have h2 := List.getElem?_eq_none_iff.1 hn
  simp at h1 h2
  omega
theorem run_all {t : STask} {plan s e : List Int} (h : endS t s plan = some e) : (runT t s plan).length = plan.length := (run_len_eq t plan s).2 (by rw [h]; rfl)
def worksB (t : STask) (s plan : List Int) : Bool := match endS t s plan with
  | some e => inclB t.goal e
  | none => false
def costAtS (t : STask) (op : Int) : Int := match t.ops[op.toNat]? with
  | some o => o.cost
  | none => 0
def costS (t : STask) : List Int → Int
  | [] => 0
  | op :: r => costAtS t op + costS t r
theorem costS_append (t : STask) : ∀ (a b : List Int), costS t (a ++ b) = costS t a + costS t b
  | [], b => by simp [costS]
  | x :: a, b => by simp only [List.cons_append, costS, costS_append t a b]; omega
theorem costS_snoc (t : STask) (l : List Int) (op : Int) : costS t (l ++ [op]) = costS t l + costAtS t op := by
  rw [costS_append]; simp [costS]
theorem costAtS_range {t : STask} (hv : SV t) (op : Int) : 0 ≤ costAtS t op ∧ costAtS t op ≤ 100 := by
  unfold costAtS
  split
  · rename_i o h
    have := hv.op o (mem_get h)
    exact ⟨this.c0, this.c1⟩
  · omega
theorem costS_range {t : STask} (hv : SV t) : ∀ l : List Int, 0 ≤ costS t l ∧ costS t l ≤ 100 * l.length
  | [] => by simp [costS]
  | op :: r => by
    have h1 := costAtS_range hv op
    have h2 := costS_range hv r
    simp only [costS, List.length_cons]
    omega
theorem endS_append (t : STask) : ∀ (a s b : List Int), endS t s (a ++ b) = match endS t s a with
    | some s' => endS t s' b
    | none => none
  | [], s, b => rfl
  | op :: r, s, b => by
    simp only [List.cons_append, endS]
    cases h : stepS t s op with
    | none => rfl
    | some s' => exact endS_append t r s' b
theorem stepS_set {t : STask} (hv : SV t) {s s' : List Int} {op : Int} (hs : IsSet t.facts s) (h : stepS t s op = some s') : IsSet t.facts s' := by
  unfold stepS at h
  split at h
  · rename_i o ho
    split at h
    · cases h
      exact updL_set hs (hv.op o (mem_get ho)).add
    · cases h
  · cases h
theorem endS_set {t : STask} (hv : SV t) : ∀ (plan s e : List Int), IsSet t.facts s → endS t s plan = some e → IsSet t.facts e
  | [], s, e, hs, h => by cases h; exact hs
  | op :: r, s, e, hs, h => by
    simp only [endS] at h
    cases h2 : stepS t s op with
    | none => rw [h2] at h; cases h
    | some s' => rw [h2] at h; exact endS_set hv r s' e (stepS_set hv hs h2) h
theorem stepS_op {t : STask} {s : List Int} {op : Int} {o : SOp} (ho : t.ops[op.toNat]? = some o) : stepS t s op = if inclB o.pre s = true then some (updL s o.add o.del) else none := by
  unfold stepS; rw [ho]
/-- The state after k steps. -/
theorem endS_take_succ {t : STask} {s plan : List Int} {k : Nat} {x : Int} {s' : List Int} (h : endS t s (plan.take k) = some s') (hx : plan[k]? = some x) : endS t s (plan.take (k + 1)) = stepS t s' x := by
  rw [take_succ_get hx, endS_append, h]
  simp only [endS]
  cases stepS t s' x <;> rfl
def appAtS (t : STask) (s : List Int) (i : Nat) : Bool := match t.ops[i]? with
  | some o => inclB o.pre s
  | none => false
theorem facts_nat {t : STask} (hv : SV t) : ((t.facts.toNat : Nat) : Int) = t.facts := by have := hv.f0; omega
end Hm
end

section
/- Contracts: single steps; plans that are run. -/
namespace Hm
open Go
set_option maxRecDepth 100000
set_option maxHeartbeats 2000000
set_option linter.unusedSimpArgs false
set_option linter.unusedVariables false
theorem appS_sel (t : STask) (s : List Int) : appS t s = selK (appAtS t s) t.ops.length := by
  have key : ∀ (l : List SOp) (k : Nat), t.ops.drop k = l → selK (appAtS t s) k ++ (succF s k l).map (·.1) = selK (appAtS t s) (k + l.length) := by
    intro l
    induction l with
    | nil => intro k _; simp [succF]
    | cons o r ih =>
      intro k hk
      have hx : t.ops[k]? = some o := by
        have := congrArg (fun l => l[0]?) hk
        simpa using this
      have hd : t.ops.drop (k + 1) = r := by rw [← List.tail_drop, hk]; rfl
      have := ih (k + 1) hd
      rw [selK_succ, show appAtS t s k = inclB o.pre s from by simp [appAtS, hx]] at this
      simp only [succF, List.length_cons]
      rw [show k + (r.length + 1) = k + 1 + r.length from by omega, ← this]
      split <;> simp
  have := key t.ops 0 rfl
  unfold appS
  simpa [selK] using this
def c_slices_Clone_int : Cmd :=
  (.seq
   (.ops [
   .op (some 2) none (.mov (.c (.sl .nil [])))])
   (.cut
   (.seq
   (.seq
   (.ops [
   .op (some 3) none (.mov (.t 0)),
   .op (some 4) none (.isnil false (.t 3))])
   (.cut
   (.cond (.t 4)
   (.seq
   (.ops [
   .op (some 2) none (.newArr 3520321)])
   .ret)
   .skip)))
   (.cut
   (.seq
   (.ops [
   .op (some 5) none (.bslA 3520321 1 []),
   .op (some 6) none (.mov (.t 0)),
   .op (some 7) none (.append 1 8 (.t 5) (.t 6)),
   .op (some 2) none (.mov (.t 7))])
   .ret)))))
def r_slices_Clone_int : List RVar := [.tmp 2]
def n_slices_Clone_int : Nat := 8
theorem k_slices_Clone_int : chkFn Go.Proofs.Try.prog 55 n_slices_Clone_int r_slices_Clone_int c_slices_Clone_int = true := by kernel_rfl
theorem f_slices_Clone_int (s : List Int) (hl : s.length ≤ 17592186044416) : Fc Go.Proofs.Try.prog 55 [.sl .p (s.map i64V)] (.sl .p (s.map i64V)) := by
  refine Fn.step mixed k_slices_Clone_int ?_
  repeat (first | refine i_len rfl ?_ | refine i_s rfl ?_ | refine i_lenm rfl rfl rfl ?_ | refine c_seq ?_ | refine c_cut0 ?_ | refine c_ops ?_ | refine i_nil ?_ | refine e_seq ?_ | refine e_block ?_ | refine c_block ?_ | refine c_skip ?_ | refine c_ret ?_ | refine c_exit ?_ | refine e_exit rfl ?_ | refine i_s0 rfl ?_ | refine c_leaf ?_ | refine i_gt rfl ?_ | refine i_gf rfl ?_ | refine i_gd rfl ?_ | refine c_t rfl ?_ | refine c_f rfl ?_ | refine i_conv rfl (by simp only [InR, List.length_map]; omega) ?_ | refine i_add rfl rfl (by simp only [InR, List.length_map]; omega) ?_ | refine i_sub rfl rfl (by simp only [InR, List.length_map]; omega) ?_ | refine i_ixm rfl rfl (by assumption) ?_ | refine i_iai rfl rfl (by omega) (by assumption) rfl ?_ | refine i_iam rfl rfl (by assumption) rfl ?_ | refine i_tk rfl rfl (by omega) ?_ | refine i_stb rfl ?_ | refine i_alloc rfl ?_ | refine i_box rfl rfl ?_ | refine i_nv rfl ?_)
  refine i_isnil rfl fun b hb => ?_
  repeat (first | refine i_len rfl ?_ | refine i_s rfl ?_ | refine i_lenm rfl rfl rfl ?_ | refine c_seq ?_ | refine c_cut0 ?_ | refine c_ops ?_ | refine i_nil ?_ | refine e_seq ?_ | refine e_block ?_ | refine c_block ?_ | refine c_skip ?_ | refine c_ret ?_ | refine c_exit ?_ | refine e_exit rfl ?_ | refine i_s0 rfl ?_ | refine c_leaf ?_ | refine i_gt rfl ?_ | refine i_gf rfl ?_ | refine i_gd rfl ?_ | refine c_t rfl ?_ | refine c_f rfl ?_ | refine i_conv rfl (by simp only [InR, List.length_map]; omega) ?_ | refine i_add rfl rfl (by simp only [InR, List.length_map]; omega) ?_ | refine i_sub rfl rfl (by simp only [InR, List.length_map]; omega) ?_ | refine i_ixm rfl rfl (by assumption) ?_ | refine i_iai rfl rfl (by omega) (by assumption) rfl ?_ | refine i_iam rfl rfl (by assumption) rfl ?_ | refine i_tk rfl rfl (by omega) ?_ | refine i_stb rfl ?_ | refine i_alloc rfl ?_ | refine i_box rfl rfl ?_ | refine i_nv rfl ?_)
  refine c_cond rfl (fun h => ?_) (fun h => ?_)
  · have e : s = [] := by simpa using hb (by simpa using h)
    subst e
    repeat (first | refine i_len rfl ?_ | refine i_s rfl ?_ | refine i_lenm rfl rfl rfl ?_ | refine c_seq ?_ | refine c_cut0 ?_ | refine c_ops ?_ | refine i_nil ?_ | refine e_seq ?_ | refine e_block ?_ | refine c_block ?_ | refine c_skip ?_ | refine c_ret ?_ | refine c_exit ?_ | refine e_exit rfl ?_ | refine i_s0 rfl ?_ | refine c_leaf ?_ | refine i_gt rfl ?_ | refine i_gf rfl ?_ | refine i_gd rfl ?_ | refine c_t rfl ?_ | refine c_f rfl ?_ | refine i_conv rfl (by simp only [InR, List.length_map]; omega) ?_ | refine i_add rfl rfl (by simp only [InR, List.length_map]; omega) ?_ | refine i_sub rfl rfl (by simp only [InR, List.length_map]; omega) ?_ | refine i_ixm rfl rfl (by assumption) ?_ | refine i_iai rfl rfl (by omega) (by assumption) rfl ?_ | refine i_iam rfl rfl (by assumption) rfl ?_ | refine i_tk rfl rfl (by omega) ?_ | refine i_stb rfl ?_ | refine i_alloc rfl ?_ | refine i_box rfl rfl ?_ | refine i_nv rfl ?_)
    refine i_na rfl ?_
    repeat (first | refine i_len rfl ?_ | refine i_s rfl ?_ | refine i_lenm rfl rfl rfl ?_ | refine c_seq ?_ | refine c_cut0 ?_ | refine c_ops ?_ | refine i_nil ?_ | refine e_seq ?_ | refine e_block ?_ | refine c_block ?_ | refine c_skip ?_ | refine c_ret ?_ | refine c_exit ?_ | refine e_exit rfl ?_ | refine i_s0 rfl ?_ | refine c_leaf ?_ | refine i_gt rfl ?_ | refine i_gf rfl ?_ | refine i_gd rfl ?_ | refine c_t rfl ?_ | refine c_f rfl ?_ | refine i_conv rfl (by simp only [InR, List.length_map]; omega) ?_ | refine i_add rfl rfl (by simp only [InR, List.length_map]; omega) ?_ | refine i_sub rfl rfl (by simp only [InR, List.length_map]; omega) ?_ | refine i_ixm rfl rfl (by assumption) ?_ | refine i_iai rfl rfl (by omega) (by assumption) rfl ?_ | refine i_iam rfl rfl (by assumption) rfl ?_ | refine i_tk rfl rfl (by omega) ?_ | refine i_stb rfl ?_ | refine i_alloc rfl ?_ | refine i_box rfl rfl ?_ | refine i_nv rfl ?_)
    exact e_ret ⟨rfl, _, rfl, rfl⟩
  · repeat (first | refine i_len rfl ?_ | refine i_s rfl ?_ | refine i_lenm rfl rfl rfl ?_ | refine c_seq ?_ | refine c_cut0 ?_ | refine c_ops ?_ | refine i_nil ?_ | refine e_seq ?_ | refine e_block ?_ | refine c_block ?_ | refine c_skip ?_ | refine c_ret ?_ | refine c_exit ?_ | refine e_exit rfl ?_ | refine i_s0 rfl ?_ | refine c_leaf ?_ | refine i_gt rfl ?_ | refine i_gf rfl ?_ | refine i_gd rfl ?_ | refine c_t rfl ?_ | refine c_f rfl ?_ | refine i_conv rfl (by simp only [InR, List.length_map]; omega) ?_ | refine i_add rfl rfl (by simp only [InR, List.length_map]; omega) ?_ | refine i_sub rfl rfl (by simp only [InR, List.length_map]; omega) ?_ | refine i_ixm rfl rfl (by assumption) ?_ | refine i_iai rfl rfl (by omega) (by assumption) rfl ?_ | refine i_iam rfl rfl (by assumption) rfl ?_ | refine i_tk rfl rfl (by omega) ?_ | refine i_stb rfl ?_ | refine i_alloc rfl ?_ | refine i_box rfl rfl ?_ | refine i_nv rfl ?_)
    refine i_bsla rfl rfl rfl rfl ?_
    repeat (first | refine i_len rfl ?_ | refine i_s rfl ?_ | refine i_lenm rfl rfl rfl ?_ | refine c_seq ?_ | refine c_cut0 ?_ | refine c_ops ?_ | refine i_nil ?_ | refine e_seq ?_ | refine e_block ?_ | refine c_block ?_ | refine c_skip ?_ | refine c_ret ?_ | refine c_exit ?_ | refine e_exit rfl ?_ | refine i_s0 rfl ?_ | refine c_leaf ?_ | refine i_gt rfl ?_ | refine i_gf rfl ?_ | refine i_gd rfl ?_ | refine c_t rfl ?_ | refine c_f rfl ?_ | refine i_conv rfl (by simp only [InR, List.length_map]; omega) ?_ | refine i_add rfl rfl (by simp only [InR, List.length_map]; omega) ?_ | refine i_sub rfl rfl (by simp only [InR, List.length_map]; omega) ?_ | refine i_ixm rfl rfl (by assumption) ?_ | refine i_iai rfl rfl (by omega) (by assumption) rfl ?_ | refine i_iam rfl rfl (by assumption) rfl ?_ | refine i_tk rfl rfl (by omega) ?_ | refine i_stb rfl ?_ | refine i_alloc rfl ?_ | refine i_box rfl rfl ?_ | refine i_nv rfl ?_)
    refine i_appmM (l := []) (f := i64V) s rfl rfl rfl rfl rfl (fun c hc => ⟨rfl, rfl⟩) (by simp; omega) (by simp; omega) ?_
    repeat (first | refine i_len rfl ?_ | refine i_s rfl ?_ | refine i_lenm rfl rfl rfl ?_ | refine c_seq ?_ | refine c_cut0 ?_ | refine c_ops ?_ | refine i_nil ?_ | refine e_seq ?_ | refine e_block ?_ | refine c_block ?_ | refine c_skip ?_ | refine c_ret ?_ | refine c_exit ?_ | refine e_exit rfl ?_ | refine i_s0 rfl ?_ | refine c_leaf ?_ | refine i_gt rfl ?_ | refine i_gf rfl ?_ | refine i_gd rfl ?_ | refine c_t rfl ?_ | refine c_f rfl ?_ | refine i_conv rfl (by simp only [InR, List.length_map]; omega) ?_ | refine i_add rfl rfl (by simp only [InR, List.length_map]; omega) ?_ | refine i_sub rfl rfl (by simp only [InR, List.length_map]; omega) ?_ | refine i_ixm rfl rfl (by assumption) ?_ | refine i_iai rfl rfl (by omega) (by assumption) rfl ?_ | refine i_iam rfl rfl (by assumption) rfl ?_ | refine i_tk rfl rfl (by omega) ?_ | refine i_stb rfl ?_ | refine i_alloc rfl ?_ | refine i_box rfl rfl ?_ | refine i_nv rfl ?_)
    exact e_ret ⟨rfl, _, rfl, ((er_msl (i := 0) (len := ([] ++ s).length) (n := 5) rfl).trans (msl_all rfl)).symm⟩
def c_strips_Run : Cmd :=
  (.seq
   (.ops [
   .op (some 3) none (.box 3136196 4 (.t 0)),
   .op (some 6) none (.mov (.c (.sl .nil [])))])
   (.cut
   (.seq
   (.ops [
   .op (some 10) none (.mov (.t 1)),
   .op (some 11) none (.call .f (.c (.fn 55 [])) [.t 10]),
   .op (some 12) none (.bslO 3136769 1 [.t 11]),
   .op (some 7) none (.mov (.t 12))])
   (.cut
   (.seq
   (.seq
   (.ops [
   .op (some 13) none (.mov (.t 2)),
   .op (some 14) none (.len false (.t 13)),
   .op (some 15) none (.mov (.c (.int .i64 (0))))])
   (.cut
   (.block 0
   (.loop
   (.seq
   (.ops [
   .op (some 16) none (.bin .lss false [] (.t 15) (.t 14))])
   (.cut
   (.seq
   (.cond (.t 16)
   .skip
   (.exit 0))
   (.cut
   (.seq
   (.block 1
   (.seq
   (.ops [
   .op (some 17) none (.iaddr 1 (.t 13) (.t 15)),
   .op (some 18) none (.load false 1 (.t 17)),
   .op (some 9) none (.mov (.t 18))])
   (.cut
   (.seq
   (.seq
   (.ops [
   .op (some 19) none (.load true 4 (.t 3)),
   .op (some 20) none (.mov (.t 1)),
   .op (some 21) none (.mov (.t 9)),
   .op (some 22) none (.call .f (.c (.fn 57 [])) [.t 19, .t 20, .t 21]),
   .op (some 23) none (.not (.t 22))])
   (.cut
   (.cond (.t 23)
   (.exit 0)
   .skip)))
   (.cut
   (.seq
   (.ops [
   .op (some 24) none (.load true 4 (.t 3)),
   .op (some 25) none (.mov (.t 1)),
   .op (some 26) none (.mov (.t 9)),
   .op (some 27) none (.call .f (.c (.fn 58 [])) [.t 24, .t 25, .t 26]),
   .op (some 1) none (.mov (.t 27))])
   (.cut
   (.ops [
   .op (some 28) none (.mov (.t 7)),
   .op (some 29) none (.mov (.t 1)),
   .op (some 30) none (.bsl 1 [.t 29]),
   .op (some 31) none (.append 1 24 (.t 28) (.t 30)),
   .op (some 7) none (.mov (.t 31))]))))))))
   (.cut
   (.ops [
   .op (some 32) none (.bin .add false [] (.t 15) (.c (.int .i64 (1)))),
   .op (some 15) none (.mov (.t 32))])))))))))))
   (.cut
   (.seq
   (.ops [
   .op (some 33) none (.mov (.t 7)),
   .op (some 6) none (.mov (.t 33))])
   .ret)))))))
def r_strips_Run : List RVar := [.tmp 6]
def n_strips_Run : Nat := 34
theorem k_strips_Run : chkFn Go.Proofs.Try.prog 49 n_strips_Run r_strips_Run c_strips_Run = true := by kernel_rfl
theorem f_strips_Run (t : STask) (hv : SV t) (s : List Int) (hs : IsSet t.facts s) (plan : List Int) (hl : plan.length ≤ 1000000) (hp : ∀ x ∈ plan, 0 ≤ x ∧ x < t.ops.length) : Fc Go.Proofs.Try.prog 49 [skV t, .sl .p (s.map i64V), .sl .p (plan.map i64V)] (.sl .p ((s :: runT t s plan).map ssV)) := by
  have hsl := set_le hv hs
  have hC := f_slices_Clone_int s (by omega)
  refine Fn.step mixed k_strips_Run ?_
  repeat (first | refine i_len rfl ?_ | refine i_s rfl ?_ | refine i_lenm rfl rfl rfl ?_ | refine c_seq ?_ | refine c_cut0 ?_ | refine c_ops ?_ | refine i_nil ?_ | refine e_seq ?_ | refine e_block ?_ | refine c_block ?_ | refine c_skip ?_ | refine c_ret ?_ | refine c_exit ?_ | refine e_exit rfl ?_ | refine i_s0 rfl ?_ | refine c_leaf ?_ | refine i_gt rfl ?_ | refine i_gf rfl ?_ | refine i_gd rfl ?_ | refine c_t rfl ?_ | refine c_f rfl ?_ | refine i_conv rfl (by simp only [InR, List.length_map]; omega) ?_ | refine i_add rfl rfl (by simp only [InR, List.length_map]; omega) ?_ | refine i_sub rfl rfl (by simp only [InR, List.length_map]; omega) ?_ | refine i_ixm rfl rfl (by assumption) ?_ | refine i_iai rfl rfl (by omega) (by assumption) rfl ?_ | refine i_iam rfl rfl (by assumption) rfl ?_ | refine i_tk rfl rfl (by omega) ?_ | refine i_stb rfl ?_ | refine i_alloc rfl ?_ | refine i_box rfl rfl ?_ | refine i_nv rfl ?_ | refine i_f rfl rfl (hC) rfl ?_)
  refine i_bslo rfl rfl rfl rfl ?_
  repeat (first | refine i_len rfl ?_ | refine i_s rfl ?_ | refine i_lenm rfl rfl rfl ?_ | refine c_seq ?_ | refine c_cut0 ?_ | refine c_ops ?_ | refine i_nil ?_ | refine e_seq ?_ | refine e_block ?_ | refine c_block ?_ | refine c_skip ?_ | refine c_ret ?_ | refine c_exit ?_ | refine e_exit rfl ?_ | refine i_s0 rfl ?_ | refine c_leaf ?_ | refine i_gt rfl ?_ | refine i_gf rfl ?_ | refine i_gd rfl ?_ | refine c_t rfl ?_ | refine c_f rfl ?_ | refine i_conv rfl (by simp only [InR, List.length_map]; omega) ?_ | refine i_add rfl rfl (by simp only [InR, List.length_map]; omega) ?_ | refine i_sub rfl rfl (by simp only [InR, List.length_map]; omega) ?_ | refine i_ixm rfl rfl (by assumption) ?_ | refine i_iai rfl rfl (by omega) (by assumption) rfl ?_ | refine i_iam rfl rfl (by assumption) rfl ?_ | refine i_tk rfl rfl (by omega) ?_ | refine i_stb rfl ?_ | refine i_alloc rfl ?_ | refine i_box rfl rfl ?_ | refine i_nv rfl ?_)
  refine c_lp (ι := Nat × List Int × List (List Int)) (fun i => [(1, .sl .p (i.2.1.map i64V)), (3, .bptr 3136196 0), (7, .sl (.own 3136769) (i.2.2.map ssV)), (13, .sl .p (plan.map i64V)), (14, .int .i64 plan.length), (15, .int .i64 i.1)])
    (fun i => [(3136196, .box (skV t)), (3136769, .vec i.2.2.length)])
    (fun i => i.1 ≤ plan.length ∧ i.2.2.length = i.1 + 1 ∧ IsSet t.facts i.2.1 ∧ i.2.2 ++ runT t i.2.1 (plan.drop i.1) = s :: runT t s plan) (fun i => plan.length - i.1) (0, s, [s]) ⟨Nat.zero_le _, rfl, hs, rfl⟩ ⟨by repeat (first | exact trivial | refine ⟨rfl, ?_⟩), by repeat (first | exact trivial | refine ⟨rfl, ?_⟩), rfl⟩ fun i hi => ?_
  obtain ⟨k, u, acc⟩ := i
  obtain ⟨h1, h2, h3, h4⟩ := hi
  simp only at h1 h2 h3 h4
  have hul := set_le hv h3
  clear hC hs hsl
  repeat (first | refine i_len rfl ?_ | refine i_s rfl ?_ | refine i_lenm rfl rfl rfl ?_ | refine c_seq ?_ | refine c_cut0 ?_ | refine c_ops ?_ | refine i_nil ?_ | refine e_seq ?_ | refine e_block ?_ | refine c_block ?_ | refine c_skip ?_ | refine c_ret ?_ | refine c_exit ?_ | refine e_exit rfl ?_ | refine i_s0 rfl ?_ | refine c_leaf ?_ | refine i_gt rfl ?_ | refine i_gf rfl ?_ | refine i_gd rfl ?_ | refine c_t rfl ?_ | refine c_f rfl ?_ | refine i_conv rfl (by simp only [InR, List.length_map]; omega) ?_ | refine i_add rfl rfl (by simp only [InR, List.length_map]; omega) ?_ | refine i_sub rfl rfl (by simp only [InR, List.length_map]; omega) ?_ | refine i_ixm rfl rfl (by assumption) ?_ | refine i_iai rfl rfl (by omega) (by assumption) rfl ?_ | refine i_iam rfl rfl (by assumption) rfl ?_ | refine i_tk rfl rfl (by omega) ?_ | refine i_stb rfl ?_ | refine i_alloc rfl ?_ | refine i_box rfl rfl ?_ | refine i_nv rfl ?_)
  refine c_cond rfl (fun h => ?_) (fun h => ?_)
  · have hlt : k < plan.length := by simpa using h
    obtain ⟨x, hx⟩ := get_some hlt
    obtain ⟨x0, x1⟩ := hp x (mem_get hx)
    obtain ⟨o, hc⟩ := get_some (l := t.ops) (k := x.toNat) (by omega)
    have hoo := hv.op o (mem_get hc)
    have hC := f_strips_Can t u (by omega) h3.ss x x0 o hc (by have := set_le hv hoo.pre; omega) hoo.pre.ss
    have hN := f_strips_Next t u (by omega) x x0 o hc (by have := set_le hv hoo.add; omega) (by have := set_le hv hoo.del; omega) hoo.del.ss
    have ed : plan.drop k = x :: plan.drop (k + 1) := by
      obtain ⟨h5, h6⟩ := List.getElem?_eq_some_iff.1 hx
      rw [← h6]; exact List.drop_eq_getElem_cons hlt
    have hst := stepS_op (s := u) hc
    rw [ed] at h4
    simp only [runT, hst] at h4
    clear h
    cases hi : inclB o.pre u with
    | true =>
      rw [hi] at hC
      rw [hi, if_pos rfl] at h4
      repeat (first | refine i_len rfl ?_ | refine i_s rfl ?_ | refine i_lenm rfl rfl rfl ?_ | refine c_seq ?_ | refine c_cut0 ?_ | refine c_ops ?_ | refine i_nil ?_ | refine e_seq ?_ | refine e_block ?_ | refine c_block ?_ | refine c_skip ?_ | refine c_ret ?_ | refine c_exit ?_ | refine e_exit rfl ?_ | refine i_s0 rfl ?_ | refine c_leaf ?_ | refine i_gt rfl ?_ | refine i_gf rfl ?_ | refine i_gd rfl ?_ | refine c_t rfl ?_ | refine c_f rfl ?_ | refine i_conv rfl (by simp only [InR, List.length_map]; omega) ?_ | refine i_add rfl rfl (by simp only [InR, List.length_map]; omega) ?_ | refine i_sub rfl rfl (by simp only [InR, List.length_map]; omega) ?_ | refine i_ixm rfl rfl (by assumption) ?_ | refine i_iai rfl rfl (by omega) (by assumption) rfl ?_ | refine i_iam rfl rfl (by assumption) rfl ?_ | refine i_tk rfl rfl (by omega) ?_ | refine i_stb rfl ?_ | refine i_alloc rfl ?_ | refine i_box rfl rfl ?_ | refine i_nv rfl ?_ | refine i_f rfl rfl (hC) rfl ?_ | refine i_f rfl rfl (hN) rfl ?_)
      refine i_appM (f := ssV) (c := updL u o.add o.del) rfl rfl rfl rfl rfl (by dsimp only; omega) (by dsimp only; omega) ?_
      repeat (first | refine i_len rfl ?_ | refine i_s rfl ?_ | refine i_lenm rfl rfl rfl ?_ | refine c_seq ?_ | refine c_cut0 ?_ | refine c_ops ?_ | refine i_nil ?_ | refine e_seq ?_ | refine e_block ?_ | refine c_block ?_ | refine c_skip ?_ | refine c_ret ?_ | refine c_exit ?_ | refine e_exit rfl ?_ | refine i_s0 rfl ?_ | refine c_leaf ?_ | refine i_gt rfl ?_ | refine i_gf rfl ?_ | refine i_gd rfl ?_ | refine c_t rfl ?_ | refine c_f rfl ?_ | refine i_conv rfl (by simp only [InR, List.length_map]; omega) ?_ | refine i_add rfl rfl (by simp only [InR, List.length_map]; omega) ?_ | refine i_sub rfl rfl (by simp only [InR, List.length_map]; omega) ?_ | refine i_ixm rfl rfl (by assumption) ?_ | refine i_iai rfl rfl (by omega) (by assumption) rfl ?_ | refine i_iam rfl rfl (by assumption) rfl ?_ | refine i_tk rfl rfl (by omega) ?_ | refine i_stb rfl ?_ | refine i_alloc rfl ?_ | refine i_box rfl rfl ?_ | refine i_nv rfl ?_)
      exact e_lp (k + 1, updL u o.add o.del, acc ++ [updL u o.add o.del]) ⟨hlt, by simp [h2], updL_set h3 hoo.add, by simpa using h4⟩ (by simp only; omega) ⟨⟨rfl, rfl, rfl, rfl, rfl, rfl, trivial⟩, ⟨rfl, by simp; rfl, trivial⟩, rfl⟩
    | false =>
      rw [hi] at hC
      rw [hi, if_neg (by simp), List.append_nil] at h4
      repeat (first | refine i_len rfl ?_ | refine i_s rfl ?_ | refine i_lenm rfl rfl rfl ?_ | refine c_seq ?_ | refine c_cut0 ?_ | refine c_ops ?_ | refine i_nil ?_ | refine e_seq ?_ | refine e_block ?_ | refine c_block ?_ | refine c_skip ?_ | refine c_ret ?_ | refine c_exit ?_ | refine e_exit rfl ?_ | refine i_s0 rfl ?_ | refine c_leaf ?_ | refine i_gt rfl ?_ | refine i_gf rfl ?_ | refine i_gd rfl ?_ | refine c_t rfl ?_ | refine c_f rfl ?_ | refine i_conv rfl (by simp only [InR, List.length_map]; omega) ?_ | refine i_add rfl rfl (by simp only [InR, List.length_map]; omega) ?_ | refine i_sub rfl rfl (by simp only [InR, List.length_map]; omega) ?_ | refine i_ixm rfl rfl (by assumption) ?_ | refine i_iai rfl rfl (by omega) (by assumption) rfl ?_ | refine i_iam rfl rfl (by assumption) rfl ?_ | refine i_tk rfl rfl (by omega) ?_ | refine i_stb rfl ?_ | refine i_alloc rfl ?_ | refine i_box rfl rfl ?_ | refine i_nv rfl ?_ | refine i_f rfl rfl (hC) rfl ?_ | refine i_f rfl rfl (hN) rfl ?_)
      exact e_ret ⟨rfl, _, rfl, by rw [h4]; rfl⟩
  · have hge : k = plan.length := by have : ¬ k < plan.length := by simpa using h
                                     omega
    subst hge
    rw [List.drop_length] at h4
    simp only [runT, List.append_nil] at h4
    repeat (first | refine i_len rfl ?_ | refine i_s rfl ?_ | refine i_lenm rfl rfl rfl ?_ | refine c_seq ?_ | refine c_cut0 ?_ | refine c_ops ?_ | refine i_nil ?_ | refine e_seq ?_ | refine e_block ?_ | refine c_block ?_ | refine c_skip ?_ | refine c_ret ?_ | refine c_exit ?_ | refine e_exit rfl ?_ | refine i_s0 rfl ?_ | refine c_leaf ?_ | refine i_gt rfl ?_ | refine i_gf rfl ?_ | refine i_gd rfl ?_ | refine c_t rfl ?_ | refine c_f rfl ?_ | refine i_conv rfl (by simp only [InR, List.length_map]; omega) ?_ | refine i_add rfl rfl (by simp only [InR, List.length_map]; omega) ?_ | refine i_sub rfl rfl (by simp only [InR, List.length_map]; omega) ?_ | refine i_ixm rfl rfl (by assumption) ?_ | refine i_iai rfl rfl (by omega) (by assumption) rfl ?_ | refine i_iam rfl rfl (by assumption) rfl ?_ | refine i_tk rfl rfl (by omega) ?_ | refine i_stb rfl ?_ | refine i_alloc rfl ?_ | refine i_box rfl rfl ?_ | refine i_nv rfl ?_)
    exact e_ret ⟨rfl, _, rfl, by rw [h4]; rfl⟩
end Hm
end

section
/- Contracts: plans that work; what they cost; the reference. -/
namespace Hm
open Go
set_option maxRecDepth 100000
set_option maxHeartbeats 2000000
set_option linter.unusedSimpArgs false
set_option linter.unusedVariables false
def c_strips_Works : Cmd :=
  (.seq
   (.ops [
   .op (some 3) none (.box 3264196 4 (.t 0)),
   .op (some 6) none (.mov (.c (.bool false)))])
   (.cut
   (.seq
   (.ops [
   .op (some 8) none (.load true 4 (.t 3)),
   .op (some 9) none (.mov (.t 1)),
   .op (some 10) none (.mov (.t 2)),
   .op (some 11) none (.call .f (.c (.fn 49 [])) [.t 8, .t 9, .t 10]),
   .op (some 7) none (.mov (.t 11))])
   (.cut
   (.seq
   (.ops [
   .op (some 12) none (.mov (.t 7)),
   .op (some 13) none (.len false (.t 12)),
   .op (some 14) none (.mov (.t 2)),
   .op (some 15) none (.len false (.t 14)),
   .op (some 16) none (.bin .add false [] (.t 15) (.c (.int .i64 (1)))),
   .op (some 17) none (.bin .eql false [.i] (.t 13) (.t 16)),
   .op (some 18) none (.mov (.t 17)),
   .op (some 19) (some (18, true)) (.mov (.t 7)),
   .op (some 20) (some (18, true)) (.mov (.t 2)),
   .op (some 21) (some (18, true)) (.len false (.t 20)),
   .op (some 22) (some (18, true)) (.iaddr 1 (.t 19) (.t 21)),
   .op (some 23) (some (18, true)) (.load false 1 (.t 22)),
   .op (some 24) (some (18, true)) (.faddr 2 (.t 3)),
   .op (some 25) (some (18, true)) (.load false 1 (.t 24)),
   .op (some 26) (some (18, true)) (.call .f (.c (.fn 59 [])) [.t 23, .t 25]),
   .op (some 27) none (.pick (.t 18) (.t 26) (.c (.bool false))),
   .op (some 6) none (.mov (.t 27))])
   .ret)))))
def r_strips_Works : List RVar := [.tmp 6]
def n_strips_Works : Nat := 28
theorem k_strips_Works : chkFn Go.Proofs.Try.prog 51 n_strips_Works r_strips_Works c_strips_Works = true := by kernel_rfl
theorem f_strips_Works (t : STask) (hv : SV t) (s : List Int) (hs : IsSet t.facts s) (plan : List Int) (hl : plan.length ≤ 1000000) (hp : ∀ x ∈ plan, 0 ≤ x ∧ x < t.ops.length) : Fc Go.Proofs.Try.prog 51 [skV t, .sl .p (s.map i64V), .sl .p (plan.map i64V)] (.bool (worksB t s plan)) := by
  have hR := f_strips_Run t hv s hs plan hl hp
  have hle := run_len_le t plan s
  have heq := run_len_eq t plan s
  have hget := run_get t plan s
  have hgl := set_le hv hv.goal
  unfold worksB
  cases he : endS t s plan with
  | some e =>
    have hes := endS_set hv plan s e hs he
    have hel := set_le hv hes
    have hC := f_strips_Contains e t.goal (by omega) (by omega) hes.ss hv.goal.ss
    rw [he] at hget heq
    have hlen : (runT t s plan).length = plan.length := heq.2 rfl
    generalize runT t s plan = R at *
    have hl2 : (s :: R).length = plan.length + 1 := by simp [hlen]
    generalize s :: R = L at *
    refine Fn.step mixed k_strips_Works ?_
    repeat' (first | refine i_len rfl ?_ | refine i_s rfl ?_ | refine i_lenm rfl rfl rfl ?_ | refine c_seq ?_ | refine c_cut0 ?_ | refine c_ops ?_ | refine i_nil ?_ | refine e_seq ?_ | refine e_block ?_ | refine c_block ?_ | refine c_skip ?_ | refine c_ret ?_ | refine c_exit ?_ | refine e_exit rfl ?_ | refine i_s0 rfl ?_ | refine c_leaf ?_ | refine i_gt rfl ?_ | refine i_gf rfl ?_ | refine i_gd rfl ?_ | refine c_t rfl ?_ | refine c_f rfl ?_ | refine i_conv rfl (by simp only [InR, List.length_map]; omega) ?_ | refine i_add rfl rfl (by simp only [InR, List.length_map]; omega) ?_ | refine i_sub rfl rfl (by simp only [InR, List.length_map]; omega) ?_ | refine i_ixm rfl rfl (by assumption) ?_ | refine i_iai rfl rfl (by omega) (by assumption) rfl ?_ | refine i_iam rfl rfl (by assumption) rfl ?_ | refine i_tk rfl rfl (by omega) ?_ | refine i_stb rfl ?_ | refine i_alloc rfl ?_ | refine i_box rfl rfl ?_ | refine i_nv rfl ?_ | refine c_node ?_ ?_ | refine i_g rfl (fun h => ?_) (fun h => ?_) | refine c_cond rfl (fun h => ?_) (fun h => ?_) | refine i_f rfl rfl (hR) rfl ?_ | refine i_f rfl rfl (hC) rfl ?_)
    all_goals first
      | exact e_ret ⟨rfl, _, rfl, rfl⟩
      | (exfalso; clear hR hC hs hv hes heq; simp at *; omega)
  | none =>
    rw [he] at heq
    have hlen : ¬ (runT t s plan).length = plan.length := fun h => by have := heq.1 h; cases this
    generalize runT t s plan = R at *
    have hl2 : ¬ (s :: R).length = plan.length + 1 := by simp; omega
    generalize s :: R = L at *
    refine Fn.step mixed k_strips_Works ?_
    repeat' (first | refine i_len rfl ?_ | refine i_s rfl ?_ | refine i_lenm rfl rfl rfl ?_ | refine c_seq ?_ | refine c_cut0 ?_ | refine c_ops ?_ | refine i_nil ?_ | refine e_seq ?_ | refine e_block ?_ | refine c_block ?_ | refine c_skip ?_ | refine c_ret ?_ | refine c_exit ?_ | refine e_exit rfl ?_ | refine i_s0 rfl ?_ | refine c_leaf ?_ | refine i_gt rfl ?_ | refine i_gf rfl ?_ | refine i_gd rfl ?_ | refine c_t rfl ?_ | refine c_f rfl ?_ | refine i_conv rfl (by simp only [InR, List.length_map]; omega) ?_ | refine i_add rfl rfl (by simp only [InR, List.length_map]; omega) ?_ | refine i_sub rfl rfl (by simp only [InR, List.length_map]; omega) ?_ | refine i_ixm rfl rfl (by assumption) ?_ | refine i_iai rfl rfl (by omega) (by assumption) rfl ?_ | refine i_iam rfl rfl (by assumption) rfl ?_ | refine i_tk rfl rfl (by omega) ?_ | refine i_stb rfl ?_ | refine i_alloc rfl ?_ | refine i_box rfl rfl ?_ | refine i_nv rfl ?_ | refine c_node ?_ ?_ | refine i_g rfl (fun h => ?_) (fun h => ?_) | refine c_cond rfl (fun h => ?_) (fun h => ?_) | refine i_f rfl rfl (hR) rfl ?_)
    all_goals first
      | exact e_ret ⟨rfl, _, rfl, rfl⟩
      | (exfalso; clear hR hs hv heq; simp at *; omega)
def c_strips_Solves : Cmd :=
  (.seq
   (.ops [
   .op (some 2) none (.box 1856132 4 (.t 0)),
   .op (some 4) none (.mov (.c (.bool false))),
   .op (some 5) none (.alloc 1856322 (.agg [.int .i64 (0), .int .i64 (0)]))])
   (.cut
   (.seq
   (.seq
   (.ops [
   .op (some 7) none (.load true 4 (.t 2)),
   .op (some 8) none (.mov (.t 1)),
   .op (some 9) none (.call .f (.c (.fn 50 [])) [.t 7, .t 8]),
   .op (some 6) none (.alloc 1856386 (.agg [.int .i64 (0), .int .i64 (0)])),
   .op none none (.store 2 (.t 6) (.t 9))])
   (.cut
   (.seq
   (.ops [
   .op (some 10) none (.load true 2 (.t 6)),
   .op (some 11) none (.build [.int .i64 (0), .int .i64 (0)] []),
   .op (some 12) none (.bin .neq true [.i, .i] (.t 10) (.t 11))])
   (.cut
   (.cond (.t 12)
   (.seq
   (.ops [
   .op (some 13) none (.load true 2 (.t 6)),
   .op (some 4) none (.mov (.c (.bool false))),
   .op none none (.store 2 (.t 5) (.t 13))])
   .ret)
   .skip)))))
   (.cut
   (.seq
   (.ops [
   .op (some 14) none (.load true 4 (.t 2)),
   .op (some 15) none (.faddr 1 (.t 2)),
   .op (some 16) none (.load false 1 (.t 15)),
   .op (some 17) none (.mov (.t 1)),
   .op (some 18) none (.call .f (.c (.fn 51 [])) [.t 14, .t 16, .t 17]),
   .op (some 19) none (.build [.int .i64 (0), .int .i64 (0)] []),
   .op (some 4) none (.mov (.t 18)),
   .op none none (.store 2 (.t 5) (.t 19))])
   .ret)))))
def r_strips_Solves : List RVar := [.tmp 4, .cell true 2 5]
def n_strips_Solves : Nat := 20
theorem k_strips_Solves : chkFn Go.Proofs.Try.prog 29 n_strips_Solves r_strips_Solves c_strips_Solves = true := by kernel_rfl
theorem f_strips_Solves_bad (t : STask) (ho : SkOk t) (plan : List Int) (hl : plan.length ≤ 140737488355328) (hb : plFault t plan ≠ okF) : Fc Go.Proofs.Try.prog 29 [skV t, .sl .p (plan.map i64V)] (.tup [.bool false, ftV (plFault t plan)]) := by
  refine Fn.step mixed k_strips_Solves ?_
  repeat' (first | refine i_len rfl ?_ | refine i_s rfl ?_ | refine i_lenm rfl rfl rfl ?_ | refine c_seq ?_ | refine c_cut0 ?_ | refine c_ops ?_ | refine i_nil ?_ | refine e_seq ?_ | refine e_block ?_ | refine c_block ?_ | refine c_skip ?_ | refine c_ret ?_ | refine c_exit ?_ | refine e_exit rfl ?_ | refine i_s0 rfl ?_ | refine c_leaf ?_ | refine i_gt rfl ?_ | refine i_gf rfl ?_ | refine i_gd rfl ?_ | refine c_t rfl ?_ | refine c_f rfl ?_ | refine i_conv rfl (by simp only [InR, List.length_map]; omega) ?_ | refine i_add rfl rfl (by simp only [InR, List.length_map]; omega) ?_ | refine i_sub rfl rfl (by simp only [InR, List.length_map]; omega) ?_ | refine i_ixm rfl rfl (by assumption) ?_ | refine i_iai rfl rfl (by omega) (by assumption) rfl ?_ | refine i_iam rfl rfl (by assumption) rfl ?_ | refine i_tk rfl rfl (by omega) ?_ | refine i_stb rfl ?_ | refine i_alloc rfl ?_ | refine i_box rfl rfl ?_ | refine i_nv rfl ?_ | refine c_node ?_ ?_ | refine i_g rfl (fun h => ?_) (fun h => ?_) | refine c_cond rfl (fun h => ?_) (fun h => ?_) | refine i_f rfl rfl (f_strips_PlanFault t ho plan hl) rfl ?_)
  · exact e_ret ⟨rfl, _, rfl, rfl⟩
  · exact absurd (eq_ok h) hb
theorem f_strips_Solves_ok (t : STask) (ho : SkOk t) (plan : List Int) (hb : plFault t plan = okF) : Fc Go.Proofs.Try.prog 29 [skV t, .sl .p (plan.map i64V)] (.tup [.bool (worksB t t.init plan), ftV okF]) := by
  obtain ⟨hv, h60, hr, _⟩ := plFault_ok hb
  have hF := f_strips_PlanFault t ho plan (by omega)
  rw [hb] at hF
  have hW := f_strips_Works t hv t.init hv.init plan (by omega) hr
  refine Fn.step mixed k_strips_Solves ?_
  repeat' (first | refine i_len rfl ?_ | refine i_s rfl ?_ | refine i_lenm rfl rfl rfl ?_ | refine c_seq ?_ | refine c_cut0 ?_ | refine c_ops ?_ | refine i_nil ?_ | refine e_seq ?_ | refine e_block ?_ | refine c_block ?_ | refine c_skip ?_ | refine c_ret ?_ | refine c_exit ?_ | refine e_exit rfl ?_ | refine i_s0 rfl ?_ | refine c_leaf ?_ | refine i_gt rfl ?_ | refine i_gf rfl ?_ | refine i_gd rfl ?_ | refine c_t rfl ?_ | refine c_f rfl ?_ | refine i_conv rfl (by simp only [InR, List.length_map]; omega) ?_ | refine i_add rfl rfl (by simp only [InR, List.length_map]; omega) ?_ | refine i_sub rfl rfl (by simp only [InR, List.length_map]; omega) ?_ | refine i_ixm rfl rfl (by assumption) ?_ | refine i_iai rfl rfl (by omega) (by assumption) rfl ?_ | refine i_iam rfl rfl (by assumption) rfl ?_ | refine i_tk rfl rfl (by omega) ?_ | refine i_stb rfl ?_ | refine i_alloc rfl ?_ | refine i_box rfl rfl ?_ | refine i_nv rfl ?_ | refine c_node ?_ ?_ | refine i_g rfl (fun h => ?_) (fun h => ?_) | refine c_cond rfl (fun h => ?_) (fun h => ?_) | refine i_f rfl rfl (hF) rfl ?_ | refine i_f rfl rfl (hW) rfl ?_)
  exact e_ret ⟨rfl, _, rfl, rfl⟩
def c_strips_Cost : Cmd :=
  (.seq
   (.ops [
   .op (some 2) none (.box 1920132 4 (.t 0)),
   .op (some 4) none (.mov (.c (.int .i64 (0)))),
   .op (some 5) none (.alloc 1920322 (.agg [.int .i64 (0), .int .i64 (0)]))])
   (.cut
   (.seq
   (.seq
   (.ops [
   .op (some 10) none (.load true 4 (.t 2)),
   .op (some 11) none (.mov (.t 1)),
   .op (some 12) none (.call .f (.c (.fn 50 [])) [.t 10, .t 11]),
   .op (some 6) none (.alloc 1920386 (.agg [.int .i64 (0), .int .i64 (0)])),
   .op none none (.store 2 (.t 6) (.t 12))])
   (.cut
   (.seq
   (.ops [
   .op (some 13) none (.load true 2 (.t 6)),
   .op (some 14) none (.build [.int .i64 (0), .int .i64 (0)] []),
   .op (some 15) none (.bin .neq true [.i, .i] (.t 13) (.t 14))])
   (.cut
   (.cond (.t 15)
   (.seq
   (.ops [
   .op (some 16) none (.load true 2 (.t 6)),
   .op (some 4) none (.mov (.c (.int .i64 (0)))),
   .op none none (.store 2 (.t 5) (.t 16))])
   .ret)
   .skip)))))
   (.cut
   (.seq
   (.ops [
   .op (some 7) none (.mov (.c (.int .i64 (0))))])
   (.cut
   (.seq
   (.seq
   (.ops [
   .op (some 17) none (.mov (.t 1)),
   .op (some 18) none (.len false (.t 17)),
   .op (some 19) none (.mov (.c (.int .i64 (0))))])
   (.cut
   (.block 0
   (.loop
   (.seq
   (.ops [
   .op (some 20) none (.bin .lss false [] (.t 19) (.t 18))])
   (.cut
   (.seq
   (.cond (.t 20)
   .skip
   (.exit 0))
   (.cut
   (.seq
   (.block 1
   (.seq
   (.ops [
   .op (some 21) none (.iaddr 1 (.t 17) (.t 19)),
   .op (some 22) none (.load false 1 (.t 21)),
   .op (some 9) none (.mov (.t 22))])
   (.cut
   (.ops [
   .op (some 23) none (.mov (.t 7)),
   .op (some 24) none (.faddr 3 (.t 2)),
   .op (some 25) none (.load false 1 (.t 24)),
   .op (some 26) none (.mov (.t 9)),
   .op (some 27) none (.iaddr 4 (.t 25) (.t 26)),
   .op (some 28) none (.faddr 3 (.t 27)),
   .op (some 29) none (.load false 1 (.t 28)),
   .op (some 30) none (.bin .add false [] (.t 23) (.t 29)),
   .op (some 7) none (.mov (.t 30))]))))
   (.cut
   (.ops [
   .op (some 31) none (.bin .add false [] (.t 19) (.c (.int .i64 (1)))),
   .op (some 19) none (.mov (.t 31))])))))))))))
   (.cut
   (.seq
   (.ops [
   .op (some 32) none (.mov (.t 7)),
   .op (some 33) none (.build [.int .i64 (0), .int .i64 (0)] []),
   .op (some 4) none (.mov (.t 32)),
   .op none none (.store 2 (.t 5) (.t 33))])
   .ret)))))))))
def r_strips_Cost : List RVar := [.tmp 4, .cell true 2 5]
def n_strips_Cost : Nat := 34
theorem k_strips_Cost : chkFn Go.Proofs.Try.prog 30 n_strips_Cost r_strips_Cost c_strips_Cost = true := by kernel_rfl
theorem f_strips_Cost_bad (t : STask) (ho : SkOk t) (plan : List Int) (hl : plan.length ≤ 140737488355328) (hb : plFault t plan ≠ okF) : Fc Go.Proofs.Try.prog 30 [skV t, .sl .p (plan.map i64V)] (.tup [.int .i64 0, ftV (plFault t plan)]) := by
  refine Fn.step mixed k_strips_Cost ?_
  repeat' (first | refine i_len rfl ?_ | refine i_s rfl ?_ | refine i_lenm rfl rfl rfl ?_ | refine c_seq ?_ | refine c_cut0 ?_ | refine c_ops ?_ | refine i_nil ?_ | refine e_seq ?_ | refine e_block ?_ | refine c_block ?_ | refine c_skip ?_ | refine c_ret ?_ | refine c_exit ?_ | refine e_exit rfl ?_ | refine i_s0 rfl ?_ | refine c_leaf ?_ | refine i_gt rfl ?_ | refine i_gf rfl ?_ | refine i_gd rfl ?_ | refine c_t rfl ?_ | refine c_f rfl ?_ | refine i_conv rfl (by simp only [InR, List.length_map]; omega) ?_ | refine i_add rfl rfl (by simp only [InR, List.length_map]; omega) ?_ | refine i_sub rfl rfl (by simp only [InR, List.length_map]; omega) ?_ | refine i_ixm rfl rfl (by assumption) ?_ | refine i_iai rfl rfl (by omega) (by assumption) rfl ?_ | refine i_iam rfl rfl (by assumption) rfl ?_ | refine i_tk rfl rfl (by omega) ?_ | refine i_stb rfl ?_ | refine i_alloc rfl ?_ | refine i_box rfl rfl ?_ | refine i_nv rfl ?_ | refine c_node ?_ ?_ | refine i_g rfl (fun h => ?_) (fun h => ?_) | refine c_cond rfl (fun h => ?_) (fun h => ?_) | refine i_f rfl rfl (f_strips_PlanFault t ho plan hl) rfl ?_)
  · exact e_ret ⟨rfl, _, rfl, rfl⟩
  · exact absurd (eq_ok h) hb
theorem f_strips_Cost_ok (t : STask) (ho : SkOk t) (plan : List Int) (hb : plFault t plan = okF) : Fc Go.Proofs.Try.prog 30 [skV t, .sl .p (plan.map i64V)] (.tup [.int .i64 (costS t plan), ftV okF]) := by
  obtain ⟨hv, h60, hr, _⟩ := plFault_ok hb
  have hF := f_strips_PlanFault t ho plan (by omega)
  rw [hb] at hF
  refine Fn.step mixed k_strips_Cost ?_
  repeat' (first | refine i_len rfl ?_ | refine i_s rfl ?_ | refine i_lenm rfl rfl rfl ?_ | refine c_seq ?_ | refine c_cut0 ?_ | refine c_ops ?_ | refine i_nil ?_ | refine e_seq ?_ | refine e_block ?_ | refine c_block ?_ | refine c_skip ?_ | refine c_ret ?_ | refine c_exit ?_ | refine e_exit rfl ?_ | refine i_s0 rfl ?_ | refine c_leaf ?_ | refine i_gt rfl ?_ | refine i_gf rfl ?_ | refine i_gd rfl ?_ | refine c_t rfl ?_ | refine c_f rfl ?_ | refine i_conv rfl (by simp only [InR, List.length_map]; omega) ?_ | refine i_add rfl rfl (by simp only [InR, List.length_map]; omega) ?_ | refine i_sub rfl rfl (by simp only [InR, List.length_map]; omega) ?_ | refine i_ixm rfl rfl (by assumption) ?_ | refine i_iai rfl rfl (by omega) (by assumption) rfl ?_ | refine i_iam rfl rfl (by assumption) rfl ?_ | refine i_tk rfl rfl (by omega) ?_ | refine i_stb rfl ?_ | refine i_alloc rfl ?_ | refine i_box rfl rfl ?_ | refine i_nv rfl ?_ | refine c_node ?_ ?_ | refine i_g rfl (fun h => ?_) (fun h => ?_) | refine c_cond rfl (fun h => ?_) (fun h => ?_) | refine i_f rfl rfl (hF) rfl ?_)
  refine c_for plan.length (fun k => [(2, .bptr 1920132 0), (5, .bptr 1920322 0), (7, .int .i64 (costS t (plan.take k))), (17, .sl .p (plan.map i64V)), (18, .int .i64 plan.length), (19, .int .i64 k)]) (fun _ => [(1920132, .box (skV t)), (1920322, .box (ftV okF))]) (fun _ => True) trivial ⟨by repeat (first | exact trivial | refine ⟨rfl, ?_⟩), by repeat (first | exact trivial | refine ⟨rfl, ?_⟩), rfl⟩ fun k hk _ => ?_
  clear hF
  repeat (first | refine i_len rfl ?_ | refine i_s rfl ?_ | refine i_lenm rfl rfl rfl ?_ | refine c_seq ?_ | refine c_cut0 ?_ | refine c_ops ?_ | refine i_nil ?_ | refine e_seq ?_ | refine e_block ?_ | refine c_block ?_ | refine c_skip ?_ | refine c_ret ?_ | refine c_exit ?_ | refine e_exit rfl ?_ | refine i_s0 rfl ?_ | refine c_leaf ?_ | refine i_gt rfl ?_ | refine i_gf rfl ?_ | refine i_gd rfl ?_ | refine c_t rfl ?_ | refine c_f rfl ?_ | refine i_conv rfl (by simp only [InR, List.length_map]; omega) ?_ | refine i_add rfl rfl (by simp only [InR, List.length_map]; omega) ?_ | refine i_sub rfl rfl (by simp only [InR, List.length_map]; omega) ?_ | refine i_ixm rfl rfl (by assumption) ?_ | refine i_iai rfl rfl (by omega) (by assumption) rfl ?_ | refine i_iam rfl rfl (by assumption) rfl ?_ | refine i_tk rfl rfl (by omega) ?_ | refine i_stb rfl ?_ | refine i_alloc rfl ?_ | refine i_box rfl rfl ?_ | refine i_nv rfl ?_)
  refine c_cond rfl (fun h => ?_) (fun h => ?_)
  · have hlt : k < plan.length := by simpa using h
    obtain ⟨x, hx⟩ := get_some hlt
    obtain ⟨x0, x1⟩ := hr x (mem_get hx)
    obtain ⟨o, hc⟩ := get_some (l := t.ops) (k := x.toNat) (by omega)
    have hcr := costS_range hv (plan.take k)
    have hoo := hv.op o (mem_get hc)
    have c0 := hoo.c0
    have c1 := hoo.c1
    have htl : (plan.take k).length ≤ 60 := by simp; omega
    have e : costS t (plan.take (k + 1)) = costS t (plan.take k) + o.cost := by rw [take_succ_get hx, costS_snoc, show costAtS t x = o.cost from by simp [costAtS, hc]]
    clear h hr hv hoo
    repeat (first | refine i_len rfl ?_ | refine i_s rfl ?_ | refine i_lenm rfl rfl rfl ?_ | refine c_seq ?_ | refine c_cut0 ?_ | refine c_ops ?_ | refine i_nil ?_ | refine e_seq ?_ | refine e_block ?_ | refine c_block ?_ | refine c_skip ?_ | refine c_ret ?_ | refine c_exit ?_ | refine e_exit rfl ?_ | refine i_s0 rfl ?_ | refine c_leaf ?_ | refine i_gt rfl ?_ | refine i_gf rfl ?_ | refine i_gd rfl ?_ | refine c_t rfl ?_ | refine c_f rfl ?_ | refine i_conv rfl (by simp only [InR, List.length_map]; omega) ?_ | refine i_add rfl rfl (by simp only [InR, List.length_map]; omega) ?_ | refine i_sub rfl rfl (by simp only [InR, List.length_map]; omega) ?_ | refine i_ixm rfl rfl (by assumption) ?_ | refine i_iai rfl rfl (by omega) (by assumption) rfl ?_ | refine i_iam rfl rfl (by assumption) rfl ?_ | refine i_tk rfl rfl (by omega) ?_ | refine i_stb rfl ?_ | refine i_alloc rfl ?_ | refine i_box rfl rfl ?_ | refine i_nv rfl ?_)
    refine e_for hlt trivial ⟨⟨rfl, rfl, ?_, rfl, rfl, rfl, trivial⟩, ⟨rfl, rfl, trivial⟩, rfl⟩
    rw [e]; rfl
  · have hge : k = plan.length := by have : ¬ k < plan.length := by simpa using h
                                     omega
    subst hge
    rw [List.take_length]
    repeat (first | refine i_len rfl ?_ | refine i_s rfl ?_ | refine i_lenm rfl rfl rfl ?_ | refine c_seq ?_ | refine c_cut0 ?_ | refine c_ops ?_ | refine i_nil ?_ | refine e_seq ?_ | refine e_block ?_ | refine c_block ?_ | refine c_skip ?_ | refine c_ret ?_ | refine c_exit ?_ | refine e_exit rfl ?_ | refine i_s0 rfl ?_ | refine c_leaf ?_ | refine i_gt rfl ?_ | refine i_gf rfl ?_ | refine i_gd rfl ?_ | refine c_t rfl ?_ | refine c_f rfl ?_ | refine i_conv rfl (by simp only [InR, List.length_map]; omega) ?_ | refine i_add rfl rfl (by simp only [InR, List.length_map]; omega) ?_ | refine i_sub rfl rfl (by simp only [InR, List.length_map]; omega) ?_ | refine i_ixm rfl rfl (by assumption) ?_ | refine i_iai rfl rfl (by omega) (by assumption) rfl ?_ | refine i_iam rfl rfl (by assumption) rfl ?_ | refine i_tk rfl rfl (by omega) ?_ | refine i_stb rfl ?_ | refine i_alloc rfl ?_ | refine i_box rfl rfl ?_ | refine i_nv rfl ?_)
    exact e_ret ⟨rfl, _, rfl, rfl⟩
def playF (t : STask) (s plan : List Int) : Flt := if stFault t s = okF then (if stepsF t.ops.length plan = okF then (if (runT t s plan).length = plan.length then okF else ⟨11, (runT t s plan).length⟩) else stepsF t.ops.length plan) else stFault t s
def playL (t : STask) (s plan : List Int) : List (List Int) := if playF t s plan = okF then s :: runT t s plan else []
def c_strips_Play : Cmd :=
  (.seq
   (.ops [
   .op (some 3) none (.box 1792196 4 (.t 0)),
   .op (some 6) none (.mov (.c (.sl .nil []))),
   .op (some 7) none (.alloc 1792450 (.agg [.int .i64 (0), .int .i64 (0)]))])
   (.cut
   (.seq
   (.ops [
   .op (some 10) none (.load true 4 (.t 3)),
   .op (some 11) none (.mov (.t 1)),
   .op (some 12) none (.call .f (.c (.fn 47 [])) [.t 10, .t 11]),
   .op (some 8) none (.alloc 1792514 (.agg [.int .i64 (0), .int .i64 (0)])),
   .op none none (.store 2 (.t 8) (.t 12))])
   (.cut
   (.seq
   (.seq
   (.ops [
   .op (some 13) none (.load true 2 (.t 8)),
   .op (some 14) none (.build [.int .i64 (0), .int .i64 (0)] []),
   .op (some 15) none (.bin .eql true [.i, .i] (.t 13) (.t 14))])
   (.cut
   (.cond (.t 15)
   (.ops [
   .op (some 16) none (.faddr 3 (.t 3)),
   .op (some 17) none (.load false 1 (.t 16)),
   .op (some 18) none (.len false (.t 17)),
   .op (some 19) none (.mov (.t 2)),
   .op (some 20) none (.call .f (.c (.fn 48 [])) [.t 18, .t 19]),
   .op none none (.store 2 (.t 8) (.t 20))])
   .skip)))
   (.cut
   (.seq
   (.seq
   (.ops [
   .op (some 21) none (.load true 2 (.t 8)),
   .op (some 22) none (.build [.int .i64 (0), .int .i64 (0)] []),
   .op (some 23) none (.bin .neq true [.i, .i] (.t 21) (.t 22))])
   (.cut
   (.cond (.t 23)
   (.seq
   (.ops [
   .op (some 24) none (.load true 2 (.t 8)),
   .op (some 6) none (.mov (.c (.sl .nil []))),
   .op none none (.store 2 (.t 7) (.t 24))])
   .ret)
   .skip)))
   (.cut
   (.seq
   (.ops [
   .op (some 25) none (.load true 4 (.t 3)),
   .op (some 26) none (.mov (.t 1)),
   .op (some 27) none (.mov (.t 2)),
   .op (some 28) none (.call .f (.c (.fn 49 [])) [.t 25, .t 26, .t 27]),
   .op (some 9) none (.mov (.t 28))])
   (.cut
   (.seq
   (.seq
   (.ops [
   .op (some 29) none (.mov (.t 9)),
   .op (some 30) none (.len false (.t 29)),
   .op (some 31) none (.mov (.t 2)),
   .op (some 32) none (.len false (.t 31)),
   .op (some 33) none (.bin .leq false [] (.t 30) (.t 32))])
   (.cut
   (.cond (.t 33)
   (.seq
   (.ops [
   .op (some 34) none (.mov (.t 9)),
   .op (some 35) none (.len false (.t 34)),
   .op (some 36) none (.bin .sub false [] (.t 35) (.c (.int .i64 (1)))),
   .op (some 37) none (.build [.int .i64 (0), .int .i64 (0)] [(0, 1, .c (.int .i64 (11))), (1, 1, .t 36)]),
   .op (some 6) none (.mov (.c (.sl .nil []))),
   .op none none (.store 2 (.t 7) (.t 37))])
   .ret)
   .skip)))
   (.cut
   (.seq
   (.ops [
   .op (some 38) none (.mov (.t 9)),
   .op (some 39) none (.build [.int .i64 (0), .int .i64 (0)] []),
   .op (some 6) none (.mov (.t 38)),
   .op none none (.store 2 (.t 7) (.t 39))])
   .ret)))))))))))))
def r_strips_Play : List RVar := [.tmp 6, .cell true 2 7]
def n_strips_Play : Nat := 40
theorem k_strips_Play : chkFn Go.Proofs.Try.prog 28 n_strips_Play r_strips_Play c_strips_Play = true := by kernel_rfl
theorem f_strips_Play (t : STask) (ho : SkOk t) (s : List Int) (hs : s.length ≤ 140737488355328) (plan : List Int) (hl : plan.length ≤ 140737488355328) : Fc Go.Proofs.Try.prog 28 [skV t, .sl .p (s.map i64V), .sl .p (plan.map i64V)] (.tup [.sl .p ((playL t s plan).map ssV), ftV (playF t s plan)]) := by
  have hF := f_strips_StateFault t ho s hs
  have hS := f_strips_Steps t.ops.length plan hl
  have l5 := ho.o
  by_cases h1 : stFault t s = okF
  · rw [h1] at hF
    obtain ⟨hv, hss, _⟩ := stFault_ok h1
    by_cases h2 : stepsF t.ops.length plan = okF
    · rw [h2] at hS
      obtain ⟨h60, hr⟩ := stepsF_ok h2
      have hR := f_strips_Run t hv s hss plan (by omega) hr
      have hle := run_len_le t plan s
      by_cases h3 : (runT t s plan).length = plan.length
      · have e : playF t s plan = okF := by unfold playF; rw [if_pos h1, if_pos h2, if_pos h3]
        unfold playL
        rw [e, if_pos rfl]
        have hl2 : (s :: runT t s plan).length = plan.length + 1 := by simp [h3]
        generalize s :: runT t s plan = L at *
        refine Fn.step mixed k_strips_Play ?_
        repeat' (first | refine i_len rfl ?_ | refine i_s rfl ?_ | refine i_lenm rfl rfl rfl ?_ | refine c_seq ?_ | refine c_cut0 ?_ | refine c_ops ?_ | refine i_nil ?_ | refine e_seq ?_ | refine e_block ?_ | refine c_block ?_ | refine c_skip ?_ | refine c_ret ?_ | refine c_exit ?_ | refine e_exit rfl ?_ | refine i_s0 rfl ?_ | refine c_leaf ?_ | refine i_gt rfl ?_ | refine i_gf rfl ?_ | refine i_gd rfl ?_ | refine c_t rfl ?_ | refine c_f rfl ?_ | refine i_conv rfl (by simp only [InR, List.length_map]; omega) ?_ | refine i_add rfl rfl (by simp only [InR, List.length_map]; omega) ?_ | refine i_sub rfl rfl (by simp only [InR, List.length_map]; omega) ?_ | refine i_ixm rfl rfl (by assumption) ?_ | refine i_iai rfl rfl (by omega) (by assumption) rfl ?_ | refine i_iam rfl rfl (by assumption) rfl ?_ | refine i_tk rfl rfl (by omega) ?_ | refine i_stb rfl ?_ | refine i_alloc rfl ?_ | refine i_box rfl rfl ?_ | refine i_nv rfl ?_ | refine c_node ?_ ?_ | refine i_g rfl (fun h => ?_) (fun h => ?_) | refine c_cond rfl (fun h => ?_) (fun h => ?_) | refine i_f rfl rfl (hF) rfl ?_ | refine i_f rfl rfl (hS) rfl ?_ | refine i_f rfl rfl (hR) rfl ?_)
        all_goals first
          | exact e_ret ⟨rfl, _, rfl, rfl⟩
          | (exfalso; clear hF hS hR ho hv hss; simp at *; omega)
      · have e : playF t s plan = ⟨11, (runT t s plan).length⟩ := by unfold playF; rw [if_pos h1, if_pos h2, if_neg h3]
        unfold playL
        rw [e, if_neg (by simp [okF])]
        have hl2 : (s :: runT t s plan).length = (runT t s plan).length + 1 := by simp
        generalize hR2 : (runT t s plan).length = rl at *
        generalize s :: runT t s plan = L at *
        refine Fn.step mixed k_strips_Play ?_
        repeat' (first | refine i_len rfl ?_ | refine i_s rfl ?_ | refine i_lenm rfl rfl rfl ?_ | refine c_seq ?_ | refine c_cut0 ?_ | refine c_ops ?_ | refine i_nil ?_ | refine e_seq ?_ | refine e_block ?_ | refine c_block ?_ | refine c_skip ?_ | refine c_ret ?_ | refine c_exit ?_ | refine e_exit rfl ?_ | refine i_s0 rfl ?_ | refine c_leaf ?_ | refine i_gt rfl ?_ | refine i_gf rfl ?_ | refine i_gd rfl ?_ | refine c_t rfl ?_ | refine c_f rfl ?_ | refine i_conv rfl (by simp only [InR, List.length_map]; omega) ?_ | refine i_add rfl rfl (by simp only [InR, List.length_map]; omega) ?_ | refine i_sub rfl rfl (by simp only [InR, List.length_map]; omega) ?_ | refine i_ixm rfl rfl (by assumption) ?_ | refine i_iai rfl rfl (by omega) (by assumption) rfl ?_ | refine i_iam rfl rfl (by assumption) rfl ?_ | refine i_tk rfl rfl (by omega) ?_ | refine i_stb rfl ?_ | refine i_alloc rfl ?_ | refine i_box rfl rfl ?_ | refine i_nv rfl ?_ | refine c_node ?_ ?_ | refine i_g rfl (fun h => ?_) (fun h => ?_) | refine c_cond rfl (fun h => ?_) (fun h => ?_) | refine i_f rfl rfl (hF) rfl ?_ | refine i_f rfl rfl (hS) rfl ?_ | refine i_f rfl rfl (hR) rfl ?_)
        all_goals first
          | (refine e_ret ⟨rfl, _, rfl, ?_⟩
             show _ = V.tup [.sl .p [], .agg [.int .i64 11, .int .i64 ((L.length : Int) - 1)]]
             rw [show ((L.length : Int) - 1) = rl from by omega]
             rfl)
          | (exfalso; clear hF hS hR ho hv hss; simp at *; omega)
    · have e : playF t s plan = stepsF t.ops.length plan := by unfold playF; rw [if_pos h1, if_neg h2]
      unfold playL
      rw [e, if_neg h2]
      refine Fn.step mixed k_strips_Play ?_
      repeat' (first | refine i_len rfl ?_ | refine i_s rfl ?_ | refine i_lenm rfl rfl rfl ?_ | refine c_seq ?_ | refine c_cut0 ?_ | refine c_ops ?_ | refine i_nil ?_ | refine e_seq ?_ | refine e_block ?_ | refine c_block ?_ | refine c_skip ?_ | refine c_ret ?_ | refine c_exit ?_ | refine e_exit rfl ?_ | refine i_s0 rfl ?_ | refine c_leaf ?_ | refine i_gt rfl ?_ | refine i_gf rfl ?_ | refine i_gd rfl ?_ | refine c_t rfl ?_ | refine c_f rfl ?_ | refine i_conv rfl (by simp only [InR, List.length_map]; omega) ?_ | refine i_add rfl rfl (by simp only [InR, List.length_map]; omega) ?_ | refine i_sub rfl rfl (by simp only [InR, List.length_map]; omega) ?_ | refine i_ixm rfl rfl (by assumption) ?_ | refine i_iai rfl rfl (by omega) (by assumption) rfl ?_ | refine i_iam rfl rfl (by assumption) rfl ?_ | refine i_tk rfl rfl (by omega) ?_ | refine i_stb rfl ?_ | refine i_alloc rfl ?_ | refine i_box rfl rfl ?_ | refine i_nv rfl ?_ | refine c_node ?_ ?_ | refine i_g rfl (fun h => ?_) (fun h => ?_) | refine c_cond rfl (fun h => ?_) (fun h => ?_) | refine i_f rfl rfl (hF) rfl ?_ | refine i_f rfl rfl (hS) rfl ?_)
      · exact e_ret ⟨rfl, _, rfl, rfl⟩
      all_goals exact absurd (eq_ok (by assumption)) h2
  · have e : playF t s plan = stFault t s := by unfold playF; rw [if_neg h1]
    unfold playL
    rw [e, if_neg h1]
    refine Fn.step mixed k_strips_Play ?_
    repeat' (first | refine i_len rfl ?_ | refine i_s rfl ?_ | refine i_lenm rfl rfl rfl ?_ | refine c_seq ?_ | refine c_cut0 ?_ | refine c_ops ?_ | refine i_nil ?_ | refine e_seq ?_ | refine e_block ?_ | refine c_block ?_ | refine c_skip ?_ | refine c_ret ?_ | refine c_exit ?_ | refine e_exit rfl ?_ | refine i_s0 rfl ?_ | refine c_leaf ?_ | refine i_gt rfl ?_ | refine i_gf rfl ?_ | refine i_gd rfl ?_ | refine c_t rfl ?_ | refine c_f rfl ?_ | refine i_conv rfl (by simp only [InR, List.length_map]; omega) ?_ | refine i_add rfl rfl (by simp only [InR, List.length_map]; omega) ?_ | refine i_sub rfl rfl (by simp only [InR, List.length_map]; omega) ?_ | refine i_ixm rfl rfl (by assumption) ?_ | refine i_iai rfl rfl (by omega) (by assumption) rfl ?_ | refine i_iam rfl rfl (by assumption) rfl ?_ | refine i_tk rfl rfl (by omega) ?_ | refine i_stb rfl ?_ | refine i_alloc rfl ?_ | refine i_box rfl rfl ?_ | refine i_nv rfl ?_ | refine c_node ?_ ?_ | refine i_g rfl (fun h => ?_) (fun h => ?_) | refine c_cond rfl (fun h => ?_) (fun h => ?_) | refine i_f rfl rfl (hF) rfl ?_ | refine i_f rfl rfl (hS) rfl ?_)
    all_goals first
      | exact e_ret ⟨rfl, _, rfl, rfl⟩
      | exact absurd (eq_ok' (by assumption)) h1
      | exact absurd (eq_ok (by assumption)) h1
end Hm
end
