/- Part Y5PA of the proof. -/
import Derived.Test.YtcafpbooikaahaaGreatYPB
import Derived.Test.YtcafpbooikaahaaGreatY5A
set_option linter.unusedVariables false
set_option linter.unusedSimpArgs false
section
namespace Hm
open Go
set_option maxRecDepth 100000
set_option maxHeartbeats 1000000
def c_R1_In : Cmd :=
 (qS [qb 6 false]
 (.seq (.ops [qm 7 0, qm 8 1, qu 9 .geq [] 7 8, qm 10 9, qg 11 10 true (.mov (.t 0)), qg 12 10 true (.mov (.t 2)), qg 13 10 true (.bin .leq false [] (.t 11) (.t 12)), qq 14 (.pick (.t 10) (.t 13) (.c (.bool false))), qm 6 14]) .ret))
def r_R1_In : List RVar := [.tmp 6]
def n_R1_In : Nat := 15
theorem k_R1_In : chkFn Go.Proofs.Tryz.prog 59 n_R1_In r_R1_In c_R1_In = true := by kernel_rfl
theorem f_R1_In (x lo hi : Int) : Fc Go.Proofs.Tryz.prog 59 [.int .i64 x, .int .i64 lo, .int .i64 hi] (.bool (decide (lo ≤ x) && decide (x ≤ hi))) := by
  refine Fn.step mixed k_R1_In ?_
  repeat' (first | refine i_s rfl ?_ | refine sw ?_ | refine i_gt rfl ?_ | refine i_gf rfl ?_ | refine i_g rfl (fun h => ?_) (fun h => ?_))
  all_goals refine e_ret ⟨rfl, _, rfl, congrArg V.bool ?_⟩
  · have := of_decide_eq_true h; simp; omega
  · have := of_decide_eq_false h; simp; omega
end Hm
end
section
namespace Hm
open Go
def allN (p : Nat → Bool) (n : Nat) : Bool := (List.range n).all p
theorem allN_bad {p : Nat → Bool} {n k : Nat} (hk : k < n) (h : p k = false) : allN p n = false := by
  unfold allN
  rw [List.all_eq_false]
  exact ⟨k, List.mem_range.2 hk, by simp [h]⟩
theorem allN_ok {p : Nat → Bool} {n : Nat} (h : ∀ j, j < n → p j = true) : allN p n = true := by
  unfold allN
  rw [List.all_eq_true]
  exact fun j hj => h j (List.mem_range.1 hj)
theorem allN_get {p : Nat → Bool} {n : Nat} (h : allN p n = true) {j : Nat} (hj : j < n) : p j = true := (List.all_eq_true.1 h) j (List.mem_range.2 hj)
def setAt (n : Int) (l : List Int) (i : Nat) : Bool := match l[i]? with
  | some x => decide (0 ≤ x) && decide (x < n) && (decide (i = 0) || (match l[i - 1]? with
    | some y => decide (y < x)
    | none => true))
  | none => false
def isSetB (n : Int) (l : List Int) : Bool := allN (setAt n l) l.length
def SS (l : List Int) : Prop := l.Pairwise (· < ·)
theorem ss_of_adj : ∀ l : List Int, (∀ i x y, l[i]? = some x → l[i + 1]? = some y → x < y) → SS l
  | [], _ => List.Pairwise.nil
  | [x], _ => List.pairwise_singleton _ _
  | x :: y :: r, h => by
    have ih : SS (y :: r) := ss_of_adj (y :: r) fun i a b h1 h2 => h (i + 1) a b h1 h2
    have hxy : x < y := h 0 x y rfl rfl
    refine List.Pairwise.cons (fun z hz => ?_) ih
    rcases List.mem_cons.1 hz with rfl | hz
    · exact hxy
    · exact Int.lt_trans hxy ((List.pairwise_cons.1 ih).1 z hz)
theorem ss_idx {l : List Int} (h : SS l) {i j : Nat} {x y : Int} (hi : l[i]? = some x) (hj : l[j]? = some y) (hij : i < j) : x < y := by
  obtain ⟨h1, e1⟩ := List.getElem?_eq_some_iff.1 hi
  obtain ⟨h2, e2⟩ := List.getElem?_eq_some_iff.1 hj
  have := List.pairwise_iff_getElem.1 h i j h1 h2 hij
  rw [e1, e2] at this
  exact this
structure IsSet (n : Int) (l : List Int) : Prop where
  ss : SS l
  rng : ∀ x ∈ l, 0 ≤ x ∧ x < n
theorem isSet_of {n : Int} {l : List Int} (h : isSetB n l = true) : IsSet n l := by
  refine ⟨ss_of_adj l fun i x y h1 h2 => ?_, fun x hx => ?_⟩
  · have := allN_get h (get_lt h2)
    unfold setAt at this
    rw [h2] at this
    simp only [Nat.add_sub_cancel, h1, Bool.and_eq_true, Bool.or_eq_true, decide_eq_true_eq] at this
    rcases this.2 with e | e
    · omega
    · exact e
  · obtain ⟨i, hi, e⟩ := List.getElem_of_mem hx
    have hg : l[i]? = some x := by rw [← e]; exact List.getElem?_eq_getElem hi
    have := allN_get h hi
    unfold setAt at this
    rw [hg] at this
    simp only [Bool.and_eq_true, decide_eq_true_eq] at this
    exact this.1
theorem isSet_to {n : Int} {l : List Int} (h : IsSet n l) : isSetB n l = true := by
  refine allN_ok fun i hi => ?_
  obtain ⟨x, hx⟩ := get_some hi
  obtain ⟨h0, h1⟩ := h.rng x (mem_get hx)
  unfold setAt
  rw [hx]
  simp only [Bool.and_eq_true, Bool.or_eq_true, decide_eq_true_eq]
  refine ⟨⟨h0, h1⟩, ?_⟩
  by_cases e : i = 0
  · exact .inl e
  · refine .inr ?_
    obtain ⟨y, hy⟩ := get_some (l := l) (k := i - 1) (by omega)
    rw [hy]
    simpa using ss_idx h.ss hy hx (by omega)
theorem ss_len : ∀ (l : List Int) (m n : Int), SS l → (∀ x ∈ l, m ≤ x ∧ x < n) → m ≤ n → (l.length : Int) ≤ n - m
  | [], m, n, _, _, h => by simp; omega
  | x :: l, m, n, hs, hr, h => by
    have hs' := List.pairwise_cons.1 hs
    have hx := hr x (by simp)
    have := ss_len l (x + 1) n hs'.2 (fun y hy => ⟨by have := hs'.1 y hy; omega, (hr y (by simp [hy])).2⟩) (by omega)
    simp only [List.length_cons]
    omega
theorem isSet_len {n : Int} {l : List Int} (h : IsSet n l) (hn : 0 ≤ n) : (l.length : Int) ≤ n := by
  have := ss_len l 0 n h.ss h.rng hn
  omega
def inclB (part l : List Int) : Bool := part.all fun x => decide (x ∈ l)
def disjB (a b : List Int) : Bool := a.all fun x => decide (x ∉ b)
def meetB (a b : List Int) : Bool := a.any fun x => decide (x ∈ b)
theorem meet_disj (a b : List Int) : meetB a b = !disjB a b := by
  unfold meetB disjB
  induction a with
  | nil => rfl
  | cons x a ih =>
    simp only [List.any_cons, List.all_cons, ih]
    by_cases h : x ∈ b <;> simp [h]
def sopBad (n : Int) (ops : List SOp) (i : Nat) : Option Flt := match ops[i]? with
  | none => none
  | some o => if isSetB n o.pre = false ∨ isSetB n o.add = false ∨ isSetB n o.del = false ∨ disjB o.add o.del = false then some ⟨5, i⟩ else if o.cost < 0 ∨ o.cost > 100 then some ⟨3, i⟩ else none
def sFault (t : STask) : Flt := if t.facts < 0 ∨ t.facts > 24 then ⟨3, -1⟩ else if isSetB t.facts t.init = false then ⟨5, -2⟩ else if isSetB t.facts t.goal = false then ⟨5, -3⟩
  else if t.ops.length > 40 then ⟨2, -1⟩ else (scan (sopBad t.facts t.ops) 0 t.ops.length).getD okF
structure SOv (n : Int) (o : SOp) : Prop where
  pre : IsSet n o.pre
  add : IsSet n o.add
  del : IsSet n o.del
  dis : ∀ x ∈ o.add, x ∉ o.del
  c0 : 0 ≤ o.cost
  c1 : o.cost ≤ 100
structure SV (t : STask) : Prop where
  f0 : 0 ≤ t.facts
  f1 : t.facts ≤ 24
  init : IsSet t.facts t.init
  goal : IsSet t.facts t.goal
  opl : t.ops.length ≤ 40
  op : ∀ o ∈ t.ops, SOv t.facts o
theorem scan_codeS {bad : Nat → Option Flt} (hb : ∀ i f, bad i = some f → f.code ≠ 0) : ∀ n i f, scan bad i n = some f → f.code ≠ 0
  | 0, _, _, h => by cases h
  | n + 1, i, f, h => by
    simp only [scan] at h
    split at h
    · rename_i g e; cases h; exact hb _ _ e
    · exact scan_codeS hb n (i + 1) f h
theorem getD_codeS {o : Option Flt} (hc : ∀ f, o = some f → f.code ≠ 0) (h : (o.getD okF).code = 0) : o = none := by
  cases o with
  | none => rfl
  | some f => exact absurd h (hc f rfl)
theorem sopBad_code (n : Int) (ops : List SOp) (i : Nat) : ∀ f, sopBad n ops i = some f → f.code ≠ 0 := by
  intro f h
  unfold sopBad at h
  split at h
  · cases h
  · repeat' split at h
    all_goals cases h
    all_goals simp
theorem sFault_code (t : STask) : (sFault t).code = 0 → SV t ∧ sFault t = okF := by
  intro h
  have h0 := h
  unfold sFault at h
  split at h
  · cases h
  · rename_i h1
    split at h
    · cases h
    · rename_i h2
      split at h
      · cases h
      · rename_i h3
        split at h
        · cases h
        · rename_i h4
          have hs := getD_codeS (scan_codeS (sopBad_code t.facts t.ops) _ _) h
          refine ⟨⟨by omega, by omega, isSet_of (by simpa using h2), isSet_of (by simpa using h3), by omega, fun o ho => ?_⟩, ?_⟩
          · obtain ⟨i, hi, e⟩ := List.getElem_of_mem ho
            have hg : t.ops[i]? = some o := by rw [← e]; exact List.getElem?_eq_getElem hi
            have := scan_all _ _ hs i (Nat.zero_le _) (by omega)
            unfold sopBad at this
            rw [hg] at this
            simp only at this
            split at this
            · cases this
            · rename_i q1
              split at this
              · cases this
              · rename_i q2
                simp only [not_or, Bool.not_eq_false] at q1
                refine ⟨isSet_of q1.1, isSet_of q1.2.1, isSet_of q1.2.2.1, fun x hx => ?_, by omega, by omega⟩
                have := List.all_eq_true.1 q1.2.2.2 x hx
                simpa using this
          · unfold sFault
            rw [if_neg h1, if_neg h2, if_neg h3, if_neg h4, hs]
            rfl
theorem sFault_ok {t : STask} (h : sFault t = okF) : SV t := (sFault_code t (by rw [h]; rfl)).1
theorem sFault_iff (t : STask) : (sFault t).code = 0 ↔ sFault t = okF := ⟨fun h => (sFault_code t h).2, fun h => by rw [h]; rfl⟩
theorem sFault_of {t : STask} (h : SV t) : sFault t = okF := by
  unfold sFault
  rw [if_neg (by have := h.f0; have := h.f1; omega), if_neg (by simp [isSet_to h.init]), if_neg (by simp [isSet_to h.goal]), if_neg (by have := h.opl; omega), scan0_none fun j hj => ?_]
  · rfl
  · obtain ⟨o, ho⟩ := get_some hj
    have hv := h.op o (mem_get ho)
    unfold sopBad
    rw [ho]
    simp only [isSet_to hv.pre, isSet_to hv.add, isSet_to hv.del]
    rw [if_neg, if_neg (by have := hv.c0; have := hv.c1; omega)]
    simp only [Bool.true_eq_false, false_or, Bool.not_eq_false]
    exact List.all_eq_true.2 fun x hx => by simpa using hv.dis x hx
theorem selK_ss (p : Nat → Bool) : ∀ k, SS (selK p k)
  | 0 => List.Pairwise.nil
  | k + 1 => by
    rw [selK_succ]
    split
    · refine List.pairwise_append.2 ⟨selK_ss p k, List.pairwise_singleton _ _, fun a ha b hb => ?_⟩
      have := selK_mem.1 ha
      simp at hb
      omega
    · rw [List.append_nil]; exact selK_ss p k
def keepAt (l : List Int) (i : Nat) : Option Int := match l[i]? with
  | some x => if i = 0 ∨ l[i - 1]? ≠ some x then some x else none
  | none => none
def ddK (l : List Int) (k : Nat) : List Int := (List.range k).filterMap (keepAt l)
theorem ddK_succ (l : List Int) (k : Nat) : ddK l (k + 1) = ddK l k ++ (keepAt l k).toList := by
  unfold ddK
  rw [List.range_succ, List.filterMap_append]
  congr 1
def compL (l : List Int) : List Int := ddK l l.length
theorem ddK_len (l : List Int) (k : Nat) : (ddK l k).length ≤ k := by
  have := List.length_filterMap_le (keepAt l) (List.range k)
  simpa [ddK] using this
theorem ddK_keep {l : List Int} {k : Nat} {x : Int} (hx : l[k]? = some x) (h : k = 0 ∨ l[k - 1]? ≠ some x) : ddK l (k + 1) = ddK l k ++ [x] := by
  rw [ddK_succ, keepAt, hx]; simp only [if_pos h, Option.toList]
theorem ddK_skip {l : List Int} {k : Nat} {x : Int} (hx : l[k]? = some x) (h0 : k ≠ 0) (h : l[k - 1]? = some x) : ddK l (k + 1) = ddK l k := by
  rw [ddK_succ, keepAt, hx]; simp [h0, h]
theorem ddK_all {l : List Int} : ∀ k, k ≤ l.length → (∀ j, 0 < j → j < k → l[j]? ≠ l[j - 1]?) → ddK l k = l.take k
  | 0, _, _ => by simp [ddK]
  | k + 1, h, hn => by
    obtain ⟨x, hx⟩ := get_some (l := l) (k := k) (by omega)
    rw [ddK_keep hx, ddK_all k (by omega) fun j h1 h2 => hn j h1 (by omega), take_succ_get hx]
    by_cases e : k = 0
    · exact .inl e
    · refine .inr fun e2 => hn k (by omega) (by omega) ?_
      rw [hx, e2]
theorem ddK_mem {l : List Int} {x : Int} : ∀ k, k ≤ l.length → (x ∈ ddK l k ↔ x ∈ l.take k)
  | 0, _ => by simp [ddK]
  | k + 1, h => by
    obtain ⟨y, hy⟩ := get_some (l := l) (k := k) (by omega)
    have ih := ddK_mem (l := l) (x := x) k (by omega)
    rw [take_succ_get hy]
    by_cases c : k = 0 ∨ l[k - 1]? ≠ some y
    · rw [ddK_keep hy c]; simp [ih]
    · simp only [not_or, Decidable.not_not] at c
      rw [ddK_skip hy c.1 c.2]
      simp only [List.mem_append, List.mem_singleton, ih]
      constructor
      · exact .inl
      · rintro (e | rfl)
        · exact e
        · obtain ⟨h1, h2⟩ := List.getElem?_eq_some_iff.1 c.2
          exact List.mem_take_iff_getElem.2 ⟨k - 1, by omega, h2⟩
theorem compL_mem {l : List Int} {x : Int} : x ∈ compL l ↔ x ∈ l := by
  unfold compL
  rw [ddK_mem l.length (Nat.le_refl _), List.take_length]
theorem ddK_ss {l : List Int} (hs : l.Pairwise (· ≤ ·)) : ∀ k, k ≤ l.length → SS (ddK l k)
  | 0, _ => by simp [ddK, SS]
  | k + 1, h => by
    obtain ⟨y, hy⟩ := get_some (l := l) (k := k) (by omega)
    have ih := ddK_ss (l := l) hs k (by omega)
    by_cases c : k = 0 ∨ l[k - 1]? ≠ some y
    · rw [ddK_keep hy c]
      refine List.pairwise_append.2 ⟨ih, List.pairwise_singleton _ _, fun a ha b hb => ?_⟩
      simp at hb
      subst hb
      have ha' := (ddK_mem k (by omega)).1 ha
      obtain ⟨i, hi, e⟩ := List.mem_take_iff_getElem.1 ha'
      obtain ⟨h1, e1⟩ := List.getElem?_eq_some_iff.1 hy
      have h2 : a ≤ b := by
        have := List.pairwise_iff_getElem.1 hs i k (by omega) h1 (by omega)
        rw [e, e1] at this; exact this
      rcases c with c | c
      · omega
      · have h3 : l[k - 1]? = some l[k - 1] := List.getElem?_eq_getElem (by omega)
        have h4 : l[k - 1] ≤ b := by
          by_cases hk : k = 0
          · omega
          · have := List.pairwise_iff_getElem.1 hs (k - 1) k (by omega) h1 (by omega)
            rw [e1] at this; exact this
        have h5 : l[k - 1] ≠ b := fun e => c (by rw [h3, e])
        have h6 : a ≤ l[k - 1] := by
          by_cases hik : i = k - 1
          · subst hik; omega
          · have := List.pairwise_iff_getElem.1 hs i (k - 1) (by omega) (by omega) (by omega)
            rw [e] at this; exact this
        omega
    · simp only [not_or, Decidable.not_not] at c
      rw [ddK_skip hy c.1 c.2]; exact ih
def srtL (l : List Int) : List Int := l.mergeSort fun x y => decide (x ≤ y)
theorem srtL_mem {l : List Int} {x : Int} : x ∈ srtL l ↔ x ∈ l := (List.mergeSort_perm l _).mem_iff
theorem srtL_len (l : List Int) : (srtL l).length = l.length := (List.mergeSort_perm l _).length_eq
theorem srtL_pw (l : List Int) : (srtL l).Pairwise (· ≤ ·) := by
  have := List.pairwise_mergeSort (le := fun x y : Int => decide (x ≤ y)) (fun a b c h1 h2 => by simp at *; omega) (fun a b => by simp; omega) l
  exact List.Pairwise.imp (fun h => by simpa using h) this
def updL (s add del : List Int) : List Int := compL (srtL (s.filter (fun x => decide (x ∉ del)) ++ add))
theorem updL_mem {s add del : List Int} {x : Int} : x ∈ updL s add del ↔ (x ∈ s ∧ x ∉ del) ∨ x ∈ add := by
  unfold updL
  rw [compL_mem, srtL_mem]; simp
theorem updL_ss (s add del : List Int) : SS (updL s add del) := ddK_ss (srtL_pw _) _ (Nat.le_refl _)
theorem updL_set {n : Int} {s add del : List Int} (hs : IsSet n s) (ha : IsSet n add) : IsSet n (updL s add del) :=
  ⟨updL_ss _ _ _, fun x hx => by
    rcases updL_mem.1 hx with h | h
    · exact hs.rng x h.1
    · exact ha.rng x h⟩
def badStep (n : Nat) (x : Int) : Bool := decide (x < 0) || decide (x ≥ n)
def stepsF (n : Nat) (plan : List Int) : Flt := if plan.length > 60 then ⟨2, -5⟩ else if plan.any (badStep n) = true then ⟨3, -6⟩ else okF
theorem stepsF_ok {n : Nat} {plan : List Int} (h : stepsF n plan = okF) : plan.length ≤ 60 ∧ ∀ x ∈ plan, 0 ≤ x ∧ x < n := by
  unfold stepsF at h
  split at h
  · cases h
  · split at h
    · cases h
    · rename_i h1 h2
      refine ⟨by omega, fun x hx => ?_⟩
      rw [Bool.not_eq_true, List.any_eq_false] at h2
      have := h2 x hx
      simp [badStep] at this
      omega
theorem stepsF_iff (n : Nat) (plan : List Int) : (stepsF n plan).code = 0 ↔ stepsF n plan = okF := by
  refine ⟨fun h => ?_, fun h => by rw [h]; rfl⟩
  unfold stepsF at h ⊢
  repeat' split at h
  all_goals first | (rename_i h1 h2; rw [if_neg h1, if_neg h2]; done) | cases h
def stepS (t : STask) (s : List Int) (op : Int) : Option (List Int) := match t.ops[op.toNat]? with
  | some o => if inclB o.pre s = true then some (updL s o.add o.del) else none
  | none => none
def runT (t : STask) : List Int → List Int → List (List Int)
  | _, [] => []
  | s, op :: r => match stepS t s op with
    | some s' => s' :: runT t s' r
    | none => []
def endS (t : STask) : List Int → List Int → Option (List Int)
  | s, [] => some s
  | s, op :: r => match stepS t s op with
    | some s' => endS t s' r
    | none => none
theorem run_get (t : STask) : ∀ (plan s : List Int), (s :: runT t s plan)[plan.length]? = endS t s plan
  | [], s => rfl
  | op :: r, s => by
    simp only [runT, endS]
    cases h : stepS t s op with
    | none => simp
    | some s' => simpa using run_get t r s'
theorem run_len_le (t : STask) : ∀ (plan s : List Int), (runT t s plan).length ≤ plan.length
  | [], s => by simp [runT]
  | op :: r, s => by
    simp only [runT]
    cases h : stepS t s op with
    | none => simp
    | some s' => have := run_len_le t r s'; simp; omega
theorem run_len_eq (t : STask) (plan s : List Int) : (runT t s plan).length = plan.length ↔ (endS t s plan).isSome = true := by
  rw [← run_get]
  have := run_len_le t plan s
  constructor
  · intro h
    rw [List.getElem?_eq_getElem (by simp; omega)]
    rfl
  · intro h
    obtain ⟨e, he⟩ := Option.isSome_iff_exists.1 h
    have := get_lt he
    simp at this
    omega
def worksB (t : STask) (s plan : List Int) : Bool := match endS t s plan with
  | some e => inclB t.goal e
  | none => false
def costAtS (t : STask) (op : Int) : Int := match t.ops[op.toNat]? with
  | some o => o.cost
  | none => 0
def costS (t : STask) : List Int → Int
  | [] => 0
  | op :: r => costAtS t op + costS t r
theorem costS_append (t : STask) : ∀ (a b : List Int), costS t (a ++ b) = costS t a + costS t b
  | [], b => by simp [costS]
  | x :: a, b => by simp only [List.cons_append, costS, costS_append t a b]; omega
theorem costS_snoc (t : STask) (l : List Int) (op : Int) : costS t (l ++ [op]) = costS t l + costAtS t op := by
  rw [costS_append]; simp [costS]
theorem costAtS_range {t : STask} (hv : SV t) (op : Int) : 0 ≤ costAtS t op ∧ costAtS t op ≤ 100 := by
  unfold costAtS
  split
  · rename_i o h
    have := hv.op o (mem_get h)
    exact ⟨this.c0, this.c1⟩
  · omega
theorem costS_range {t : STask} (hv : SV t) : ∀ l : List Int, 0 ≤ costS t l ∧ costS t l ≤ 100 * l.length
  | [] => by simp [costS]
  | op :: r => by
    have h1 := costAtS_range hv op
    have h2 := costS_range hv r
    simp only [costS, List.length_cons]
    omega
theorem stepS_set {t : STask} (hv : SV t) {s s' : List Int} {op : Int} (hs : IsSet t.facts s) (h : stepS t s op = some s') : IsSet t.facts s' := by
  unfold stepS at h
  split at h
  · rename_i o ho
    split at h
    · cases h
      exact updL_set hs (hv.op o (mem_get ho)).add
    · cases h
  · cases h
theorem endS_set {t : STask} (hv : SV t) : ∀ (plan s e : List Int), IsSet t.facts s → endS t s plan = some e → IsSet t.facts e
  | [], s, e, hs, h => by cases h; exact hs
  | op :: r, s, e, hs, h => by
    simp only [endS] at h
    cases h2 : stepS t s op with
    | none => rw [h2] at h; cases h
    | some s' => rw [h2] at h; exact endS_set hv r s' e (stepS_set hv hs h2) h
theorem stepS_op {t : STask} {s : List Int} {op : Int} {o : SOp} (ho : t.ops[op.toNat]? = some o) : stepS t s op = if inclB o.pre s = true then some (updL s o.add o.del) else none := by
  unfold stepS; rw [ho]
theorem schSelf_cost {d : Dom} {s : Sch} (h : schSelf d s = 0) : 0 ≤ s.cost ∧ s.cost ≤ 100 := by
  unfold schSelf at h
  repeat' split at h
  all_goals first
    | omega
    | (exfalso; simp_all; done)
theorem add_del {p m : List At} {x : Lit} (h1 : x ∈ addOf p m) (h2 : x ∈ delOf p m) : False := by
  rw [addOf_mem] at h1
  rw [delOf_mem] at h2
  rcases h1 with ⟨a1, a2⟩ | ⟨a1, a2, a3⟩ <;> rcases h2 with ⟨b1, b2⟩ | ⟨b1, b2, b3⟩
  · rw [a1] at b1; cases b1
  · exact b3 a2
  · exact a3 b2
  · rw [a1] at b1; cases b1
theorem initOf_mem {d : Dom} {facts : List Lit} {i : Int} : i ∈ initOf d facts ↔ 0 ≤ i ∧ ∃ x, facts[i.toNat]? = some x ∧ trueL d x = true := by
  unfold initOf
  rw [selK_mem]
  unfold trueAt
  constructor
  · rintro ⟨h0, h1, h2⟩
    refine ⟨h0, ?_⟩
    split at h2
    · rename_i x hx; exact ⟨x, hx, h2⟩
    · cases h2
  · rintro ⟨h0, x, hx, h2⟩
    refine ⟨h0, by have := get_lt hx; omega, ?_⟩
    rw [hx]; exact h2
theorem selK_set (p : Nat → Bool) (k : Nat) : IsSet (k : Int) (selK p k) := ⟨selK_ss p k, fun x hx => by have := selK_mem.1 hx; omega⟩
theorem nums_set (facts l : List Lit) : IsSet (facts.length : Int) (nums facts l) := selK_set _ _
theorem grd_valid {d : Dom} (hd : DoVal d) {facts : List Lit} {acts : List Ac} (hb : bigG facts acts = false) (ha : ∀ a ∈ acts, a ∈ actsP d) : SV (grdOf d facts acts).task := by
  have hb := bigG_no hb
  refine ⟨by simp [grdOf], by simp only [grdOf]; omega, selK_set _ _, nums_set _ _, by simp only [grdOf, List.length_map]; omega, fun o ho => ?_⟩
  simp only [grdOf, List.mem_map] at ho
  obtain ⟨a, h1, rfl⟩ := ho
  obtain ⟨i, s, args, n, hs, hl, hn, _, rfl⟩ := actsP_mem (ha a h1)
  obtain ⟨c0, c1⟩ := schSelf_cost (hd.sc s (mem_get hs))
  refine ⟨nums_set _ _, nums_set _ _, nums_set _ _, fun x hx hy => ?_, c0, c1⟩
  simp only [opOf] at hx hy
  obtain ⟨_, u, hu, h1⟩ := nums_mem.1 hx
  obtain ⟨_, v, hv, h2⟩ := nums_mem.1 hy
  rw [hu] at hv
  cases hv
  exact add_del h1 h2
structure REnd (acts : List Ac) (s : RS) : Prop where
  len : s.used.length = acts.length
  more : ∀ (i : Nat) (a : Ac), acts[i]? = some a → s.used[i]? = some true ∨ readyB a s.hv = false
  add : ∀ (i : Nat) (a : Ac), acts[i]? = some a → s.used[i]? = some true → ∀ x, x ∈ a.add ∨ x ∈ a.pre → x ∈ s.hv
def RInv (acts : List Ac) (s : RS) : Prop := s.used.length = acts.length ∧ ∀ (i : Nat) (a : Ac), acts[i]? = some a → s.used[i]? = some true → ∀ x, x ∈ a.add ∨ x ∈ a.pre → x ∈ s.hv
theorem stepR_hv (acts : List Ac) (s : RS) (i : Nat) {x : Lit} (h : x ∈ s.hv) : x ∈ (stepR acts s i).hv := by
  unfold stepR
  split
  · exact h
  · split
    · exact List.mem_append.2 (.inl h)
    · exact h
theorem passK_hv (acts : List Ac) (s : RS) {x : Lit} (h : x ∈ s.hv) : ∀ k, x ∈ (passK acts s k).hv
  | 0 => h
  | k + 1 => by rw [passK_succ]; exact stepR_hv _ _ _ (passK_hv acts s h k)
theorem runR_hv (acts : List Ac) {x : Lit} : ∀ (n : Nat) (s : RS), x ∈ s.hv → x ∈ (runR acts n s).hv
  | 0, s, h => h
  | n + 1, s, h => by
    simp only [runR]
    split
    · exact runR_hv acts n _ (passK_hv acts ⟨s.used, s.hv, false⟩ h _)
    · exact h
theorem stepR_inv {acts : List Ac} {s : RS} (h : RInv acts s) (i : Nat) : RInv acts (stepR acts s i) := by
  refine ⟨by rw [stepR_len]; exact h.1, fun j a ha hu x hx => ?_⟩
  cases hb : acts[i]? with
  | none =>
    have e : stepR acts s i = s := by unfold stepR; rw [hb]
    rw [e] at hu ⊢
    exact h.2 j a ha hu x hx
  | some b =>
    by_cases hc : s.used[i]? = some false ∧ readyB b s.hv = true
    · have e : stepR acts s i = ⟨s.used.set i true, s.hv ++ b.add, true⟩ := by unfold stepR; rw [hb]; exact if_pos hc
      rw [e] at hu ⊢
      simp only at hu ⊢
      by_cases e : i = j
      · subst e
        rw [ha] at hb
        cases hb
        rcases hx with hx | hx
        · exact List.mem_append.2 (.inr hx)
        · refine List.mem_append.2 (.inl ?_)
          have := List.all_eq_true.1 hc.2 x hx
          simpa using this
      · rw [List.getElem?_set_ne e] at hu
        exact List.mem_append.2 (.inl (h.2 j a ha hu x hx))
    · have e : stepR acts s i = s := by unfold stepR; rw [hb]; exact if_neg hc
      rw [e] at hu ⊢
      exact h.2 j a ha hu x hx
theorem passK_inv {acts : List Ac} {s : RS} (h : RInv acts s) : ∀ k, RInv acts (passK acts s k)
  | 0 => h
  | k + 1 => by rw [passK_succ]; exact stepR_inv (passK_inv h k) k
theorem pass_inv {acts : List Ac} {s : RS} (h : RInv acts s) : RInv acts (pass acts s) := passK_inv (s := ⟨s.used, s.hv, false⟩) h _
theorem stepR_true {acts : List Ac} {s : RS} {i : Nat} (h : s.again = true) : (stepR acts s i).again = true := by
  unfold stepR
  split
  · exact h
  · split
    · rfl
    · exact h
theorem passK_quiet {acts : List Ac} {s : RS} : ∀ k, (passK acts s k).again = false → passK acts s k = s ∧ ∀ i, i < k → ∀ a, acts[i]? = some a → s.used[i]? = some false → readyB a s.hv = false
  | 0, _ => ⟨rfl, fun i hi => by omega⟩
  | k + 1, h => by
    rw [passK_succ] at h ⊢
    have h0 : (passK acts s k).again = false := by
      cases e : (passK acts s k).again with
      | false => rfl
      | true => rw [stepR_true e] at h; cases h
    obtain ⟨h1, h2⟩ := passK_quiet k h0
    rw [h1] at h ⊢
    have hk : ∀ a, acts[k]? = some a → s.used[k]? = some false → readyB a s.hv = false := fun a ha hu => by
      cases e : readyB a s.hv with
      | false => rfl
      | true =>
        unfold stepR at h
        rw [ha] at h
        simp only at h
        rw [if_pos ⟨hu, e⟩] at h
        cases h
    refine ⟨?_, fun i hi a ha hu => ?_⟩
    · unfold stepR
      split
      · rfl
      · rename_i a ha
        rw [if_neg]
        rintro ⟨hu, hr⟩
        rw [hk a ha hu] at hr
        cases hr
    · by_cases e : i = k
      · subst e; exact hk a ha hu
      · exact h2 i (by omega) a ha hu
theorem runR_end {acts : List Ac} : ∀ (n : Nat) (s : RS), RInv acts s → s.again = true → unused s + 1 ≤ n → REnd acts (runR acts n s)
  | 0, s, _, _, h => by omega
  | n + 1, s, hi, ha, h => by
    simp only [runR]
    rw [if_pos ha]
    obtain ⟨p1, p2⟩ := pass_unused acts s
    have hp := pass_inv hi
    cases e : (pass acts s).again with
    | true => exact runR_end n _ hp e (by have := p2 e; omega)
    | false =>
      have e2 : runR acts n (pass acts s) = pass acts s := by cases n <;> simp [runR, e]
      rw [e2]
      refine ⟨hp.1, fun i a hia => ?_, hp.2⟩
      obtain ⟨q1, q2⟩ := passK_quiet (s := ⟨s.used, s.hv, false⟩) acts.length e
      have q1 : pass acts s = ⟨s.used, s.hv, false⟩ := q1
      rw [q1]
      simp only at q2 ⊢
      have hl := get_lt hia
      obtain ⟨b, hb⟩ := get_some (l := s.used) (k := i) (by rw [hi.1]; exact hl)
      cases b with
      | true => exact .inl hb
      | false => exact .inr (q2 i hl a hia hb)
theorem rsOf_end (d : Dom) (acts : List Ac) : REnd acts (rsOf d acts) := by
  refine runR_end _ _ ⟨by simp [rs0], fun i a ha hu => ?_⟩ rfl (Nat.le_refl _)
  simp only [rs0] at hu
  rw [List.getElem?_replicate] at hu
  split at hu <;> cases hu
theorem rsOf_init {d : Dom} {acts : List Ac} {x : Lit} (h1 : x ∈ factL d) (h2 : trueL d x = true) : x ∈ (rsOf d acts).hv :=
  runR_hv acts _ _ (List.mem_filter.2 ⟨h1, h2⟩)
theorem init_at {d : Dom} {F : List Lit} {i : Nat} {x : Lit} (h : F[i]? = some x) : (i : Int) ∈ initOf d F ↔ trueL d x = true := by
  rw [initOf_mem]
  simp only [Int.toNat_natCast, h, Option.some.injEq]
  exact ⟨fun ⟨_, y, e, h2⟩ => e ▸ h2, fun h2 => ⟨by omega, x, rfl, h2⟩⟩
theorem actsP_inst {d : Dom} {a b : Ac} (ha : a ∈ actsP d) (hb : b ∈ actsP d) (h1 : a.sch = b.sch) (h2 : a.args = b.args) : a = b := by
  obtain ⟨i, s, args, n, hs, hl, hn, _, rfl⟩ := actsP_mem ha
  obtain ⟨j, t, args', m, ht, hl', hm, _, rfl⟩ := actsP_mem hb
  simp only at h1 h2
  subst h1 h2
  rw [hs] at ht
  cases ht
  rw [hn] at hm
  cases hm
  rfl
structure Sim (F G hv : List Lit) (s t : List Int) : Prop where
  inv : ∀ (i : Nat) (x : Lit), F[i]? = some x → (i : Int) ∈ s → x ∈ hv
  eq : ∀ (i j : Nat) (x : Lit), F[i]? = some x → G[j]? = some x → ((i : Int) ∈ s ↔ (j : Int) ∈ t)
theorem incl_iff {F l : List Lit} {s : List Int} : inclB (nums F l) s = true ↔ ∀ (i : Nat) (x : Lit), F[i]? = some x → x ∈ l → (i : Int) ∈ s := by
  unfold inclB
  rw [List.all_eq_true]
  constructor
  · intro h i x hi hx
    simpa using h i ((nums_at hi).2 hx)
  · intro h i hi
    obtain ⟨h0, x, hx, hl⟩ := nums_mem.1 hi
    have := h i.toNat x hx hl
    rw [show ((i.toNat : Nat) : Int) = i by omega] at this
    simpa using this
section
variable {d : Dom}
abbrev rA (d : Dom) : RS := rsOf d (actsP d)
abbrev gA (d : Dom) : List Lit := rFacts d (rA d)
theorem gA_mem {x : Lit} : x ∈ gA d ↔ x ∈ factL d ∧ (x ∈ (rA d).hv ∨ x ∈ d.goal) := by
  unfold gA rFacts
  rw [List.mem_filter]
  simp
theorem sim_init : Sim (factL d) (gA d) (rA d).hv (initOf d (factL d)) (initOf d (gA d)) :=
  ⟨fun i x hi h => rsOf_init (mem_get hi) ((init_at hi).1 h), fun i j x hi hj => by rw [init_at hi, init_at hj]⟩
theorem sim_goal {s t : List Int} (h : Sim (factL d) (gA d) (rA d).hv s t) : inclB (nums (factL d) d.goal) s = inclB (nums (gA d) d.goal) t := by
  rw [Bool.eq_iff_iff, incl_iff, incl_iff]
  constructor
  · intro hs j x hj hx
    obtain ⟨i, hi⟩ := List.getElem?_of_mem (gA_mem.1 (mem_get hj)).1
    exact (h.eq i j x hi hj).1 (hs i x hi hx)
  · intro hs i x hi hx
    obtain ⟨j, hj⟩ := List.getElem?_of_mem (gA_mem.2 ⟨mem_get hi, .inr hx⟩)
    exact (h.eq i j x hi hj).2 (hs j x hj hx)
theorem sim_used (hd : DoVal d) {s t : List Int} (h : Sim (factL d) (gA d) (rA d).hv s t) {i : Nat} {a : Ac} (ha : (actsP d)[i]? = some a) (hp : inclB (nums (factL d) a.pre) s = true) : (rA d).used[i]? = some true := by
  rcases (rsOf_end d (actsP d)).more i a ha with h1 | h1
  · exact h1
  · exfalso
    have : readyB a (rA d).hv = true := by
      unfold readyB
      rw [List.all_eq_true]
      intro x hx
      obtain ⟨k, hk⟩ := List.getElem?_of_mem (pre_facts hd (mem_get ha) x hx)
      simpa using h.inv k x hk (incl_iff.1 hp k x hk hx)
    rw [this] at h1
    cases h1
theorem sim_pre {s t : List Int} (h : Sim (factL d) (gA d) (rA d).hv s t) {a : Ac} (hv : ∀ x, x ∈ a.add ∨ x ∈ a.pre → x ∈ (rA d).hv) : inclB (nums (factL d) a.pre) s = inclB (nums (gA d) a.pre) t := by
  rw [Bool.eq_iff_iff, incl_iff, incl_iff]
  constructor
  · intro hs j x hj hx
    obtain ⟨i, hi⟩ := List.getElem?_of_mem (gA_mem.1 (mem_get hj)).1
    exact (h.eq i j x hi hj).1 (hs i x hi hx)
  · intro hs i x hi hx
    obtain ⟨j, hj⟩ := List.getElem?_of_mem (gA_mem.2 ⟨mem_get hi, .inl (hv x (.inr hx))⟩)
    exact (h.eq i j x hi hj).2 (hs j x hj hx)
theorem sim_step {s t : List Int} (h : Sim (factL d) (gA d) (rA d).hv s t) {a : Ac} (hv : ∀ x, x ∈ a.add ∨ x ∈ a.pre → x ∈ (rA d).hv) :
    Sim (factL d) (gA d) (rA d).hv (updL s (nums (factL d) a.add) (nums (factL d) a.del)) (updL t (nums (gA d) a.add) (nums (gA d) a.del)) := by
  refine ⟨fun i x hi hm => ?_, fun i j x hi hj => ?_⟩
  · rcases updL_mem.1 hm with ⟨h1, _⟩ | h1
    · exact h.inv i x hi h1
    · exact hv x (.inl ((nums_at hi).1 h1))
  · rw [updL_mem, updL_mem, nums_at hi, nums_at hi, nums_at hj, nums_at hj, h.eq i j x hi hj]
end
def findK (l : List (Nat × List Int)) (u : Nat × List Int) : Option Nat := (List.range l.length).find? fun k => decide (l[k]? = some u)
theorem findK_some {l : List (Nat × List Int)} {u : Nat × List Int} {k : Nat} (h : findK l u = some k) : l[k]? = some u := by
  have := List.find?_some h
  simpa using this
theorem findK_none {l : List (Nat × List Int)} {u : Nat × List Int} (h : findK l u = none) : u ∉ l := fun hm => by
  obtain ⟨k, hk⟩ := List.getElem?_of_mem hm
  have := List.find?_eq_none.1 h k (List.mem_range.2 (get_lt hk))
  simp [hk] at this
def transL (ia ib : List (Nat × List Int)) : List Int → Option (List Int)
  | [] => some []
  | op :: r => match ia[op.toNat]? with
    | none => none
    | some u => match findK ib u with
      | none => none
      | some k => (transL ia ib r).map ((k : Int) :: ·)
def fullT (d : Dom) : Grd := grdOf d (factL d) (actsP d)
def reachT (d : Dom) : Grd := grdOf d (gA d) (rActs (actsP d) (rA d))
theorem stepS_at {d : Dom} {F : List Lit} {acts : List Ac} {op : Int} {a : Ac} (ha : acts[op.toNat]? = some a) (s : List Int) :
    stepS (grdOf d F acts).task s op = if inclB (nums F a.pre) s = true then some (updL s (nums F a.add) (nums F a.del)) else none := by
  refine stepS_op (o := opOf F a) ?_
  simp only [grdOf, List.getElem?_map, ha, Option.map_some]
theorem trans_end {d : Dom} (hd : DoVal d) : ∀ (plan s t : List Int), (∀ op ∈ plan, 0 ≤ op ∧ op < (actsP d).length) → Sim (factL d) (gA d) (rA d).hv s t →
    match transL (fullT d).insts (reachT d).insts plan with
    | none => endS (fullT d).task s plan = none
    | some l => (endS (fullT d).task s plan = none ∧ endS (reachT d).task t l = none) ∨ ∃ e f, endS (fullT d).task s plan = some e ∧ endS (reachT d).task t l = some f ∧ Sim (factL d) (gA d) (rA d).hv e f
  | [], s, t, _, h => .inr ⟨s, t, rfl, rfl, h⟩
  | op :: r, s, t, hr, h => by
    obtain ⟨h0, h1⟩ := hr op (by simp)
    obtain ⟨a, ha⟩ := get_some (l := actsP d) (k := op.toNat) (by omega)
    have hi : (fullT d).insts[op.toNat]? = some (a.sch, a.args) := by simp only [fullT, grdOf, List.getElem?_map, ha, Option.map_some]
    have hst := stepS_at (d := d) (F := factL d) ha s
    simp only [transL, hi]
    cases hf : findK (reachT d).insts (a.sch, a.args) with
    | none =>
      simp only [endS]
      change (match stepS (grdOf d (factL d) (actsP d)).task s op with | some s' => endS (fullT d).task s' r | none => none) = none
      rw [hst, if_neg]
      intro hp
      have hu := sim_used hd h ha hp
      refine findK_none hf ?_
      simp only [reachT, grdOf]
      exact List.mem_map.2 ⟨a, pickU_mem.2 ⟨op.toNat, get_lt ha, hu, ha⟩, rfl⟩
    | some k =>
      have hk := findK_some hf
      simp only [reachT, grdOf, List.getElem?_map] at hk
      cases hb : (rActs (actsP d) (rA d))[k]? with
      | none => rw [hb] at hk; cases hk
      | some b =>
        rw [hb] at hk
        simp only [Option.map_some, Option.some.injEq, Prod.mk.injEq] at hk
        obtain ⟨i, hil, hiu, hib⟩ := pickU_mem.1 (mem_get hb)
        have e : b = a := actsP_inst (mem_get hib) (mem_get ha) hk.1 hk.2
        subst e
        have hv := (rsOf_end d (actsP d)).add i b hib hiu
        have hst2 := stepS_at (d := d) (F := gA d) (op := (k : Int)) (acts := rActs (actsP d) (rA d)) (by simpa using hb) t
        have hpre := sim_pre h hv
        cases hp : inclB (nums (factL d) b.pre) s with
        | false =>
          have e1 : endS (fullT d).task s (op :: r) = none := by
            simp only [endS]
            change (match stepS (grdOf d (factL d) (actsP d)).task s op with | some s' => endS (fullT d).task s' r | none => none) = none
            rw [hst, if_neg (by simp [hp])]
          cases transL (fullT d).insts (reachT d).insts r with
          | none => exact e1
          | some l =>
            refine .inl ⟨e1, ?_⟩
            simp only [endS]
            change (match stepS (grdOf d (gA d) (rActs (actsP d) (rA d))).task t (k : Int) with | some s' => endS (reachT d).task s' l | none => none) = none
            rw [hst2, if_neg (by rw [← hpre, hp]; simp)]
        | true =>
          have ih := trans_end hd r _ _ (fun op hop => hr op (by simp [hop])) (sim_step h hv)
          have e1 : endS (fullT d).task s (op :: r) = endS (fullT d).task (updL s (nums (factL d) b.add) (nums (factL d) b.del)) r := by
            simp only [endS]
            change (match stepS (grdOf d (factL d) (actsP d)).task s op with | some s' => endS (fullT d).task s' r | none => none) = _
            rw [hst, if_pos hp]
          have e2 : ∀ l, endS (reachT d).task t ((k : Int) :: l) = endS (reachT d).task (updL t (nums (gA d) b.add) (nums (gA d) b.del)) l := fun l => by
            simp only [endS]
            change (match stepS (grdOf d (gA d) (rActs (actsP d) (rA d))).task t (k : Int) with | some s' => endS (reachT d).task s' l | none => none) = _
            rw [hst2, if_pos (by rw [← hpre]; exact hp)]
          rw [e1]
          cases htr : transL (fullT d).insts (reachT d).insts r with
          | none => rw [htr] at ih; exact ih
          | some l =>
            rw [htr] at ih
            simp only [Option.map_some, e2]
            exact ih
theorem trans_works {d : Dom} (hd : DoVal d) {plan : List Int} (hr : ∀ op ∈ plan, 0 ≤ op ∧ op < (actsP d).length) : match transL (fullT d).insts (reachT d).insts plan with
    | none => worksB (fullT d).task (fullT d).task.init plan = false
    | some l => worksB (fullT d).task (fullT d).task.init plan = worksB (reachT d).task (reachT d).task.init l := by
  have := trans_end hd plan _ _ hr (sim_init (d := d))
  unfold worksB
  change match transL (fullT d).insts (reachT d).insts plan with
    | none => (match endS (fullT d).task (initOf d (factL d)) plan with | some e => inclB (nums (factL d) d.goal) e | none => false) = false
    | some l => (match endS (fullT d).task (initOf d (factL d)) plan with | some e => inclB (nums (factL d) d.goal) e | none => false) = (match endS (reachT d).task (initOf d (gA d)) l with | some e => inclB (nums (gA d) d.goal) e | none => false)
  cases htr : transL (fullT d).insts (reachT d).insts plan with
  | none => rw [htr] at this; simp only at this ⊢; rw [this]
  | some l =>
    rw [htr] at this
    simp only at this ⊢
    rcases this with ⟨h1, h2⟩ | ⟨e, f, h1, h2, h3⟩
    · rw [h1, h2]
    · rw [h1, h2]; exact sim_goal h3
theorem trans_cost {d : Dom} : ∀ (plan l : List Int), transL (fullT d).insts (reachT d).insts plan = some l → costS (fullT d).task plan = costS (reachT d).task l ∧ l.length = plan.length ∧ ∀ k ∈ l, 0 ≤ k ∧ k < (rActs (actsP d) (rA d)).length
  | [], l, h => by
    simp only [transL, Option.some.injEq] at h
    subst h
    exact ⟨rfl, rfl, fun k hk => by cases hk⟩
  | op :: r, l, h => by
    simp only [transL] at h
    cases hi : (fullT d).insts[op.toNat]? with
    | none => rw [hi] at h; cases h
    | some u =>
      rw [hi] at h
      simp only at h
      cases hf : findK (reachT d).insts u with
      | none => rw [hf] at h; cases h
      | some k =>
        rw [hf] at h
        simp only at h
        cases htr : transL (fullT d).insts (reachT d).insts r with
        | none => rw [htr] at h; cases h
        | some m =>
          rw [htr] at h
          simp only [Option.map_some, Option.some.injEq] at h
          subst h
          obtain ⟨i1, i2, i3⟩ := trans_cost r m htr
          have hk := findK_some hf
          simp only [reachT, grdOf, List.getElem?_map] at hk
          simp only [fullT, grdOf, List.getElem?_map] at hi
          cases ha : (actsP d)[op.toNat]? with
          | none => rw [ha] at hi; cases hi
          | some a =>
            cases hb : (rActs (actsP d) (rA d))[k]? with
            | none => rw [hb] at hk; cases hk
            | some b =>
              rw [ha] at hi
              rw [hb] at hk
              simp only [Option.map_some, Option.some.injEq] at hi hk
              subst hi
              simp only [Prod.mk.injEq] at hk
              have e : b = a := actsP_inst (rActs_sub (mem_get hb)) (mem_get ha) hk.1 hk.2
              subst e
              refine ⟨?_, by simp [i2], fun q hq => ?_⟩
              · simp only [costS, i1]
                congr 1
                unfold costAtS
                simp only [fullT, reachT, grdOf, List.getElem?_map, ha, Int.toNat_natCast, hb, Option.map_some, opOf]
              · rcases List.mem_cons.1 hq with rfl | hq
                · have := get_lt hb; omega
                · exact i3 q hq
end Hm
end
section
namespace Hm
open Go
set_option maxRecDepth 100000
set_option maxHeartbeats 1000000
def c_strips_IsSet : Cmd :=
 (qS [qb 4 false]
 (qT (qS [qm 7 0, qn 8 7, qc 9 0]
 (.block 0 (.loop (qS [qu 10 .lss [] 9 8]
 (qT (.cond (.t 10) .skip (.exit 0))
 (qT (.block 1 (qS [qm 11 9, qi 12 1 7 9, ql 13 1 12, qm 5 11, qm 6 13]
 (qS [qm 14 6, qv 15 .lss [] 14 0, qm 16 15, qg 17 16 false (.mov (.t 6)), qg 18 16 false (.mov (.t 1)), qg 19 16 false (.bin .geq false [] (.t 17) (.t 18)), qq 20 (.pick (.t 16) (.c (.bool true)) (.t 19)), qm 21 20, qg 22 21 false (.mov (.t 5)), qg 23 21 false (.bin .gtr false [] (.t 22) (.c (.int .i64 0))), qg 24 21 false (.mov (.t 23)), qg 25 24 true (.mov (.t 6)), qg 26 24 true (.mov (.t 0)), qg 27 24 true (.mov (.t 5)), qg 28 24 true (.bin .sub false [] (.t 27) (.c (.int .i64 1))), qg 29 24 true (.iaddr 1 (.t 26) (.t 28)), qg 30 24 true (.load false 1 (.t 29)), qg 31 24 true (.bin .leq false [] (.t 25) (.t 30)), qg 32 21 false (.pick (.t 24) (.t 31) (.c (.bool false))), qq 33 (.pick (.t 21) (.c (.bool true)) (.t 32))]
 (.cond (.t 33) (.seq (.ops [qb 4 false]) .ret) .skip))))
 (.ops [qv 34 .add [] 9 1, qm 9 34])))))))
 (.seq (.ops [qb 4 true]) .ret)))
def r_strips_IsSet : List RVar := [.tmp 4]
def n_strips_IsSet : Nat := 35
theorem k_strips_IsSet : chkFn Go.Proofs.Tryz.prog 51 n_strips_IsSet r_strips_IsSet c_strips_IsSet = true := by kernel_rfl
theorem f_strips_IsSet (l : List Int) (n : Int) (hl : l.length ≤ 140737488355328) : Fc Go.Proofs.Tryz.prog 51 [.sl .p (l.map i64V), .int .i64 n] (.bool (isSetB n l)) := by
  refine Fn.step mixed k_strips_IsSet ?_
  repeat (first | refine i_len rfl ?_ | refine i_s rfl ?_ | refine i_lenm rfl rfl rfl ?_ | refine sw ?_ | refine i_s0 rfl ?_ | refine i_gt rfl ?_ | refine i_gf rfl ?_ | refine i_gd rfl ?_ | refine c_t rfl ?_ | refine c_f rfl ?_ | refine jc rfl ?_ | refine ja rfl rfl ?_ | refine jb rfl rfl ?_ | refine jg rfl rfl ?_ | refine jf rfl rfl ?_ | refine jd rfl rfl ?_ | refine je rfl rfl ?_ | refine jh rfl rfl ?_ | refine i_stb rfl ?_ | refine i_alloc rfl ?_ | refine i_box rfl rfl ?_ | refine i_nv rfl ?_)
  refine c_for l.length (fun k => [(0, .sl .p (l.map i64V)), (1, .int .i64 n), (7, .sl .p (l.map i64V)), (8, .int .i64 l.length), (9, .int .i64 k)]) (fun _ => []) (fun k => ∀ j, j < k → setAt n l j = true) all_zero ft fun k hk hi => ?_
  repeat (first | refine i_len rfl ?_ | refine i_s rfl ?_ | refine i_lenm rfl rfl rfl ?_ | refine sw ?_ | refine i_s0 rfl ?_ | refine i_gt rfl ?_ | refine i_gf rfl ?_ | refine i_gd rfl ?_ | refine c_t rfl ?_ | refine c_f rfl ?_ | refine jc rfl ?_ | refine ja rfl rfl ?_ | refine jb rfl rfl ?_ | refine jg rfl rfl ?_ | refine jf rfl rfl ?_ | refine jd rfl rfl ?_ | refine je rfl rfl ?_ | refine jh rfl rfl ?_ | refine i_stb rfl ?_ | refine i_alloc rfl ?_ | refine i_box rfl rfl ?_ | refine i_nv rfl ?_)
  refine c_cond rfl (fun h => ?_) (fun h => ?_)
  · have hlt : k < l.length := by simpa using h
    obtain ⟨x, hx⟩ := get_some hlt
    clear h
    by_cases h0 : k = 0
    · have hat : setAt n l k = (decide (0 ≤ x) && decide (x < n)) := by subst h0; simp [setAt, hx]
      subst h0
      repeat' (first | refine i_len rfl ?_ | refine i_s rfl ?_ | refine i_lenm rfl rfl rfl ?_ | refine sw ?_ | refine i_s0 rfl ?_ | refine i_gt rfl ?_ | refine i_gf rfl ?_ | refine i_gd rfl ?_ | refine c_t rfl ?_ | refine c_f rfl ?_ | refine jc rfl ?_ | refine ja rfl rfl ?_ | refine jb rfl rfl ?_ | refine jg rfl rfl ?_ | refine jf rfl rfl ?_ | refine jd rfl rfl ?_ | refine je rfl rfl ?_ | refine jh rfl rfl ?_ | refine i_stb rfl ?_ | refine i_alloc rfl ?_ | refine i_box rfl rfl ?_ | refine i_nv rfl ?_ | (refine sp ?_ ?_ <;> try intro h) | fail)
      all_goals first
        | (refine e_for hlt (all_succ hi (by rw [hat]; clear hi hat hx; simp at *; try omega)) ft)
        | (refine e_ret ⟨rfl, _, rfl, congrArg V.bool ?_⟩
           have : setAt n l 0 = false := by rw [hat]; clear hi hat hx; simp at *; try omega
           simp [isSetB, allN_bad hlt this])
        | (exfalso; clear hi hat; simp at *; omega)
    · obtain ⟨y, hy⟩ := get_some (l := l) (k := k - 1) (by omega)
      have hat : setAt n l k = (decide (0 ≤ x) && decide (x < n) && decide (y < x)) := by simp [setAt, hx, h0, hy]
      have h1 : 0 < k := by omega
      have hy' : l[((k : Int) - 1).toNat]? = some y := by rw [show ((k : Int) - 1).toNat = k - 1 from by omega]; exact hy
      repeat' (first | refine i_len rfl ?_ | refine i_s rfl ?_ | refine i_lenm rfl rfl rfl ?_ | refine sw ?_ | refine i_s0 rfl ?_ | refine i_gt rfl ?_ | refine i_gf rfl ?_ | refine i_gd rfl ?_ | refine c_t rfl ?_ | refine c_f rfl ?_ | refine jc rfl ?_ | refine ja rfl rfl ?_ | refine jb rfl rfl ?_ | refine jg rfl rfl ?_ | refine jf rfl rfl ?_ | refine jd rfl rfl ?_ | refine je rfl rfl ?_ | refine jh rfl rfl ?_ | refine i_stb rfl ?_ | refine i_alloc rfl ?_ | refine i_box rfl rfl ?_ | refine i_nv rfl ?_ | (refine sp ?_ ?_ <;> try intro h) | fail)
      all_goals first
        | (refine e_for hlt (all_succ hi (by rw [hat]; clear hi hat hx; simp at *; try omega)) ft)
        | (refine e_ret ⟨rfl, _, rfl, congrArg V.bool ?_⟩
           have : setAt n l k = false := by rw [hat]; clear hi hat hx; simp at *; try omega
           simp [isSetB, allN_bad hlt this])
        | (exfalso; clear hi hat; simp at *; omega)
  · have hge : ¬ k < l.length := by simpa using h
    repeat' (first | refine i_len rfl ?_ | refine i_s rfl ?_ | refine i_lenm rfl rfl rfl ?_ | refine sw ?_ | refine i_s0 rfl ?_ | refine i_gt rfl ?_ | refine i_gf rfl ?_ | refine i_gd rfl ?_ | refine c_t rfl ?_ | refine c_f rfl ?_ | refine jc rfl ?_ | refine ja rfl rfl ?_ | refine jb rfl rfl ?_ | refine jg rfl rfl ?_ | refine jf rfl rfl ?_ | refine jd rfl rfl ?_ | refine je rfl rfl ?_ | refine jh rfl rfl ?_ | refine i_stb rfl ?_ | refine i_alloc rfl ?_ | refine i_box rfl rfl ?_ | refine i_nv rfl ?_ | (refine sp ?_ ?_ <;> try intro h) | fail)
    exact e_ret ⟨rfl, _, rfl, congrArg V.bool (by simp [isSetB]; exact allN_ok fun j hj => hi j (by omega))⟩
def c_slices_isNaN_int : Cmd :=
 (qS [qb 2 false]
 (.seq (.ops [qm 3 0, qm 4 0, qu 5 .neq [.i] 3 4, qm 2 5]) .ret))
def r_slices_isNaN_int : List RVar := [.tmp 2]
def n_slices_isNaN_int : Nat := 6
theorem k_slices_isNaN_int : chkFn Go.Proofs.Tryz.prog 152 n_slices_isNaN_int r_slices_isNaN_int c_slices_isNaN_int = true := by kernel_rfl
theorem f_slices_isNaN_int (x : Int) : Fc Go.Proofs.Tryz.prog 152 [.int .i64 x] (.bool false) := by
  refine Fn.step mixed k_slices_isNaN_int ?_
  repeat' (first | refine i_len rfl ?_ | refine i_s rfl ?_ | refine i_lenm rfl rfl rfl ?_ | refine sw ?_ | refine i_s0 rfl ?_ | refine i_gt rfl ?_ | refine i_gf rfl ?_ | refine i_gd rfl ?_ | refine c_t rfl ?_ | refine c_f rfl ?_ | refine jc rfl ?_ | refine ja rfl rfl ?_ | refine jb rfl rfl ?_ | refine jg rfl rfl ?_ | refine jf rfl rfl ?_ | refine jd rfl rfl ?_ | refine je rfl rfl ?_ | refine jh rfl rfl ?_ | refine i_stb rfl ?_ | refine i_alloc rfl ?_ | refine i_box rfl rfl ?_ | refine i_nv rfl ?_ | (refine sp ?_ ?_ <;> try intro h) | fail)
  exact e_ret ⟨rfl, _, rfl, congrArg V.bool (by simp)⟩
theorem f_cmp_isNaN_int (x : Int) : Fc Go.Proofs.Tryz.prog 150 [.int .i64 x] (.bool false) := by
  refine Fn.step mixed k_cmp_isNaN_int ?_
  repeat' (first | refine i_len rfl ?_ | refine i_s rfl ?_ | refine i_lenm rfl rfl rfl ?_ | refine sw ?_ | refine i_s0 rfl ?_ | refine i_gt rfl ?_ | refine i_gf rfl ?_ | refine i_gd rfl ?_ | refine c_t rfl ?_ | refine c_f rfl ?_ | refine jc rfl ?_ | refine ja rfl rfl ?_ | refine jb rfl rfl ?_ | refine jg rfl rfl ?_ | refine jf rfl rfl ?_ | refine jd rfl rfl ?_ | refine je rfl rfl ?_ | refine jh rfl rfl ?_ | refine i_stb rfl ?_ | refine i_alloc rfl ?_ | refine i_box rfl rfl ?_ | refine i_nv rfl ?_ | (refine sp ?_ ?_ <;> try intro h) | fail)
  exact e_ret ⟨rfl, _, rfl, congrArg V.bool (by simp)⟩
def c_cmp_Less_int : Cmd :=
 (qS [qb 4 false]
 (.seq (.ops [qm 5 0, qk 6 150 [5], qm 7 6, qg 8 7 true (.mov (.t 1)), qg 9 7 true (.call .f (.c (.fn 150 [])) [.t 8]), qg 10 7 true (.not (.t 9)), qq 11 (.pick (.t 7) (.t 10) (.c (.bool false))), qm 12 11, qg 13 12 false (.mov (.t 0)), qg 14 12 false (.mov (.t 1)), qg 15 12 false (.bin .lss false [] (.t 13) (.t 14)), qq 16 (.pick (.t 12) (.c (.bool true)) (.t 15)), qm 4 16]) .ret))
def r_cmp_Less_int : List RVar := [.tmp 4]
def n_cmp_Less_int : Nat := 17
theorem k_cmp_Less_int : chkFn Go.Proofs.Tryz.prog 151 n_cmp_Less_int r_cmp_Less_int c_cmp_Less_int = true := by kernel_rfl
theorem f_cmp_Less_int (x y : Int) : Fc Go.Proofs.Tryz.prog 151 [.int .i64 x, .int .i64 y] (.bool (decide (x < y))) := by
  refine Fn.step mixed k_cmp_Less_int ?_
  repeat' (first | refine i_len rfl ?_ | refine i_s rfl ?_ | refine i_lenm rfl rfl rfl ?_ | refine sw ?_ | refine i_s0 rfl ?_ | refine i_gt rfl ?_ | refine i_gf rfl ?_ | refine i_gd rfl ?_ | refine c_t rfl ?_ | refine c_f rfl ?_ | refine jc rfl ?_ | refine ja rfl rfl ?_ | refine jb rfl rfl ?_ | refine jg rfl rfl ?_ | refine jf rfl rfl ?_ | refine jd rfl rfl ?_ | refine je rfl rfl ?_ | refine jh rfl rfl ?_ | refine i_stb rfl ?_ | refine i_alloc rfl ?_ | refine i_box rfl rfl ?_ | refine i_nv rfl ?_ | (refine sp ?_ ?_ <;> try intro h) | refine sf rfl rfl (f_cmp_isNaN_int _) ?_ | fail)
  exact e_ret ⟨rfl, _, rfl, rfl⟩
def ltN (l : List Int) (x : Int) : Nat := l.countP fun y => decide (y < x)
theorem ltN_eq {l : List Int} {x : Int} {i : Nat} (hi : i ≤ l.length) (h1 : ∀ j y, j < i → l[j]? = some y → y < x) (h2 : ∀ j y, i ≤ j → l[j]? = some y → x ≤ y) : ltN l x = i := by
  unfold ltN
  conv => lhs; rw [← List.take_append_drop i l, List.countP_append]
  have e1 : (l.take i).countP (fun y => decide (y < x)) = (l.take i).length := List.countP_eq_length.2 fun y hy => by
    obtain ⟨j, hj, e⟩ := List.mem_take_iff_getElem.1 hy
    simpa using h1 j y (by omega) (by rw [← e]; exact List.getElem?_eq_getElem (by omega))
  have e2 : (l.drop i).countP (fun y => decide (y < x)) = 0 := List.countP_eq_zero.2 fun y hy => by
    obtain ⟨j, hj, e⟩ := List.mem_drop_iff_getElem.1 hy
    have := h2 (i + j) y (by omega) (by rw [← e]; exact List.getElem?_eq_getElem (by omega))
    simpa using this
  rw [e1, e2, List.length_take]
  omega
def c_slices_BinarySearch_int : Cmd :=
 (qS [qc 4 0, qb 5 false]
 (qS [qm 10 0, qn 11 10, qm 6 11]
 (qS [qm 12 6, qc 7 0, qm 8 12]
 (qT (.block 0 (.loop (qT (qS [qm 13 7, qm 14 8, qu 15 .lss [] 13 14]
 (.cond (.t 15) .skip (.exit 0)))
 (.block 1 (qS [qm 16 7, qm 17 8, qu 18 .add [] 16 17, qq 19 (.conv .u64 (.t 18)), qq 20 (.bin .shr false [] (.t 19) (.c (.int .u64 1))), qq 21 (.conv .i64 (.t 20)), qm 9 21]
 (qS [qm 22 0, qm 23 9, qi 24 1 22 23, ql 25 1 24, qm 26 1, qk 27 151 [25, 26]]
 (.cond (.t 27) (.ops [qm 28 9, qv 29 .add [] 28 1, qm 7 29]) (.ops [qm 30 9, qm 8 30]))))))))
 (.seq (.ops [qm 31 7, qm 32 7, qm 33 6, qu 34 .lss [] 32 33, qm 35 34, qg 36 35 true (.mov (.t 0)), qg 37 35 true (.mov (.t 7)), qg 38 35 true (.iaddr 1 (.t 36) (.t 37)), qg 39 35 true (.load false 1 (.t 38)), qg 40 35 true (.mov (.t 1)), qg 41 35 true (.bin .eql false [.i] (.t 39) (.t 40)), qg 42 35 true (.mov (.t 41)), qg 43 42 false (.mov (.t 0)), qg 44 42 false (.mov (.t 7)), qg 45 42 false (.iaddr 1 (.t 43) (.t 44)), qg 46 42 false (.load false 1 (.t 45)), qg 47 42 false (.call .f (.c (.fn 152 [])) [.t 46]), qg 48 42 false (.mov (.t 47)), qg 49 48 true (.mov (.t 1)), qg 50 48 true (.call .f (.c (.fn 152 [])) [.t 49]), qg 51 42 false (.pick (.t 48) (.t 50) (.c (.bool false))), qg 52 35 true (.pick (.t 42) (.c (.bool true)) (.t 51)), qq 53 (.pick (.t 35) (.t 52) (.c (.bool false))), qm 4 31, qm 5 53]) .ret)))))
def r_slices_BinarySearch_int : List RVar := [.tmp 4, .tmp 5]
def n_slices_BinarySearch_int : Nat := 54
theorem k_slices_BinarySearch_int : chkFn Go.Proofs.Tryz.prog 133 n_slices_BinarySearch_int r_slices_BinarySearch_int c_slices_BinarySearch_int = true := by kernel_rfl
theorem f_BinarySearch (l : List Int) (x : Int) (hl : l.length ≤ 140737488355328) (hs : SS l) : Fc Go.Proofs.Tryz.prog 133 [.sl .p (l.map i64V), .int .i64 x] (.tup [.int .i64 (ltN l x), .bool (decide (x ∈ l))]) := by
  refine Fn.step mixed k_slices_BinarySearch_int ?_
  repeat' (first | refine i_len rfl ?_ | refine i_s rfl ?_ | refine i_lenm rfl rfl rfl ?_ | refine sw ?_ | refine i_s0 rfl ?_ | refine i_gt rfl ?_ | refine i_gf rfl ?_ | refine i_gd rfl ?_ | refine c_t rfl ?_ | refine c_f rfl ?_ | refine jc rfl ?_ | refine ja rfl rfl ?_ | refine jb rfl rfl ?_ | refine jg rfl rfl ?_ | refine jf rfl rfl ?_ | refine jd rfl rfl ?_ | refine je rfl rfl ?_ | refine jh rfl rfl ?_ | refine i_stb rfl ?_ | refine i_alloc rfl ?_ | refine i_box rfl rfl ?_ | refine i_nv rfl ?_ | (refine sp ?_ ?_ <;> try intro h) | fail)
  refine c_lp (ι := Nat × Nat) (fun p => [(0, .sl .p (l.map i64V)), (1, .int .i64 x), (6, .int .i64 l.length), (7, .int .i64 p.1), (8, .int .i64 p.2)]) (fun _ => [])
    (fun p => p.1 ≤ p.2 ∧ p.2 ≤ l.length ∧ (∀ j y, j < p.1 → l[j]? = some y → y < x) ∧ (∀ j y, p.2 ≤ j → l[j]? = some y → x ≤ y)) (fun p => p.2 - p.1) (0, l.length) ⟨Nat.zero_le _, Nat.le_refl _, fun j y h => by omega, fun j y h1 h2 => by have := get_lt h2; omega⟩ ft fun p hi => ?_
  obtain ⟨i, j⟩ := p
  obtain ⟨h1, h2, h3, h4⟩ := hi
  simp only at h1 h2 h3 h4
  repeat (first | refine i_len rfl ?_ | refine i_s rfl ?_ | refine i_lenm rfl rfl rfl ?_ | refine sw ?_ | refine i_s0 rfl ?_ | refine i_gt rfl ?_ | refine i_gf rfl ?_ | refine i_gd rfl ?_ | refine c_t rfl ?_ | refine c_f rfl ?_ | refine jc rfl ?_ | refine ja rfl rfl ?_ | refine jb rfl rfl ?_ | refine jg rfl rfl ?_ | refine jf rfl rfl ?_ | refine jd rfl rfl ?_ | refine je rfl rfl ?_ | refine jh rfl rfl ?_ | refine i_stb rfl ?_ | refine i_alloc rfl ?_ | refine i_box rfl rfl ?_ | refine i_nv rfl ?_)
  refine c_cond rfl (fun h => ?_) (fun h => ?_)
  · have hlt : i < j := by simpa using h
    obtain ⟨y, hy⟩ := get_some (l := l) (k := (i + j) / 2) (by omega)
    clear h
    repeat (first | refine i_len rfl ?_ | refine i_s rfl ?_ | refine i_lenm rfl rfl rfl ?_ | refine sw ?_ | refine i_s0 rfl ?_ | refine i_gt rfl ?_ | refine i_gf rfl ?_ | refine i_gd rfl ?_ | refine c_t rfl ?_ | refine c_f rfl ?_ | refine jc rfl ?_ | refine ja rfl rfl ?_ | refine jb rfl rfl ?_ | refine jg rfl rfl ?_ | refine jf rfl rfl ?_ | refine jd rfl rfl ?_ | refine je rfl rfl ?_ | refine jh rfl rfl ?_ | refine i_stb rfl ?_ | refine i_alloc rfl ?_ | refine i_box rfl rfl ?_ | refine i_nv rfl ?_)
    refine i_shr (q := (((i + j) / 2 : Nat) : Int)) rfl rfl (by decide) ?_ ?_
    · show Int.fdiv ((i : Int) + (j : Int)) 2 = _
      rw [Int.fdiv_eq_ediv_of_nonneg _ (by decide)]
      omega
    repeat (first | refine i_len rfl ?_ | refine i_s rfl ?_ | refine i_lenm rfl rfl rfl ?_ | refine sw ?_ | refine i_s0 rfl ?_ | refine i_gt rfl ?_ | refine i_gf rfl ?_ | refine i_gd rfl ?_ | refine c_t rfl ?_ | refine c_f rfl ?_ | refine jc rfl ?_ | refine ja rfl rfl ?_ | refine jb rfl rfl ?_ | refine jg rfl rfl ?_ | refine jf rfl rfl ?_ | refine jd rfl rfl ?_ | refine je rfl rfl ?_ | refine jh rfl rfl ?_ | refine i_stb rfl ?_ | refine i_alloc rfl ?_ | refine i_box rfl rfl ?_ | refine i_nv rfl ?_ | refine sf rfl rfl (f_cmp_Less_int _ _) ?_)
    refine c_cond rfl (fun h => ?_) (fun h => ?_)
    · have hyx : y < x := by simpa using h
      repeat (first | refine i_len rfl ?_ | refine i_s rfl ?_ | refine i_lenm rfl rfl rfl ?_ | refine sw ?_ | refine i_s0 rfl ?_ | refine i_gt rfl ?_ | refine i_gf rfl ?_ | refine i_gd rfl ?_ | refine c_t rfl ?_ | refine c_f rfl ?_ | refine jc rfl ?_ | refine ja rfl rfl ?_ | refine jb rfl rfl ?_ | refine jg rfl rfl ?_ | refine jf rfl rfl ?_ | refine jd rfl rfl ?_ | refine je rfl rfl ?_ | refine jh rfl rfl ?_ | refine i_stb rfl ?_ | refine i_alloc rfl ?_ | refine i_box rfl rfl ?_ | refine i_nv rfl ?_)
      refine e_lp ((i + j) / 2 + 1, j) ⟨by simp only; omega, h2, fun k z hk hz => ?_, h4⟩ (by simp only; omega) ⟨⟨rfl, rfl, rfl, ?_, rfl, trivial⟩, trivial, rfl⟩
      · by_cases e : k = (i + j) / 2
        · subst e; rw [hy] at hz; cases hz; exact hyx
        · have := ss_idx hs hz hy (by simp only at hk; omega); omega
      · rfl
    · have hyx : ¬ y < x := by simpa using h
      repeat (first | refine i_len rfl ?_ | refine i_s rfl ?_ | refine i_lenm rfl rfl rfl ?_ | refine sw ?_ | refine i_s0 rfl ?_ | refine i_gt rfl ?_ | refine i_gf rfl ?_ | refine i_gd rfl ?_ | refine c_t rfl ?_ | refine c_f rfl ?_ | refine jc rfl ?_ | refine ja rfl rfl ?_ | refine jb rfl rfl ?_ | refine jg rfl rfl ?_ | refine jf rfl rfl ?_ | refine jd rfl rfl ?_ | refine je rfl rfl ?_ | refine jh rfl rfl ?_ | refine i_stb rfl ?_ | refine i_alloc rfl ?_ | refine i_box rfl rfl ?_ | refine i_nv rfl ?_)
      refine e_lp (i, (i + j) / 2) ⟨by simp only; omega, by simp only; omega, h3, fun k z hk hz => ?_⟩ (by simp only; omega) ft
      by_cases e : k = (i + j) / 2
      · subst e; rw [hy] at hz; cases hz; omega
      · have := ss_idx hs hy hz (by simp only at hk; omega); omega
  · have he : i = j := by have : ¬ i < j := by simpa using h
                          omega
    subst he
    have hn := ltN_eq h2 h3 h4
    clear h
    by_cases hil : i < l.length
    · obtain ⟨y, hy⟩ := get_some hil
      have hil' : (i : Int) < l.length := by omega
      by_cases e : y = x
      · have hm : x ∈ l := e ▸ mem_get hy
        repeat' (first | refine i_len rfl ?_ | refine i_s rfl ?_ | refine i_lenm rfl rfl rfl ?_ | refine sw ?_ | refine i_s0 rfl ?_ | refine i_gt rfl ?_ | refine i_gf rfl ?_ | refine i_gd rfl ?_ | refine c_t rfl ?_ | refine c_f rfl ?_ | refine jc rfl ?_ | refine ja rfl rfl ?_ | refine jb rfl rfl ?_ | refine jg rfl rfl ?_ | refine jf rfl rfl ?_ | refine jd rfl rfl ?_ | refine je rfl rfl ?_ | refine jh rfl rfl ?_ | refine i_stb rfl ?_ | refine i_alloc rfl ?_ | refine i_box rfl rfl ?_ | refine i_nv rfl ?_ | (refine sp ?_ ?_ <;> try intro h) | refine sf rfl rfl (f_slices_isNaN_int _) ?_ | fail)
        all_goals first
          | (refine e_ret ⟨rfl, _, rfl, ?_⟩; rw [hn, decide_eq_true hm]; rfl)
          | (exfalso; simp at *; omega)
      · have hm : x ∉ l := fun hm => by
          obtain ⟨k, hk, e2⟩ := List.getElem_of_mem hm
          have hg : l[k]? = some x := by rw [← e2]; exact List.getElem?_eq_getElem hk
          by_cases hki : k < i
          · have := h3 k x hki hg; omega
          · by_cases hke : k = i
            · subst hke; rw [hy] at hg; cases hg; exact e rfl
            · have := ss_idx hs hy hg (by omega)
              have := h4 i y (Nat.le_refl _) hy
              omega
        repeat' (first | refine i_len rfl ?_ | refine i_s rfl ?_ | refine i_lenm rfl rfl rfl ?_ | refine sw ?_ | refine i_s0 rfl ?_ | refine i_gt rfl ?_ | refine i_gf rfl ?_ | refine i_gd rfl ?_ | refine c_t rfl ?_ | refine c_f rfl ?_ | refine jc rfl ?_ | refine ja rfl rfl ?_ | refine jb rfl rfl ?_ | refine jg rfl rfl ?_ | refine jf rfl rfl ?_ | refine jd rfl rfl ?_ | refine je rfl rfl ?_ | refine jh rfl rfl ?_ | refine i_stb rfl ?_ | refine i_alloc rfl ?_ | refine i_box rfl rfl ?_ | refine i_nv rfl ?_ | (refine sp ?_ ?_ <;> try intro h) | refine sf rfl rfl (f_slices_isNaN_int _) ?_ | fail)
        all_goals first
          | (refine e_ret ⟨rfl, _, rfl, ?_⟩; rw [hn, decide_eq_false hm]; rfl)
          | (exfalso; clear hm h3 h4 hs hn; simp at *; omega)
          | (exfalso; clear hm h3 h4 hs hn; simp at *; done)
    · have hm : x ∉ l := fun hm => by
        obtain ⟨k, hk, e2⟩ := List.getElem_of_mem hm
        have := h3 k x (by omega) (by rw [← e2]; exact List.getElem?_eq_getElem hk)
        omega
      repeat' (first | refine i_len rfl ?_ | refine i_s rfl ?_ | refine i_lenm rfl rfl rfl ?_ | refine sw ?_ | refine i_s0 rfl ?_ | refine i_gt rfl ?_ | refine i_gf rfl ?_ | refine i_gd rfl ?_ | refine c_t rfl ?_ | refine c_f rfl ?_ | refine jc rfl ?_ | refine ja rfl rfl ?_ | refine jb rfl rfl ?_ | refine jg rfl rfl ?_ | refine jf rfl rfl ?_ | refine jd rfl rfl ?_ | refine je rfl rfl ?_ | refine jh rfl rfl ?_ | refine i_stb rfl ?_ | refine i_alloc rfl ?_ | refine i_box rfl rfl ?_ | refine i_nv rfl ?_ | (refine sp ?_ ?_ <;> try intro h) | refine sf rfl rfl (f_slices_isNaN_int _) ?_ | fail)
      all_goals first
        | (refine e_ret ⟨rfl, _, rfl, ?_⟩; rw [hn, decide_eq_false hm]; rfl)
        | (exfalso; clear hm h3 h4 hs hn; simp at *; omega)
def c_strips_Meets_1 : Cmd :=
 (qS [qb 3 false]
 (qS [ql 7 1 1, qm 8 0, qk 9 133 [7, 8], qm 6 9, qq 10 (.extract (.t 6) 0), qq 11 (.extract (.t 6) 1), qm 4 10, qm 5 11]
 (.seq (.ops [qm 12 5, qm 3 12]) .ret)))
def r_strips_Meets_1 : List RVar := [.tmp 3]
def n_strips_Meets_1 : Nat := 13
theorem k_strips_Meets_1 : chkFn Go.Proofs.Tryz.prog 132 n_strips_Meets_1 r_strips_Meets_1 c_strips_Meets_1 = true := by kernel_rfl
theorem f_strips_Meets_1 (b : List Int) (hl : b.length ≤ 140737488355328) (hs : SS b) (x : Int) : Fc Go.Proofs.Tryz.prog 132 [i64V x, .cptr .p (.sl .p (b.map i64V)) 0] (.bool (decide (x ∈ b))) := by
  refine Fn.step mixed k_strips_Meets_1 ?_
  repeat' (first | refine i_len rfl ?_ | refine i_s rfl ?_ | refine i_lenm rfl rfl rfl ?_ | refine sw ?_ | refine i_s0 rfl ?_ | refine i_gt rfl ?_ | refine i_gf rfl ?_ | refine i_gd rfl ?_ | refine c_t rfl ?_ | refine c_f rfl ?_ | refine jc rfl ?_ | refine ja rfl rfl ?_ | refine jb rfl rfl ?_ | refine jg rfl rfl ?_ | refine jf rfl rfl ?_ | refine jd rfl rfl ?_ | refine je rfl rfl ?_ | refine jh rfl rfl ?_ | refine i_stb rfl ?_ | refine i_alloc rfl ?_ | refine i_box rfl rfl ?_ | refine i_nv rfl ?_ | (refine sp ?_ ?_ <;> try intro h) | refine sf rfl rfl (f_BinarySearch b x hl hs) ?_ | fail)
  exact e_ret ⟨rfl, _, rfl, rfl⟩
def c_strips_Meets : Cmd :=
 (qS [qx 3 6272193 1 1, qb 4 false]
 (.seq (.ops [qm 5 0, qq 6 (.mkfn 132 [.t 3]), qk 7 44 [5, 6], qm 4 7]) .ret))
def r_strips_Meets : List RVar := [.tmp 4]
def n_strips_Meets : Nat := 8
theorem k_strips_Meets : chkFn Go.Proofs.Tryz.prog 98 n_strips_Meets r_strips_Meets c_strips_Meets = true := by kernel_rfl
theorem f_strips_Meets (a b : List Int) (hl : a.length ≤ 140737488355328) (hlb : b.length ≤ 140737488355328) (hs : SS b) : Fc Go.Proofs.Tryz.prog 98 [.sl .p (a.map i64V), .sl .p (b.map i64V)] (.bool (meetB a b)) := by
  have hC := f_ContainsFunc_int a (fun x => decide (x ∈ b)) 132 [.cptr .p (.sl .p (b.map i64V)) 0] hl (fun _ _ => rfl) rfl (fun x _ => f_strips_Meets_1 b hlb hs x)
  refine Fn.step mixed k_strips_Meets ?_
  repeat' (first | refine i_len rfl ?_ | refine i_s rfl ?_ | refine i_lenm rfl rfl rfl ?_ | refine sw ?_ | refine i_s0 rfl ?_ | refine i_gt rfl ?_ | refine i_gf rfl ?_ | refine i_gd rfl ?_ | refine c_t rfl ?_ | refine c_f rfl ?_ | refine jc rfl ?_ | refine ja rfl rfl ?_ | refine jb rfl rfl ?_ | refine jg rfl rfl ?_ | refine jf rfl rfl ?_ | refine jd rfl rfl ?_ | refine je rfl rfl ?_ | refine jh rfl rfl ?_ | refine i_stb rfl ?_ | refine i_alloc rfl ?_ | refine i_box rfl rfl ?_ | refine i_nv rfl ?_ | (refine sp ?_ ?_ <;> try intro h) | refine sf rfl rfl hC ?_ | fail)
  exact e_ret ⟨rfl, _, rfl, rfl⟩
def opCode (n : Int) (o : SOp) : Int := if isSetB n o.pre = false ∨ isSetB n o.add = false ∨ isSetB n o.del = false ∨ disjB o.add o.del = false then 5 else if o.cost < 0 ∨ o.cost > 100 then 3 else 0
theorem sopBad_eq {n : Int} {ops : List SOp} {i : Nat} {o : SOp} (h : ops[i]? = some o) : sopBad n ops i = if opCode n o = 0 then none else some ⟨opCode n o, i⟩ := by
  unfold sopBad opCode
  rw [h]
  simp only
  repeat' split
  all_goals first | rfl | omega | contradiction
def SoOk (o : SOp) : Prop := o.pre.length ≤ 140737488355328 ∧ o.add.length ≤ 140737488355328 ∧ o.del.length ≤ 140737488355328
theorem opc5 {n : Int} {o : SOp} (h : isSetB n o.pre = false ∨ isSetB n o.add = false ∨ isSetB n o.del = false ∨ disjB o.add o.del = false) : opCode n o = 5 := if_pos h
theorem opc {n : Int} {o : SOp} (h1 : isSetB n o.pre = true) (h2 : isSetB n o.add = true) (h3 : isSetB n o.del = true) (h4 : disjB o.add o.del = true) : opCode n o = if o.cost < 0 ∨ o.cost > 100 then 3 else 0 := if_neg (by simp [h1, h2, h3, h4])
def c_strips_operator : Cmd :=
 (qS [qx 2 3328132 4 0, qc 4 0]
 (qT (.block 0 (qS [qf 6 0 2, ql 7 1 6, qm 8 1, qk 9 51 [7, 8], qq 10 (.not (.t 9)), qm 11 10, qg 12 11 false (.faddr 1 (.t 2)), qg 13 11 false (.load false 1 (.t 12)), qg 14 11 false (.mov (.t 1)), qg 15 11 false (.call .f (.c (.fn 51 [])) [.t 13, .t 14]), qg 16 11 false (.not (.t 15)), qq 17 (.pick (.t 11) (.c (.bool true)) (.t 16)), qm 18 17, qg 19 18 false (.faddr 2 (.t 2)), qg 20 18 false (.load false 1 (.t 19)), qg 21 18 false (.mov (.t 1)), qg 22 18 false (.call .f (.c (.fn 51 [])) [.t 20, .t 21]), qg 23 18 false (.not (.t 22)), qq 24 (.pick (.t 18) (.c (.bool true)) (.t 23)), qm 25 24, qg 26 25 false (.faddr 1 (.t 2)), qg 27 25 false (.load false 1 (.t 26)), qg 28 25 false (.faddr 2 (.t 2)), qg 29 25 false (.load false 1 (.t 28)), qg 30 25 false (.call .f (.c (.fn 98 [])) [.t 27, .t 29]), qq 31 (.pick (.t 25) (.c (.bool true)) (.t 30)), qm 5 31]
 (.cond (.t 5) (.seq (.ops [qc 4 5]) .ret) (qS [qf 33 3 2, ql 34 1 33, qv 35 .lss [] 34 0, qm 36 35, qg 37 36 false (.faddr 3 (.t 2)), qg 38 36 false (.load false 1 (.t 37)), qg 39 36 false (.bin .gtr false [] (.t 38) (.c (.int .i64 100))), qq 40 (.pick (.t 36) (.c (.bool true)) (.t 39)), qm 32 40]
 (.cond (.t 32) (.seq (.ops [qc 4 3]) .ret) .skip)))))
 (.seq (.ops [qc 4 0]) .ret)))
def r_strips_operator : List RVar := [.tmp 4]
def n_strips_operator : Nat := 41
theorem k_strips_operator : chkFn Go.Proofs.Tryz.prog 52 n_strips_operator r_strips_operator c_strips_operator = true := by kernel_rfl
theorem f_strips_operator (o : SOp) (n : Int) (ho : SoOk o) : Fc Go.Proofs.Tryz.prog 52 [soV o, .int .i64 n] (.int .i64 (opCode n o)) := by
  obtain ⟨l1, l2, l3⟩ := ho
  have h1 := f_strips_IsSet o.pre n l1
  have h2 := f_strips_IsSet o.add n l2
  have h3 := f_strips_IsSet o.del n l3
  cases e1 : isSetB n o.pre with
  | false =>
    rw [e1] at h1
    refine Fn.step mixed k_strips_operator ?_
    repeat' (first | refine i_len rfl ?_ | refine i_s rfl ?_ | refine i_lenm rfl rfl rfl ?_ | refine sw ?_ | refine i_s0 rfl ?_ | refine i_gt rfl ?_ | refine i_gf rfl ?_ | refine i_gd rfl ?_ | refine c_t rfl ?_ | refine c_f rfl ?_ | refine jc rfl ?_ | refine ja rfl rfl ?_ | refine jb rfl rfl ?_ | refine jg rfl rfl ?_ | refine jf rfl rfl ?_ | refine jd rfl rfl ?_ | refine je rfl rfl ?_ | refine jh rfl rfl ?_ | refine i_stb rfl ?_ | refine i_alloc rfl ?_ | refine i_box rfl rfl ?_ | refine i_nv rfl ?_ | (refine sp ?_ ?_ <;> try intro h) | refine sf rfl rfl h1 ?_ | fail)
    exact e_ret ⟨rfl, _, rfl, congrArg (V.int .i64) (opc5 (.inl e1))⟩
  | true =>
  cases e2 : isSetB n o.add with
  | false =>
    rw [e1] at h1
    rw [e2] at h2
    refine Fn.step mixed k_strips_operator ?_
    repeat' (first | refine i_len rfl ?_ | refine i_s rfl ?_ | refine i_lenm rfl rfl rfl ?_ | refine sw ?_ | refine i_s0 rfl ?_ | refine i_gt rfl ?_ | refine i_gf rfl ?_ | refine i_gd rfl ?_ | refine c_t rfl ?_ | refine c_f rfl ?_ | refine jc rfl ?_ | refine ja rfl rfl ?_ | refine jb rfl rfl ?_ | refine jg rfl rfl ?_ | refine jf rfl rfl ?_ | refine jd rfl rfl ?_ | refine je rfl rfl ?_ | refine jh rfl rfl ?_ | refine i_stb rfl ?_ | refine i_alloc rfl ?_ | refine i_box rfl rfl ?_ | refine i_nv rfl ?_ | (refine sp ?_ ?_ <;> try intro h) | refine sf rfl rfl h1 ?_ | refine sf rfl rfl h2 ?_ | fail)
    exact e_ret ⟨rfl, _, rfl, congrArg (V.int .i64) (opc5 (.inr (.inl e2)))⟩
  | true =>
  cases e3 : isSetB n o.del with
  | false =>
    rw [e1] at h1
    rw [e2] at h2
    rw [e3] at h3
    refine Fn.step mixed k_strips_operator ?_
    repeat' (first | refine i_len rfl ?_ | refine i_s rfl ?_ | refine i_lenm rfl rfl rfl ?_ | refine sw ?_ | refine i_s0 rfl ?_ | refine i_gt rfl ?_ | refine i_gf rfl ?_ | refine i_gd rfl ?_ | refine c_t rfl ?_ | refine c_f rfl ?_ | refine jc rfl ?_ | refine ja rfl rfl ?_ | refine jb rfl rfl ?_ | refine jg rfl rfl ?_ | refine jf rfl rfl ?_ | refine jd rfl rfl ?_ | refine je rfl rfl ?_ | refine jh rfl rfl ?_ | refine i_stb rfl ?_ | refine i_alloc rfl ?_ | refine i_box rfl rfl ?_ | refine i_nv rfl ?_ | (refine sp ?_ ?_ <;> try intro h) | refine sf rfl rfl h1 ?_ | refine sf rfl rfl h2 ?_ | refine sf rfl rfl h3 ?_ | fail)
    exact e_ret ⟨rfl, _, rfl, congrArg (V.int .i64) (opc5 (.inr (.inr (.inl e3))))⟩
  | true =>
  have h4 := f_strips_Meets o.add o.del l2 l3 (isSet_of e3).ss
  rw [meet_disj] at h4
  rw [e1] at h1
  rw [e2] at h2
  rw [e3] at h3
  cases e4 : disjB o.add o.del with
  | false =>
    rw [e4] at h4
    refine Fn.step mixed k_strips_operator ?_
    repeat' (first | refine i_len rfl ?_ | refine i_s rfl ?_ | refine i_lenm rfl rfl rfl ?_ | refine sw ?_ | refine i_s0 rfl ?_ | refine i_gt rfl ?_ | refine i_gf rfl ?_ | refine i_gd rfl ?_ | refine c_t rfl ?_ | refine c_f rfl ?_ | refine jc rfl ?_ | refine ja rfl rfl ?_ | refine jb rfl rfl ?_ | refine jg rfl rfl ?_ | refine jf rfl rfl ?_ | refine jd rfl rfl ?_ | refine je rfl rfl ?_ | refine jh rfl rfl ?_ | refine i_stb rfl ?_ | refine i_alloc rfl ?_ | refine i_box rfl rfl ?_ | refine i_nv rfl ?_ | (refine sp ?_ ?_ <;> try intro h) | refine sf rfl rfl h1 ?_ | refine sf rfl rfl h2 ?_ | refine sf rfl rfl h3 ?_ | refine sf rfl rfl h4 ?_ | fail)
    exact e_ret ⟨rfl, _, rfl, congrArg (V.int .i64) (opc5 (.inr (.inr (.inr e4))))⟩
  | true =>
    rw [e4] at h4
    refine Fn.step mixed k_strips_operator ?_
    repeat' (first | refine i_len rfl ?_ | refine i_s rfl ?_ | refine i_lenm rfl rfl rfl ?_ | refine sw ?_ | refine i_s0 rfl ?_ | refine i_gt rfl ?_ | refine i_gf rfl ?_ | refine i_gd rfl ?_ | refine c_t rfl ?_ | refine c_f rfl ?_ | refine jc rfl ?_ | refine ja rfl rfl ?_ | refine jb rfl rfl ?_ | refine jg rfl rfl ?_ | refine jf rfl rfl ?_ | refine jd rfl rfl ?_ | refine je rfl rfl ?_ | refine jh rfl rfl ?_ | refine i_stb rfl ?_ | refine i_alloc rfl ?_ | refine i_box rfl rfl ?_ | refine i_nv rfl ?_ | (refine sp ?_ ?_ <;> try intro h) | refine sf rfl rfl h1 ?_ | refine sf rfl rfl h2 ?_ | refine sf rfl rfl h3 ?_ | refine sf rfl rfl h4 ?_ | fail)
    all_goals
      refine e_ret ⟨rfl, _, rfl, congrArg (V.int .i64) ?_⟩
      rw [opc e1 e2 e3 e4]
      clear h1 h2 h3 h4
      simp at *
      omega
theorem sF1 {t : STask} (h : t.facts < 0 ∨ t.facts > 24) : sFault t = ⟨3, -1⟩ := if_pos h
theorem sF2 {t : STask} (h : ¬ (t.facts < 0 ∨ t.facts > 24)) (h2 : isSetB t.facts t.init = false) : sFault t = ⟨5, -2⟩ := by unfold sFault; rw [if_neg h, if_pos h2]
theorem sF3 {t : STask} (h : ¬ (t.facts < 0 ∨ t.facts > 24)) (h2 : isSetB t.facts t.init = true) (h3 : isSetB t.facts t.goal = false) : sFault t = ⟨5, -3⟩ := by unfold sFault; rw [if_neg h, if_neg (by simp [h2]), if_pos h3]
theorem sF4 {t : STask} (h : ¬ (t.facts < 0 ∨ t.facts > 24)) (h2 : isSetB t.facts t.init = true) (h3 : isSetB t.facts t.goal = true) (h4 : t.ops.length > 40) : sFault t = ⟨2, -1⟩ := by unfold sFault; rw [if_neg h, if_neg (by simp [h2]), if_neg (by simp [h3]), if_pos h4]
theorem sF5 {t : STask} (h : ¬ (t.facts < 0 ∨ t.facts > 24)) (h2 : isSetB t.facts t.init = true) (h3 : isSetB t.facts t.goal = true) (h4 : ¬ t.ops.length > 40) : sFault t = (scan (sopBad t.facts t.ops) 0 t.ops.length).getD okF := by unfold sFault; rw [if_neg h, if_neg (by simp [h2]), if_neg (by simp [h3]), if_neg h4]
theorem sF_hit {t : STask} (hel : sFault t = (scan (sopBad t.facts t.ops) 0 t.ops.length).getD okF) {k : Nat} {f : Flt} (hi : ∀ j, j < k → sopBad t.facts t.ops j = none) (hk : k < t.ops.length) (hf : sopBad t.facts t.ops k = some f) : sFault t = f := by
  rw [hel, scan0_hit hi hk hf]; rfl
theorem sF_none {t : STask} (hel : sFault t = (scan (sopBad t.facts t.ops) 0 t.ops.length).getD okF) (hi : ∀ j, j < t.ops.length → sopBad t.facts t.ops j = none) : sFault t = okF := by
  rw [hel, scan0_none hi]; rfl
end Hm
end
section
namespace Hm
open Go
set_option maxRecDepth 100000
set_option maxHeartbeats 2000000
def c_strips_Validate : Cmd :=
 (qS [qx 1 1152068 4 0, qq 2 (.alloc 1152130 (.agg [.int .i64 0, .int .i64 0]))]
 (qT (.block 0 (qS [qf 7 0 1, ql 8 1 7, qv 9 .lss [] 8 0, qm 10 9, qg 11 10 false (.faddr 0 (.t 1)), qg 12 10 false (.load false 1 (.t 11)), qg 13 10 false (.bin .gtr false [] (.t 12) (.c (.int .i64 24))), qq 14 (.pick (.t 10) (.c (.bool true)) (.t 13)), qm 6 14]
 (.cond (.t 6) (.seq (.ops [qq 15 (.build [.int .i64 0, .int .i64 0] [(0 , 1 , .c (.int .i64 3)), (1 , 1 , .c (.int .i64 (-1)))]), qs 2 2 15]) .ret) (qS [qf 17 1 1, ql 18 1 17, qf 19 0 1, ql 20 1 19, qk 21 51 [18, 20], qq 22 (.not (.t 21)), qm 16 22]
 (.cond (.t 16) (.seq (.ops [qq 23 (.build [.int .i64 0, .int .i64 0] [(0 , 1 , .c (.int .i64 5)), (1 , 1 , .c (.int .i64 (-2)))]), qs 2 2 23]) .ret) (qS [qf 25 2 1, ql 26 1 25, qf 27 0 1, ql 28 1 27, qk 29 51 [26, 28], qq 30 (.not (.t 29)), qm 24 30]
 (.cond (.t 24) (.seq (.ops [qq 31 (.build [.int .i64 0, .int .i64 0] [(0 , 1 , .c (.int .i64 5)), (1 , 1 , .c (.int .i64 (-3)))]), qs 2 2 31]) .ret) (qS [qf 33 3 1, ql 34 1 33, qn 35 34, qv 36 .gtr [] 35 40, qm 32 36]
 (.cond (.t 32) (.seq (.ops [qq 37 (.build [.int .i64 0, .int .i64 0] [(0 , 1 , .c (.int .i64 2)), (1 , 1 , .c (.int .i64 (-1)))]), qs 2 2 37]) .ret) .skip)))))))))
 (qT (qS [qf 38 3 1, ql 39 1 38, qn 40 39, qc 41 0]
 (.block 1 (.loop (qS [qu 42 .lss [] 41 40]
 (qT (.cond (.t 42) .skip (.exit 1))
 (qT (.block 2 (qS [qm 43 41, qi 44 4 39 41, qL 45 4 44, qq 4 (.alloc 1152260 (.agg [.sl .nil [], .sl .nil [], .sl .nil [], .int .i64 0])), qm 3 43, qs 4 4 45]
 (qS [qL 46 4 4, qf 47 0 1, ql 48 1 47, qk 49 52 [46, 48], qm 5 49]
 (qS [qm 50 5, qv 51 .neq [.i] 50 0]
 (.cond (.t 51) (.seq (.ops [qm 52 5, qm 53 3, qq 54 (.build [.int .i64 0, .int .i64 0] [(0 , 1 , .t 52), (1 , 1 , .t 53)]), qs 2 2 54]) .ret) .skip)))))
 (.ops [qv 55 .add [] 41 1, qm 41 55])))))))
 (.seq (.ops [qq 56 (.build [.int .i64 0, .int .i64 0] []), qs 2 2 56]) .ret))))
def r_strips_Validate : List RVar := [.cell true 2 2]
def n_strips_Validate : Nat := 57
theorem k_strips_Validate : chkFn Go.Proofs.Tryz.prog 18 n_strips_Validate r_strips_Validate c_strips_Validate = true := by kernel_rfl
theorem f_strips_Validate (t : STask) (ho : SkOk t) : Fc Go.Proofs.Tryz.prog 18 [skV t] (ftV (sFault t)) := by
  have h1 := f_strips_IsSet t.init t.facts ho.i
  have h2 := f_strips_IsSet t.goal t.facts ho.g
  have l5 := ho.o
  have hop : ∀ o ∈ t.ops, Fc Go.Proofs.Tryz.prog 52 [soV o, .int .i64 t.facts] (.int .i64 (opCode t.facts o)) := fun o h => f_strips_operator o t.facts (ho.e o h)
  by_cases hf : t.facts < 0 ∨ t.facts > 24
  · refine Fn.step mixed k_strips_Validate ?_
    repeat' (first | refine i_len rfl ?_ | refine i_s rfl ?_ | refine i_lenm rfl rfl rfl ?_ | refine sw ?_ | refine i_s0 rfl ?_ | refine i_gt rfl ?_ | refine i_gf rfl ?_ | refine i_gd rfl ?_ | refine c_t rfl ?_ | refine c_f rfl ?_ | refine jc rfl ?_ | refine ja rfl rfl ?_ | refine jb rfl rfl ?_ | refine jg rfl rfl ?_ | refine jf rfl rfl ?_ | refine jd rfl rfl ?_ | refine je rfl rfl ?_ | refine jh rfl rfl ?_ | refine i_stb rfl ?_ | refine i_alloc rfl ?_ | refine i_box rfl rfl ?_ | refine i_nv rfl ?_ | (refine sp ?_ ?_ <;> try intro h) | fail)
    all_goals first
      | exact e_ret ⟨rfl, _, rfl, congr_ft (sF1 hf)⟩
      | (exfalso; clear h1 h2 ho hop; simp at *; omega)
  have hf' : 0 ≤ t.facts ∧ t.facts ≤ 24 := by omega
  cases e1 : isSetB t.facts t.init with
  | false =>
    rw [e1] at h1
    refine Fn.step mixed k_strips_Validate ?_
    repeat' (first | refine i_len rfl ?_ | refine i_s rfl ?_ | refine i_lenm rfl rfl rfl ?_ | refine sw ?_ | refine i_s0 rfl ?_ | refine i_gt rfl ?_ | refine i_gf rfl ?_ | refine i_gd rfl ?_ | refine c_t rfl ?_ | refine c_f rfl ?_ | refine jc rfl ?_ | refine ja rfl rfl ?_ | refine jb rfl rfl ?_ | refine jg rfl rfl ?_ | refine jf rfl rfl ?_ | refine jd rfl rfl ?_ | refine je rfl rfl ?_ | refine jh rfl rfl ?_ | refine i_stb rfl ?_ | refine i_alloc rfl ?_ | refine i_box rfl rfl ?_ | refine i_nv rfl ?_ | (refine sp ?_ ?_ <;> try intro h) | refine sf rfl rfl h1 ?_ | fail)
    all_goals first
      | exact e_ret ⟨rfl, _, rfl, congr_ft (sF2 hf e1)⟩
      | (exfalso; clear h1 h2 ho hop; simp at *; omega)
  | true =>
  cases e2 : isSetB t.facts t.goal with
  | false =>
    rw [e1] at h1
    rw [e2] at h2
    refine Fn.step mixed k_strips_Validate ?_
    repeat' (first | refine i_len rfl ?_ | refine i_s rfl ?_ | refine i_lenm rfl rfl rfl ?_ | refine sw ?_ | refine i_s0 rfl ?_ | refine i_gt rfl ?_ | refine i_gf rfl ?_ | refine i_gd rfl ?_ | refine c_t rfl ?_ | refine c_f rfl ?_ | refine jc rfl ?_ | refine ja rfl rfl ?_ | refine jb rfl rfl ?_ | refine jg rfl rfl ?_ | refine jf rfl rfl ?_ | refine jd rfl rfl ?_ | refine je rfl rfl ?_ | refine jh rfl rfl ?_ | refine i_stb rfl ?_ | refine i_alloc rfl ?_ | refine i_box rfl rfl ?_ | refine i_nv rfl ?_ | (refine sp ?_ ?_ <;> try intro h) | refine sf rfl rfl h1 ?_ | refine sf rfl rfl h2 ?_ | fail)
    all_goals first
      | exact e_ret ⟨rfl, _, rfl, congr_ft (sF3 hf e1 e2)⟩
      | (exfalso; clear h1 h2 ho hop; simp at *; omega)
  | true =>
  rw [e1] at h1
  rw [e2] at h2
  by_cases h4 : t.ops.length > 40
  · refine Fn.step mixed k_strips_Validate ?_
    repeat' (first | refine i_len rfl ?_ | refine i_s rfl ?_ | refine i_lenm rfl rfl rfl ?_ | refine sw ?_ | refine i_s0 rfl ?_ | refine i_gt rfl ?_ | refine i_gf rfl ?_ | refine i_gd rfl ?_ | refine c_t rfl ?_ | refine c_f rfl ?_ | refine jc rfl ?_ | refine ja rfl rfl ?_ | refine jb rfl rfl ?_ | refine jg rfl rfl ?_ | refine jf rfl rfl ?_ | refine jd rfl rfl ?_ | refine je rfl rfl ?_ | refine jh rfl rfl ?_ | refine i_stb rfl ?_ | refine i_alloc rfl ?_ | refine i_box rfl rfl ?_ | refine i_nv rfl ?_ | (refine sp ?_ ?_ <;> try intro h) | refine sf rfl rfl h1 ?_ | refine sf rfl rfl h2 ?_ | fail)
    all_goals first
      | exact e_ret ⟨rfl, _, rfl, congr_ft (sF4 hf e1 e2 h4)⟩
      | (exfalso; clear h1 h2 ho hop; simp at *; omega)
  have hel := sF5 hf e1 e2 h4
  refine Fn.step mixed k_strips_Validate ?_
  repeat' (first | refine i_len rfl ?_ | refine i_s rfl ?_ | refine i_lenm rfl rfl rfl ?_ | refine sw ?_ | refine i_s0 rfl ?_ | refine i_gt rfl ?_ | refine i_gf rfl ?_ | refine i_gd rfl ?_ | refine c_t rfl ?_ | refine c_f rfl ?_ | refine jc rfl ?_ | refine ja rfl rfl ?_ | refine jb rfl rfl ?_ | refine jg rfl rfl ?_ | refine jf rfl rfl ?_ | refine jd rfl rfl ?_ | refine je rfl rfl ?_ | refine jh rfl rfl ?_ | refine i_stb rfl ?_ | refine i_alloc rfl ?_ | refine i_box rfl rfl ?_ | refine i_nv rfl ?_ | (refine sp ?_ ?_ <;> try intro h) | refine sf rfl rfl h1 ?_ | refine sf rfl rfl h2 ?_ | fail)
  all_goals first | (exfalso; clear h1 h2 ho hop hel; simp at *; omega) | skip
  refine c_for t.ops.length (fun k => [(1, .bptr 1152068 0), (2, .bptr 1152130 0), (39, .sl .p (t.ops.map soV)), (40, .int .i64 t.ops.length), (41, .int .i64 k)]) (fun _ => [(1152068, .box (skV t)), (1152130, .box (ftV okF))]) (fun k => ∀ j, j < k → sopBad t.facts t.ops j = none) all_zero ft fun k hk hi => ?_
  clear h1 h2
  repeat (first | refine i_len rfl ?_ | refine i_s rfl ?_ | refine i_lenm rfl rfl rfl ?_ | refine sw ?_ | refine i_s0 rfl ?_ | refine i_gt rfl ?_ | refine i_gf rfl ?_ | refine i_gd rfl ?_ | refine c_t rfl ?_ | refine c_f rfl ?_ | refine jc rfl ?_ | refine ja rfl rfl ?_ | refine jb rfl rfl ?_ | refine jg rfl rfl ?_ | refine jf rfl rfl ?_ | refine jd rfl rfl ?_ | refine je rfl rfl ?_ | refine jh rfl rfl ?_ | refine i_stb rfl ?_ | refine i_alloc rfl ?_ | refine i_box rfl rfl ?_ | refine i_nv rfl ?_)
  refine c_cond rfl (fun h => ?_) (fun h => ?_)
  · have hlt : k < t.ops.length := by simpa using h
    obtain ⟨o, hx⟩ := get_some hlt
    have hc := hop o (mem_get hx)
    have hb := sopBad_eq (n := t.facts) hx
    clear h hop ho
    repeat (first | refine i_len rfl ?_ | refine i_s rfl ?_ | refine i_lenm rfl rfl rfl ?_ | refine sw ?_ | refine i_s0 rfl ?_ | refine i_gt rfl ?_ | refine i_gf rfl ?_ | refine i_gd rfl ?_ | refine c_t rfl ?_ | refine c_f rfl ?_ | refine jc rfl ?_ | refine ja rfl rfl ?_ | refine jb rfl rfl ?_ | refine jg rfl rfl ?_ | refine jf rfl rfl ?_ | refine jd rfl rfl ?_ | refine je rfl rfl ?_ | refine jh rfl rfl ?_ | refine i_stb rfl ?_ | refine i_alloc rfl ?_ | refine i_box rfl rfl ?_ | refine i_nv rfl ?_ | refine sf rfl rfl hc ?_)
    clear hc
    refine c_cond rfl (fun h => ?_) (fun h => ?_)
    · have hne : opCode t.facts o ≠ 0 := by simpa using h
      rw [if_neg hne] at hb
      repeat' (first | refine i_len rfl ?_ | refine i_s rfl ?_ | refine i_lenm rfl rfl rfl ?_ | refine sw ?_ | refine i_s0 rfl ?_ | refine i_gt rfl ?_ | refine i_gf rfl ?_ | refine i_gd rfl ?_ | refine c_t rfl ?_ | refine c_f rfl ?_ | refine jc rfl ?_ | refine ja rfl rfl ?_ | refine jb rfl rfl ?_ | refine jg rfl rfl ?_ | refine jf rfl rfl ?_ | refine jd rfl rfl ?_ | refine je rfl rfl ?_ | refine jh rfl rfl ?_ | refine i_stb rfl ?_ | refine i_alloc rfl ?_ | refine i_box rfl rfl ?_ | refine i_nv rfl ?_ | (refine sp ?_ ?_ <;> try intro h) | fail)
      exact e_ret ⟨rfl, _, rfl, congr_ft (sF_hit hel hi hlt hb)⟩
    · have hne : opCode t.facts o = 0 := by simpa using h
      rw [if_pos hne] at hb
      repeat' (first | refine i_len rfl ?_ | refine i_s rfl ?_ | refine i_lenm rfl rfl rfl ?_ | refine sw ?_ | refine i_s0 rfl ?_ | refine i_gt rfl ?_ | refine i_gf rfl ?_ | refine i_gd rfl ?_ | refine c_t rfl ?_ | refine c_f rfl ?_ | refine jc rfl ?_ | refine ja rfl rfl ?_ | refine jb rfl rfl ?_ | refine jg rfl rfl ?_ | refine jf rfl rfl ?_ | refine jd rfl rfl ?_ | refine je rfl rfl ?_ | refine jh rfl rfl ?_ | refine i_stb rfl ?_ | refine i_alloc rfl ?_ | refine i_box rfl rfl ?_ | refine i_nv rfl ?_ | (refine sp ?_ ?_ <;> try intro h) | fail)
      exact e_for hlt (all_succ hi hb) ft
  · have hge : ¬ k < t.ops.length := by simpa using h
    repeat' (first | refine i_len rfl ?_ | refine i_s rfl ?_ | refine i_lenm rfl rfl rfl ?_ | refine sw ?_ | refine i_s0 rfl ?_ | refine i_gt rfl ?_ | refine i_gf rfl ?_ | refine i_gd rfl ?_ | refine c_t rfl ?_ | refine c_f rfl ?_ | refine jc rfl ?_ | refine ja rfl rfl ?_ | refine jb rfl rfl ?_ | refine jg rfl rfl ?_ | refine jf rfl rfl ?_ | refine jd rfl rfl ?_ | refine je rfl rfl ?_ | refine jh rfl rfl ?_ | refine i_stb rfl ?_ | refine i_alloc rfl ?_ | refine i_box rfl rfl ?_ | refine i_nv rfl ?_ | (refine sp ?_ ?_ <;> try intro h) | fail)
    exact e_ret ⟨rfl, _, rfl, congr_ft (sF_none hel fun j hj => hi j (by omega))⟩
def c_strips_Steps : Cmd :=
 (qS [qq 4 (.alloc 3520258 (.agg [.int .i64 0, .int .i64 0]))]
 (qT (qS [qm 7 1, qn 8 7, qv 9 .gtr [] 8 60]
 (.cond (.t 9) (.seq (.ops [qq 10 (.build [.int .i64 0, .int .i64 0] [(0 , 1 , .c (.int .i64 2)), (1 , 1 , .c (.int .i64 (-5)))]), qs 2 4 10]) .ret) .skip))
 (qT (qS [qm 11 1, qn 12 11, qc 13 0]
 (.block 0 (.loop (qS [qu 14 .lss [] 13 12]
 (qT (.cond (.t 14) .skip (.exit 0))
 (qT (.block 1 (qS [qi 15 1 11 13, ql 16 1 15, qm 6 16]
 (qS [qm 17 6, qv 18 .lss [] 17 0, qm 19 18, qg 20 19 false (.mov (.t 6)), qg 21 19 false (.mov (.t 0)), qg 22 19 false (.bin .geq false [] (.t 20) (.t 21)), qq 23 (.pick (.t 19) (.c (.bool true)) (.t 22))]
 (.cond (.t 23) (.seq (.ops [qq 24 (.build [.int .i64 0, .int .i64 0] [(0 , 1 , .c (.int .i64 3)), (1 , 1 , .c (.int .i64 (-6)))]), qs 2 4 24]) .ret) .skip))))
 (.ops [qv 25 .add [] 13 1, qm 13 25])))))))
 (.seq (.ops [qq 26 (.build [.int .i64 0, .int .i64 0] []), qs 2 4 26]) .ret))))
def r_strips_Steps : List RVar := [.cell true 2 4]
def n_strips_Steps : Nat := 27
theorem k_strips_Steps : chkFn Go.Proofs.Tryz.prog 55 n_strips_Steps r_strips_Steps c_strips_Steps = true := by kernel_rfl
theorem f_strips_Steps (n : Nat) (plan : List Int) (hl : plan.length ≤ 140737488355328) : Fc Go.Proofs.Tryz.prog 55 [.int .i64 n, .sl .p (plan.map i64V)] (ftV (stepsF n plan)) := by
  refine Fn.step mixed k_strips_Steps ?_
  repeat' (first | refine i_len rfl ?_ | refine i_s rfl ?_ | refine i_lenm rfl rfl rfl ?_ | refine sw ?_ | refine i_s0 rfl ?_ | refine i_gt rfl ?_ | refine i_gf rfl ?_ | refine i_gd rfl ?_ | refine c_t rfl ?_ | refine c_f rfl ?_ | refine jc rfl ?_ | refine ja rfl rfl ?_ | refine jb rfl rfl ?_ | refine jg rfl rfl ?_ | refine jf rfl rfl ?_ | refine jd rfl rfl ?_ | refine je rfl rfl ?_ | refine jh rfl rfl ?_ | refine i_stb rfl ?_ | refine i_alloc rfl ?_ | refine i_box rfl rfl ?_ | refine i_nv rfl ?_ | (refine sp ?_ ?_ <;> try intro h) | fail)
  · exact e_ret ⟨rfl, _, rfl, congr_ft (by rw [stepsF, if_pos (by grind)])⟩
  have h60 : ¬ plan.length > 60 := by grind
  clear h
  refine c_for plan.length (fun k => [(0, .int .i64 n), (4, .bptr 3520258 0), (11, .sl .p (plan.map i64V)), (12, .int .i64 plan.length), (13, .int .i64 k)]) (fun _ => [(3520258, .box (ftV okF))]) (fun k => (plan.take k).any (badStep n) = false) (by simp) ft fun k hk hi => ?_
  repeat (first | refine i_len rfl ?_ | refine i_s rfl ?_ | refine i_lenm rfl rfl rfl ?_ | refine sw ?_ | refine i_s0 rfl ?_ | refine i_gt rfl ?_ | refine i_gf rfl ?_ | refine i_gd rfl ?_ | refine c_t rfl ?_ | refine c_f rfl ?_ | refine jc rfl ?_ | refine ja rfl rfl ?_ | refine jb rfl rfl ?_ | refine jg rfl rfl ?_ | refine jf rfl rfl ?_ | refine jd rfl rfl ?_ | refine je rfl rfl ?_ | refine jh rfl rfl ?_ | refine i_stb rfl ?_ | refine i_alloc rfl ?_ | refine i_box rfl rfl ?_ | refine i_nv rfl ?_)
  refine c_cond rfl (fun h => ?_) (fun h => ?_)
  · have hlt : k < plan.length := by simpa using h
    obtain ⟨x, hx⟩ := get_some hlt
    clear h
    repeat' (first | refine i_len rfl ?_ | refine i_s rfl ?_ | refine i_lenm rfl rfl rfl ?_ | refine sw ?_ | refine i_s0 rfl ?_ | refine i_gt rfl ?_ | refine i_gf rfl ?_ | refine i_gd rfl ?_ | refine c_t rfl ?_ | refine c_f rfl ?_ | refine jc rfl ?_ | refine ja rfl rfl ?_ | refine jb rfl rfl ?_ | refine jg rfl rfl ?_ | refine jf rfl rfl ?_ | refine jd rfl rfl ?_ | refine je rfl rfl ?_ | refine jh rfl rfl ?_ | refine i_stb rfl ?_ | refine i_alloc rfl ?_ | refine i_box rfl rfl ?_ | refine i_nv rfl ?_ | (refine sp ?_ ?_ <;> try intro h) | fail)
    all_goals first
      | refine e_for hlt ?_ ft
        rw [take_succ_get hx, List.any_append, hi]
        simp only [List.any_cons, List.any_nil, Bool.or_false, Bool.false_or]
        unfold badStep; clear hi; grind
      | refine e_ret ⟨rfl, _, rfl, congr_ft ?_⟩
        rw [stepsF, if_neg h60, if_pos]
        exact List.any_eq_true.2 ⟨x, mem_get hx, by unfold badStep; clear hi; grind⟩
  · have hge : ¬ k < plan.length := by simpa using h
    rw [List.take_of_length_le (by omega)] at hi
    repeat' (first | refine i_len rfl ?_ | refine i_s rfl ?_ | refine i_lenm rfl rfl rfl ?_ | refine sw ?_ | refine i_s0 rfl ?_ | refine i_gt rfl ?_ | refine i_gf rfl ?_ | refine i_gd rfl ?_ | refine c_t rfl ?_ | refine c_f rfl ?_ | refine jc rfl ?_ | refine ja rfl rfl ?_ | refine jb rfl rfl ?_ | refine jg rfl rfl ?_ | refine jf rfl rfl ?_ | refine jd rfl rfl ?_ | refine je rfl rfl ?_ | refine jh rfl rfl ?_ | refine i_stb rfl ?_ | refine i_alloc rfl ?_ | refine i_box rfl rfl ?_ | refine i_nv rfl ?_ | (refine sp ?_ ?_ <;> try intro h) | fail)
    exact e_ret ⟨rfl, _, rfl, congr_ft (by rw [stepsF, if_neg h60, hi, if_neg (by simp)]; rfl)⟩
def plFault (t : STask) (plan : List Int) : Flt := if sFault t = okF then stepsF t.ops.length plan else sFault t
theorem plFault_ok {t : STask} {plan : List Int} (h : plFault t plan = okF) : SV t ∧ plan.length ≤ 60 ∧ (∀ x ∈ plan, 0 ≤ x ∧ x < t.ops.length) ∧ sFault t = okF := by
  unfold plFault at h
  split at h
  · rename_i h1
    obtain ⟨h2, h3⟩ := stepsF_ok h
    exact ⟨sFault_ok h1, h2, h3, h1⟩
  · rename_i h1; exact absurd h h1
theorem plFault_iff (t : STask) (plan : List Int) : (plFault t plan).code = 0 ↔ plFault t plan = okF := by
  unfold plFault
  split
  · exact stepsF_iff _ _
  · exact sFault_iff t
def c_strips_PlanFault : Cmd :=
 (qS [qx 2 3648132 4 0, qq 4 (.alloc 3648258 (.agg [.int .i64 0, .int .i64 0]))]
 (qT (qS [qL 6 4 2, qk 7 18 [6], qq 5 (.alloc 3648322 (.agg [.int .i64 0, .int .i64 0])), qs 2 5 7]
 (qS [qL 8 2 5, qq 9 (.build [.int .i64 0, .int .i64 0] []), qq 10 (.bin .neq true [.i, .i] (.t 8) (.t 9))]
 (.cond (.t 10) (.seq (.ops [qL 11 2 5, qs 2 4 11]) .ret) .skip)))
 (.seq (.ops [qf 12 3 2, ql 13 1 12, qn 14 13, qm 15 1, qk 16 55 [14, 15], qs 2 4 16]) .ret)))
def r_strips_PlanFault : List RVar := [.cell true 2 4]
def n_strips_PlanFault : Nat := 17
theorem k_strips_PlanFault : chkFn Go.Proofs.Tryz.prog 57 n_strips_PlanFault r_strips_PlanFault c_strips_PlanFault = true := by kernel_rfl
theorem f_strips_PlanFault (t : STask) (ho : SkOk t) (plan : List Int) (hl : plan.length ≤ 140737488355328) : Fc Go.Proofs.Tryz.prog 57 [skV t, .sl .p (plan.map i64V)] (ftV (plFault t plan)) := by
  have l5 := ho.o
  refine Fn.step mixed k_strips_PlanFault ?_
  repeat' (first | refine i_len rfl ?_ | refine i_s rfl ?_ | refine i_lenm rfl rfl rfl ?_ | refine sw ?_ | refine i_s0 rfl ?_ | refine i_gt rfl ?_ | refine i_gf rfl ?_ | refine i_gd rfl ?_ | refine c_t rfl ?_ | refine c_f rfl ?_ | refine jc rfl ?_ | refine ja rfl rfl ?_ | refine jb rfl rfl ?_ | refine jg rfl rfl ?_ | refine jf rfl rfl ?_ | refine jd rfl rfl ?_ | refine je rfl rfl ?_ | refine jh rfl rfl ?_ | refine i_stb rfl ?_ | refine i_alloc rfl ?_ | refine i_box rfl rfl ?_ | refine i_nv rfl ?_ | (refine sp ?_ ?_ <;> try intro h) | refine sf rfl rfl (f_strips_Validate t ho) ?_ | refine sf rfl rfl (f_strips_Steps t.ops.length plan hl) ?_ | fail)
  · exact e_ret ⟨rfl, _, rfl, congr_ft (by rw [plFault, if_neg (ne_ok h)])⟩
  · exact e_ret ⟨rfl, _, rfl, congr_ft (by rw [plFault, if_pos (eq_ok h)])⟩
def c_strips_Contains : Cmd :=
 (qS [qb 4 false]
 (qS [qc 5 0]
 (qT (qS [qm 8 1, qn 9 8, qc 10 0]
 (.block 0 (.loop (qS [qu 11 .lss [] 10 9]
 (qT (.cond (.t 11) .skip (.exit 0))
 (qT (.block 1 (qS [qi 12 1 8 10, ql 13 1 12, qm 7 13]
 (qT (.block 2 (.loop (qT (qS [qm 14 5, qm 15 0, qn 16 15, qu 17 .lss [] 14 16, qm 18 17, qg 19 18 true (.mov (.t 0)), qg 20 18 true (.mov (.t 5)), qg 21 18 true (.iaddr 1 (.t 19) (.t 20)), qg 22 18 true (.load false 1 (.t 21)), qg 23 18 true (.mov (.t 7)), qg 24 18 true (.bin .lss false [] (.t 22) (.t 23)), qq 25 (.pick (.t 18) (.t 24) (.c (.bool false)))]
 (.cond (.t 25) .skip (.exit 2)))
 (.block 3 (.ops [qm 26 5, qv 27 .add [] 26 1, qm 5 27])))))
 (qS [qm 28 5, qm 29 0, qn 30 29, qu 31 .eql [.i] 28 30, qm 32 31, qg 33 32 false (.mov (.t 0)), qg 34 32 false (.mov (.t 5)), qg 35 32 false (.iaddr 1 (.t 33) (.t 34)), qg 36 32 false (.load false 1 (.t 35)), qg 37 32 false (.mov (.t 7)), qg 38 32 false (.bin .neq false [.i] (.t 36) (.t 37)), qq 39 (.pick (.t 32) (.c (.bool true)) (.t 38))]
 (.cond (.t 39) (.seq (.ops [qb 4 false]) .ret) .skip)))))
 (.ops [qv 40 .add [] 10 1, qm 10 40])))))))
 (.seq (.ops [qb 4 true]) .ret))))
def r_strips_Contains : List RVar := [.tmp 4]
def n_strips_Contains : Nat := 41
theorem k_strips_Contains : chkFn Go.Proofs.Tryz.prog 102 n_strips_Contains r_strips_Contains c_strips_Contains = true := by kernel_rfl
theorem f_strips_Contains (s part : List Int) (hl : s.length ≤ 140737488355328) (hl2 : part.length ≤ 140737488355328) (hs : SS s) (hp : SS part) : Fc Go.Proofs.Tryz.prog 102 [.sl .p (s.map i64V), .sl .p (part.map i64V)] (.bool (inclB part s)) := by
  refine Fn.step mixed k_strips_Contains ?_
  repeat' (first | refine i_len rfl ?_ | refine i_s rfl ?_ | refine i_lenm rfl rfl rfl ?_ | refine sw ?_ | refine i_s0 rfl ?_ | refine i_gt rfl ?_ | refine i_gf rfl ?_ | refine i_gd rfl ?_ | refine c_t rfl ?_ | refine c_f rfl ?_ | refine jc rfl ?_ | refine ja rfl rfl ?_ | refine jb rfl rfl ?_ | refine jg rfl rfl ?_ | refine jf rfl rfl ?_ | refine jd rfl rfl ?_ | refine je rfl rfl ?_ | refine jh rfl rfl ?_ | refine i_stb rfl ?_ | refine i_alloc rfl ?_ | refine i_box rfl rfl ?_ | refine i_nv rfl ?_ | (refine sp ?_ ?_ <;> try intro h) | fail)
  refine c_lp (ι := Nat × Nat) (fun p => [(0, .sl .p (s.map i64V)), (5, .int .i64 p.2), (8, .sl .p (part.map i64V)), (9, .int .i64 part.length), (10, .int .i64 p.1)]) (fun _ => [])
    (fun p => p.1 ≤ part.length ∧ p.2 ≤ s.length ∧ (∀ j, j < p.1 → ∀ y, part[j]? = some y → y ∈ s) ∧ (∀ j x, j < p.2 → s[j]? = some x → ∀ k' y, p.1 ≤ k' → part[k']? = some y → x < y)) (fun p => part.length - p.1) (0, 0) ⟨Nat.zero_le _, Nat.zero_le _, all_zero, fun j x h => by omega⟩ ft fun p hi => ?_
  obtain ⟨k, i⟩ := p
  obtain ⟨h1, h2, h3, h4⟩ := hi
  simp only at h1 h2 h3 h4
  repeat (first | refine i_len rfl ?_ | refine i_s rfl ?_ | refine i_lenm rfl rfl rfl ?_ | refine sw ?_ | refine i_s0 rfl ?_ | refine i_gt rfl ?_ | refine i_gf rfl ?_ | refine i_gd rfl ?_ | refine c_t rfl ?_ | refine c_f rfl ?_ | refine jc rfl ?_ | refine ja rfl rfl ?_ | refine jb rfl rfl ?_ | refine jg rfl rfl ?_ | refine jf rfl rfl ?_ | refine jd rfl rfl ?_ | refine je rfl rfl ?_ | refine jh rfl rfl ?_ | refine i_stb rfl ?_ | refine i_alloc rfl ?_ | refine i_box rfl rfl ?_ | refine i_nv rfl ?_)
  refine c_cond rfl (fun h => ?_) (fun h => ?_)
  · have hlt : k < part.length := by simpa using h
    obtain ⟨y, hy⟩ := get_some hlt
    clear h
    repeat (first | refine i_len rfl ?_ | refine i_s rfl ?_ | refine i_lenm rfl rfl rfl ?_ | refine sw ?_ | refine i_s0 rfl ?_ | refine i_gt rfl ?_ | refine i_gf rfl ?_ | refine i_gd rfl ?_ | refine c_t rfl ?_ | refine c_f rfl ?_ | refine jc rfl ?_ | refine ja rfl rfl ?_ | refine jb rfl rfl ?_ | refine jg rfl rfl ?_ | refine jf rfl rfl ?_ | refine jd rfl rfl ?_ | refine je rfl rfl ?_ | refine jh rfl rfl ?_ | refine i_stb rfl ?_ | refine i_alloc rfl ?_ | refine i_box rfl rfl ?_ | refine i_nv rfl ?_)
    refine c_lp (ι := Nat) (fun i => [(0, .sl .p (s.map i64V)), (5, .int .i64 i), (7, .int .i64 y), (8, .sl .p (part.map i64V)), (9, .int .i64 part.length), (10, .int .i64 k)]) (fun _ => [])
      (fun i => i ≤ s.length ∧ (∀ j x, j < i → s[j]? = some x → ∀ k' y, k ≤ k' → part[k']? = some y → x < y)) (fun i => s.length - i) i ⟨h2, h4⟩ ft fun i hi => ?_
    clear h2 h4
    obtain ⟨h2, h4⟩ := hi
    by_cases hil : i < s.length
    · obtain ⟨x, hx⟩ := get_some hil
      have hil' : (i : Int) < s.length := by omega
      by_cases hxy : x < y
      · repeat' (first | refine i_len rfl ?_ | refine i_s rfl ?_ | refine i_lenm rfl rfl rfl ?_ | refine sw ?_ | refine i_s0 rfl ?_ | refine i_gt rfl ?_ | refine i_gf rfl ?_ | refine i_gd rfl ?_ | refine c_t rfl ?_ | refine c_f rfl ?_ | refine jc rfl ?_ | refine ja rfl rfl ?_ | refine jb rfl rfl ?_ | refine jg rfl rfl ?_ | refine jf rfl rfl ?_ | refine jd rfl rfl ?_ | refine je rfl rfl ?_ | refine jh rfl rfl ?_ | refine i_stb rfl ?_ | refine i_alloc rfl ?_ | refine i_box rfl rfl ?_ | refine i_nv rfl ?_ | (refine sp ?_ ?_ <;> try intro h) | fail)
        all_goals first
          | (refine e_lp (i + 1) ⟨by omega, fun j x' hj hx' k' y' hk' hy' => ?_⟩ (by omega) ft
             by_cases e : j = i
             · subst e
               rw [hx] at hx'; cases hx'
               by_cases e2 : k' = k
               · subst e2; rw [hy] at hy'; cases hy'; exact hxy
               · have := ss_idx hp hy hy' (by omega); omega
             · exact h4 j x' (by omega) hx' k' y' hk' hy')
          | (exfalso; clear h3 h4 hs hp; simp at *; omega)
      · by_cases e : x = y
        · subst e
          repeat' (first | refine i_len rfl ?_ | refine i_s rfl ?_ | refine i_lenm rfl rfl rfl ?_ | refine sw ?_ | refine i_s0 rfl ?_ | refine i_gt rfl ?_ | refine i_gf rfl ?_ | refine i_gd rfl ?_ | refine c_t rfl ?_ | refine c_f rfl ?_ | refine jc rfl ?_ | refine ja rfl rfl ?_ | refine jb rfl rfl ?_ | refine jg rfl rfl ?_ | refine jf rfl rfl ?_ | refine jd rfl rfl ?_ | refine je rfl rfl ?_ | refine jh rfl rfl ?_ | refine i_stb rfl ?_ | refine i_alloc rfl ?_ | refine i_box rfl rfl ?_ | refine i_nv rfl ?_ | (refine sp ?_ ?_ <;> try intro h) | fail)
          all_goals first
            | (refine e_lp (k + 1, i) ⟨by simp only; omega, h2, ?_, fun j x' hj hx' k' y' hk' hy' => h4 j x' hj hx' k' y' (by simp only at hk'; omega) hy'⟩ (by simp only; omega) ft
               intro j hj y' hy'
               by_cases e2 : j = k
               · subst e2; rw [hy] at hy'; cases hy'; exact mem_get hx
               · exact h3 j (by simp only at hj; omega) y' hy')
            | (exfalso; clear h3 h4 hs hp; simp at *; omega)
            | (exfalso; clear h3 h4 hs hp; simp at *; done)
        · have hnm : y ∉ s := fun hm => by
            obtain ⟨j, hj, e2⟩ := List.getElem_of_mem hm
            have hg : s[j]? = some y := by rw [← e2]; exact List.getElem?_eq_getElem hj
            by_cases c : j < i
            · have := h4 j y c hg k y (Nat.le_refl _) hy; omega
            · by_cases c2 : j = i
              · subst c2; rw [hx] at hg; cases hg; exact e rfl
              · have := ss_idx hs hx hg (by omega); omega
          repeat' (first | refine i_len rfl ?_ | refine i_s rfl ?_ | refine i_lenm rfl rfl rfl ?_ | refine sw ?_ | refine i_s0 rfl ?_ | refine i_gt rfl ?_ | refine i_gf rfl ?_ | refine i_gd rfl ?_ | refine c_t rfl ?_ | refine c_f rfl ?_ | refine jc rfl ?_ | refine ja rfl rfl ?_ | refine jb rfl rfl ?_ | refine jg rfl rfl ?_ | refine jf rfl rfl ?_ | refine jd rfl rfl ?_ | refine je rfl rfl ?_ | refine jh rfl rfl ?_ | refine i_stb rfl ?_ | refine i_alloc rfl ?_ | refine i_box rfl rfl ?_ | refine i_nv rfl ?_ | (refine sp ?_ ?_ <;> try intro h) | fail)
          all_goals first
            | (refine e_ret ⟨rfl, _, rfl, congrArg V.bool ?_⟩
               unfold inclB
               rw [List.all_eq_false]
               exact ⟨y, mem_get hy, by simpa using hnm⟩)
            | (exfalso; clear h3 h4 hs hp hnm; simp at *; omega)
            | (exfalso; clear h3 h4 hs hp hnm; simp at *; done)
    · have hnm : y ∉ s := fun hm => by
        obtain ⟨j, hj, e2⟩ := List.getElem_of_mem hm
        have hg : s[j]? = some y := by rw [← e2]; exact List.getElem?_eq_getElem hj
        have := h4 j y (by omega) hg k y (Nat.le_refl _) hy
        omega
      have hie : i = s.length := by omega
      repeat' (first | refine i_len rfl ?_ | refine i_s rfl ?_ | refine i_lenm rfl rfl rfl ?_ | refine sw ?_ | refine i_s0 rfl ?_ | refine i_gt rfl ?_ | refine i_gf rfl ?_ | refine i_gd rfl ?_ | refine c_t rfl ?_ | refine c_f rfl ?_ | refine jc rfl ?_ | refine ja rfl rfl ?_ | refine jb rfl rfl ?_ | refine jg rfl rfl ?_ | refine jf rfl rfl ?_ | refine jd rfl rfl ?_ | refine je rfl rfl ?_ | refine jh rfl rfl ?_ | refine i_stb rfl ?_ | refine i_alloc rfl ?_ | refine i_box rfl rfl ?_ | refine i_nv rfl ?_ | (refine sp ?_ ?_ <;> try intro h) | fail)
      all_goals first
        | (refine e_ret ⟨rfl, _, rfl, congrArg V.bool ?_⟩
           unfold inclB
           rw [List.all_eq_false]
           exact ⟨y, mem_get hy, by simpa using hnm⟩)
        | (exfalso; clear h3 h4 hs hp hnm; simp at *; omega)
        | (exfalso; clear h3 h4 hs hp hnm; simp at *; done)
  · have hge : ¬ k < part.length := by simpa using h
    repeat' (first | refine i_len rfl ?_ | refine i_s rfl ?_ | refine i_lenm rfl rfl rfl ?_ | refine sw ?_ | refine i_s0 rfl ?_ | refine i_gt rfl ?_ | refine i_gf rfl ?_ | refine i_gd rfl ?_ | refine c_t rfl ?_ | refine c_f rfl ?_ | refine jc rfl ?_ | refine ja rfl rfl ?_ | refine jb rfl rfl ?_ | refine jg rfl rfl ?_ | refine jf rfl rfl ?_ | refine jd rfl rfl ?_ | refine je rfl rfl ?_ | refine jh rfl rfl ?_ | refine i_stb rfl ?_ | refine i_alloc rfl ?_ | refine i_box rfl rfl ?_ | refine i_nv rfl ?_ | (refine sp ?_ ?_ <;> try intro h) | fail)
    refine e_ret ⟨rfl, _, rfl, congrArg V.bool ?_⟩
    unfold inclB
    rw [List.all_eq_true]
    intro y hy
    obtain ⟨j, hj, e⟩ := List.getElem_of_mem hy
    exact decide_eq_true (h3 j (by omega) y (by rw [← e]; exact List.getElem?_eq_getElem hj))
end Hm
end
