/- Part KPA of the proof. -/
import Derived.Test.YtojbakjdbodidaaKC
import Derived.Test.YtojbakjdbodidaaProg
import Derived.ProofKit
set_option linter.unusedVariables false
set_option linter.unusedSimpArgs false
section
namespace Hm
open Go
theorem mixed : Go.Proofs.Try.prog.follows .mixedOrders = true := by kernel_rfl
def allN (p : Nat → Bool) (n : Nat) : Bool := (List.range n).all p
theorem allN_bad {p : Nat → Bool} {n k : Nat} (hk : k < n) (h : p k = false) : allN p n = false := by
  unfold allN
  rw [List.all_eq_false]
  exact ⟨k, List.mem_range.2 hk, by simp [h]⟩
theorem allN_ok {p : Nat → Bool} {n : Nat} (h : ∀ j, j < n → p j = true) : allN p n = true := by
  unfold allN
  rw [List.all_eq_true]
  exact fun j hj => h j (List.mem_range.1 hj)
theorem allN_get {p : Nat → Bool} {n : Nat} (h : allN p n = true) {j : Nat} (hj : j < n) : p j = true := (List.all_eq_true.1 h) j (List.mem_range.2 hj)
def setAt (n : Int) (l : List Int) (i : Nat) : Bool := match l[i]? with
  | some x => decide (0 ≤ x) && decide (x < n) && (decide (i = 0) || (match l[i - 1]? with
    | some y => decide (y < x)
    | none => true))
  | none => false
def isSetB (n : Int) (l : List Int) : Bool := allN (setAt n l) l.length
def SS (l : List Int) : Prop := l.Pairwise (· < ·)
theorem ss_of_adj : ∀ l : List Int, (∀ i x y, l[i]? = some x → l[i + 1]? = some y → x < y) → SS l
  | [], _ => List.Pairwise.nil
  | [x], _ => List.pairwise_singleton _ _
  | x :: y :: r, h => by
    have ih : SS (y :: r) := ss_of_adj (y :: r) fun i a b h1 h2 => h (i + 1) a b h1 h2
    have hxy : x < y := h 0 x y rfl rfl
    refine List.Pairwise.cons (fun z hz => ?_) ih
    rcases List.mem_cons.1 hz with rfl | hz
    · exact hxy
    · exact Int.lt_trans hxy ((List.pairwise_cons.1 ih).1 z hz)
theorem ss_idx {l : List Int} (h : SS l) {i j : Nat} {x y : Int} (hi : l[i]? = some x) (hj : l[j]? = some y) (hij : i < j) : x < y := by
  obtain ⟨h1, e1⟩ := List.getElem?_eq_some_iff.1 hi
  obtain ⟨h2, e2⟩ := List.getElem?_eq_some_iff.1 hj
  have := List.pairwise_iff_getElem.1 h i j h1 h2 hij
  rw [e1, e2] at this
  exact this
structure IsSet (n : Int) (l : List Int) : Prop where
  ss : SS l
  rng : ∀ x ∈ l, 0 ≤ x ∧ x < n
theorem isSet_of {n : Int} {l : List Int} (h : isSetB n l = true) : IsSet n l := by
  refine ⟨ss_of_adj l fun i x y h1 h2 => ?_, fun x hx => ?_⟩
  · have := allN_get h (get_lt h2)
    unfold setAt at this
    rw [h2] at this
    simp only [Nat.add_sub_cancel, h1, Bool.and_eq_true, Bool.or_eq_true, decide_eq_true_eq] at this
    rcases this.2 with e | e
    · omega
    · exact e
  · obtain ⟨i, hi, e⟩ := List.getElem_of_mem hx
    have hg : l[i]? = some x := by rw [← e]; exact List.getElem?_eq_getElem hi
    have := allN_get h hi
    unfold setAt at this
    rw [hg] at this
    simp only [Bool.and_eq_true, decide_eq_true_eq] at this
    exact this.1
theorem isSet_to {n : Int} {l : List Int} (h : IsSet n l) : isSetB n l = true := by
  refine allN_ok fun i hi => ?_
  obtain ⟨x, hx⟩ := get_some hi
  obtain ⟨h0, h1⟩ := h.rng x (mem_get hx)
  unfold setAt
  rw [hx]
  simp only [Bool.and_eq_true, Bool.or_eq_true, decide_eq_true_eq]
  refine ⟨⟨h0, h1⟩, ?_⟩
  by_cases e : i = 0
  · exact .inl e
  · refine .inr ?_
    obtain ⟨y, hy⟩ := get_some (l := l) (k := i - 1) (by omega)
    rw [hy]
    simpa using ss_idx h.ss hy hx (by omega)
theorem ss_ext : ∀ {a b : List Int}, SS a → SS b → (∀ x, x ∈ a ↔ x ∈ b) → a = b
  | [], [], _, _, _ => rfl
  | [], y :: b, _, _, h => by have := (h y).2 (by simp); simp at this
  | x :: a, [], _, _, h => by have := (h x).1 (by simp); simp at this
  | x :: a, y :: b, ha, hb, h => by
    have ha' := List.pairwise_cons.1 ha
    have hb' := List.pairwise_cons.1 hb
    have e : x = y := by
      have h1 := (h x).1 (by simp)
      have h2 := (h y).2 (by simp)
      rcases List.mem_cons.1 h1 with e | h1
      · exact e
      · rcases List.mem_cons.1 h2 with e | h2
        · exact e.symm
        · have := ha'.1 y h2; have := hb'.1 x h1; omega
    subst e
    rw [ss_ext ha'.2 hb'.2 fun z => ?_]
    have := h z
    simp only [List.mem_cons] at this
    constructor
    · intro hz
      rcases this.1 (.inr hz) with e | q
      · have := ha'.1 z hz; omega
      · exact q
    · intro hz
      rcases this.2 (.inr hz) with e | q
      · have := hb'.1 z hz; omega
      · exact q
theorem ss_len : ∀ (l : List Int) (m n : Int), SS l → (∀ x ∈ l, m ≤ x ∧ x < n) → m ≤ n → (l.length : Int) ≤ n - m
  | [], m, n, _, _, h => by simp; omega
  | x :: l, m, n, hs, hr, h => by
    have hs' := List.pairwise_cons.1 hs
    have hx := hr x (by simp)
    have := ss_len l (x + 1) n hs'.2 (fun y hy => ⟨by have := hs'.1 y hy; omega, (hr y (by simp [hy])).2⟩) (by omega)
    simp only [List.length_cons]
    omega
theorem isSet_len {n : Int} {l : List Int} (h : IsSet n l) (hn : 0 ≤ n) : (l.length : Int) ≤ n := by
  have := ss_len l 0 n h.ss h.rng hn
  omega
def inclB (part l : List Int) : Bool := part.all fun x => decide (x ∈ l)
def disjB (a b : List Int) : Bool := a.all fun x => decide (x ∉ b)
def meetB (a b : List Int) : Bool := a.any fun x => decide (x ∈ b)
theorem meet_disj (a b : List Int) : meetB a b = !disjB a b := by
  unfold meetB disjB
  induction a with
  | nil => rfl
  | cons x a ih =>
    simp only [List.any_cons, List.all_cons, ih]
    by_cases h : x ∈ b <;> simp [h]
def sopBad (n : Int) (ops : List SOp) (i : Nat) : Option Flt := match ops[i]? with
  | none => none
  | some o => if isSetB n o.pre = false ∨ isSetB n o.add = false ∨ isSetB n o.del = false ∨ disjB o.add o.del = false then some ⟨5, i⟩ else if o.cost < 0 ∨ o.cost > 100 then some ⟨3, i⟩ else none
def sFault (t : STask) : Flt := if t.facts < 0 ∨ t.facts > 24 then ⟨3, -1⟩ else if isSetB t.facts t.init = false then ⟨5, -2⟩ else if isSetB t.facts t.goal = false then ⟨5, -3⟩
  else if t.ops.length > 40 then ⟨2, -1⟩ else (scan (sopBad t.facts t.ops) 0 t.ops.length).getD okF
structure SOv (n : Int) (o : SOp) : Prop where
  pre : IsSet n o.pre
  add : IsSet n o.add
  del : IsSet n o.del
  dis : ∀ x ∈ o.add, x ∉ o.del
  c0 : 0 ≤ o.cost
  c1 : o.cost ≤ 100
structure SV (t : STask) : Prop where
  f0 : 0 ≤ t.facts
  f1 : t.facts ≤ 24
  init : IsSet t.facts t.init
  goal : IsSet t.facts t.goal
  opl : t.ops.length ≤ 40
  op : ∀ o ∈ t.ops, SOv t.facts o
theorem scan_codeS {bad : Nat → Option Flt} (hb : ∀ i f, bad i = some f → f.code ≠ 0) : ∀ n i f, scan bad i n = some f → f.code ≠ 0
  | 0, _, _, h => by cases h
  | n + 1, i, f, h => by
    simp only [scan] at h
    split at h
    · rename_i g e; cases h; exact hb _ _ e
    · exact scan_codeS hb n (i + 1) f h
theorem getD_codeS {o : Option Flt} (hc : ∀ f, o = some f → f.code ≠ 0) (h : (o.getD okF).code = 0) : o = none := by
  cases o with
  | none => rfl
  | some f => exact absurd h (hc f rfl)
theorem sopBad_code (n : Int) (ops : List SOp) (i : Nat) : ∀ f, sopBad n ops i = some f → f.code ≠ 0 := by
  intro f h
  unfold sopBad at h
  split at h
  · cases h
  · repeat' split at h
    all_goals cases h
    all_goals simp
theorem sFault_code (t : STask) : (sFault t).code = 0 → SV t ∧ sFault t = okF := by
  intro h
  have h0 := h
  unfold sFault at h
  split at h
  · cases h
  · rename_i h1
    split at h
    · cases h
    · rename_i h2
      split at h
      · cases h
      · rename_i h3
        split at h
        · cases h
        · rename_i h4
          have hs := getD_codeS (scan_codeS (sopBad_code t.facts t.ops) _ _) h
          refine ⟨⟨by omega, by omega, isSet_of (by simpa using h2), isSet_of (by simpa using h3), by omega, fun o ho => ?_⟩, ?_⟩
          · obtain ⟨i, hi, e⟩ := List.getElem_of_mem ho
            have hg : t.ops[i]? = some o := by rw [← e]; exact List.getElem?_eq_getElem hi
            have := scan_all _ _ hs i (Nat.zero_le _) (by omega)
            unfold sopBad at this
            rw [hg] at this
            simp only at this
            split at this
            · cases this
            · rename_i q1
              split at this
              · cases this
              · rename_i q2
                simp only [not_or, Bool.not_eq_false] at q1
                refine ⟨isSet_of q1.1, isSet_of q1.2.1, isSet_of q1.2.2.1, fun x hx => ?_, by omega, by omega⟩
                have := List.all_eq_true.1 q1.2.2.2 x hx
                simpa using this
          · unfold sFault
            rw [if_neg h1, if_neg h2, if_neg h3, if_neg h4, hs]
            rfl
theorem sFault_ok {t : STask} (h : sFault t = okF) : SV t := (sFault_code t (by rw [h]; rfl)).1
theorem sFault_iff (t : STask) : (sFault t).code = 0 ↔ sFault t = okF := ⟨fun h => (sFault_code t h).2, fun h => by rw [h]; rfl⟩
theorem sFault_of {t : STask} (h : SV t) : sFault t = okF := by
  unfold sFault
  rw [if_neg (by have := h.f0; have := h.f1; omega), if_neg (by simp [isSet_to h.init]), if_neg (by simp [isSet_to h.goal]), if_neg (by have := h.opl; omega), scan0_none fun j hj => ?_]
  · rfl
  · obtain ⟨o, ho⟩ := get_some hj
    have hv := h.op o (mem_get ho)
    unfold sopBad
    rw [ho]
    simp only [isSet_to hv.pre, isSet_to hv.add, isSet_to hv.del]
    rw [if_neg, if_neg (by have := hv.c0; have := hv.c1; omega)]
    simp only [Bool.true_eq_false, false_or, Bool.not_eq_false]
    exact List.all_eq_true.2 fun x hx => by simpa using hv.dis x hx
def keepAt (l : List Int) (i : Nat) : Option Int := match l[i]? with
  | some x => if i = 0 ∨ l[i - 1]? ≠ some x then some x else none
  | none => none
def ddK (l : List Int) (k : Nat) : List Int := (List.range k).filterMap (keepAt l)
theorem ddK_succ (l : List Int) (k : Nat) : ddK l (k + 1) = ddK l k ++ (keepAt l k).toList := by
  unfold ddK
  rw [List.range_succ, List.filterMap_append]
  congr 1
def compL (l : List Int) : List Int := ddK l l.length
theorem ddK_len (l : List Int) (k : Nat) : (ddK l k).length ≤ k := by
  have := List.length_filterMap_le (keepAt l) (List.range k)
  simpa [ddK] using this
theorem ddK_keep {l : List Int} {k : Nat} {x : Int} (hx : l[k]? = some x) (h : k = 0 ∨ l[k - 1]? ≠ some x) : ddK l (k + 1) = ddK l k ++ [x] := by
  rw [ddK_succ, keepAt, hx]; simp only [if_pos h, Option.toList]
theorem ddK_skip {l : List Int} {k : Nat} {x : Int} (hx : l[k]? = some x) (h0 : k ≠ 0) (h : l[k - 1]? = some x) : ddK l (k + 1) = ddK l k := by
  rw [ddK_succ, keepAt, hx]; simp [h0, h]
theorem ddK_all {l : List Int} : ∀ k, k ≤ l.length → (∀ j, 0 < j → j < k → l[j]? ≠ l[j - 1]?) → ddK l k = l.take k
  | 0, _, _ => by simp [ddK]
  | k + 1, h, hn => by
    obtain ⟨x, hx⟩ := get_some (l := l) (k := k) (by omega)
    rw [ddK_keep hx, ddK_all k (by omega) fun j h1 h2 => hn j h1 (by omega), take_succ_get hx]
    by_cases e : k = 0
    · exact .inl e
    · refine .inr fun e2 => hn k (by omega) (by omega) ?_
      rw [hx, e2]
theorem ddK_mem {l : List Int} {x : Int} : ∀ k, k ≤ l.length → (x ∈ ddK l k ↔ x ∈ l.take k)
  | 0, _ => by simp [ddK]
  | k + 1, h => by
    obtain ⟨y, hy⟩ := get_some (l := l) (k := k) (by omega)
    have ih := ddK_mem (l := l) (x := x) k (by omega)
    rw [take_succ_get hy]
    by_cases c : k = 0 ∨ l[k - 1]? ≠ some y
    · rw [ddK_keep hy c]; simp [ih]
    · simp only [not_or, Decidable.not_not] at c
      rw [ddK_skip hy c.1 c.2]
      simp only [List.mem_append, List.mem_singleton, ih]
      constructor
      · exact .inl
      · rintro (e | rfl)
        · exact e
        · obtain ⟨h1, h2⟩ := List.getElem?_eq_some_iff.1 c.2
          exact List.mem_take_iff_getElem.2 ⟨k - 1, by omega, h2⟩
theorem compL_mem {l : List Int} {x : Int} : x ∈ compL l ↔ x ∈ l := by
  unfold compL
  rw [ddK_mem l.length (Nat.le_refl _), List.take_length]
theorem ddK_ss {l : List Int} (hs : l.Pairwise (· ≤ ·)) : ∀ k, k ≤ l.length → SS (ddK l k)
  | 0, _ => by simp [ddK, SS]
  | k + 1, h => by
    obtain ⟨y, hy⟩ := get_some (l := l) (k := k) (by omega)
    have ih := ddK_ss (l := l) hs k (by omega)
    by_cases c : k = 0 ∨ l[k - 1]? ≠ some y
    · rw [ddK_keep hy c]
      refine List.pairwise_append.2 ⟨ih, List.pairwise_singleton _ _, fun a ha b hb => ?_⟩
      simp at hb
      subst hb
      have ha' := (ddK_mem k (by omega)).1 ha
      obtain ⟨i, hi, e⟩ := List.mem_take_iff_getElem.1 ha'
      obtain ⟨h1, e1⟩ := List.getElem?_eq_some_iff.1 hy
      have h2 : a ≤ b := by
        have := List.pairwise_iff_getElem.1 hs i k (by omega) h1 (by omega)
        rw [e, e1] at this; exact this
      rcases c with c | c
      · omega
      · have h3 : l[k - 1]? = some l[k - 1] := List.getElem?_eq_getElem (by omega)
        have h4 : l[k - 1] ≤ b := by
          by_cases hk : k = 0
          · omega
          · have := List.pairwise_iff_getElem.1 hs (k - 1) k (by omega) h1 (by omega)
            rw [e1] at this; exact this
        have h5 : l[k - 1] ≠ b := fun e => c (by rw [h3, e])
        have h6 : a ≤ l[k - 1] := by
          by_cases hik : i = k - 1
          · subst hik; omega
          · have := List.pairwise_iff_getElem.1 hs i (k - 1) (by omega) (by omega) (by omega)
            rw [e] at this; exact this
        omega
    · simp only [not_or, Decidable.not_not] at c
      rw [ddK_skip hy c.1 c.2]; exact ih
def srtL (l : List Int) : List Int := l.mergeSort fun x y => decide (x ≤ y)
theorem srtL_mem {l : List Int} {x : Int} : x ∈ srtL l ↔ x ∈ l := (List.mergeSort_perm l _).mem_iff
theorem srtL_len (l : List Int) : (srtL l).length = l.length := (List.mergeSort_perm l _).length_eq
theorem srtL_pw (l : List Int) : (srtL l).Pairwise (· ≤ ·) := by
  have := List.pairwise_mergeSort (le := fun x y : Int => decide (x ≤ y)) (fun a b c h1 h2 => by simp at *; omega) (fun a b => by simp; omega) l
  exact List.Pairwise.imp (fun h => by simpa using h) this
def updL (s add del : List Int) : List Int := compL (srtL (s.filter (fun x => decide (x ∉ del)) ++ add))
theorem updL_mem {s add del : List Int} {x : Int} : x ∈ updL s add del ↔ (x ∈ s ∧ x ∉ del) ∨ x ∈ add := by
  unfold updL
  rw [compL_mem, srtL_mem]; simp
theorem updL_ss (s add del : List Int) : SS (updL s add del) := ddK_ss (srtL_pw _) _ (Nat.le_refl _)
theorem updL_set {n : Int} {s add del : List Int} (hs : IsSet n s) (ha : IsSet n add) : IsSet n (updL s add del) :=
  ⟨updL_ss _ _ _, fun x hx => by
    rcases updL_mem.1 hx with h | h
    · exact hs.rng x h.1
    · exact ha.rng x h⟩
def badStep (n : Nat) (x : Int) : Bool := decide (x < 0) || decide (x ≥ n)
def stepsF (n : Nat) (plan : List Int) : Flt := if plan.length > 60 then ⟨2, -5⟩ else if plan.any (badStep n) = true then ⟨3, -6⟩ else okF
theorem stepsF_ok {n : Nat} {plan : List Int} (h : stepsF n plan = okF) : plan.length ≤ 60 ∧ ∀ x ∈ plan, 0 ≤ x ∧ x < n := by
  unfold stepsF at h
  split at h
  · cases h
  · split at h
    · cases h
    · rename_i h1 h2
      refine ⟨by omega, fun x hx => ?_⟩
      rw [Bool.not_eq_true, List.any_eq_false] at h2
      have := h2 x hx
      simp [badStep] at this
      omega
theorem stepsF_iff (n : Nat) (plan : List Int) : (stepsF n plan).code = 0 ↔ stepsF n plan = okF := by
  refine ⟨fun h => ?_, fun h => by rw [h]; rfl⟩
  unfold stepsF at h ⊢
  repeat' split at h
  all_goals first | (rename_i h1 h2; rw [if_neg h1, if_neg h2]; done) | cases h
abbrev W32 := BitVec 32
def u32V (w : W32) : V := .int .u32 w.toNat
def bit (p : Int) : W32 := BitVec.ofNat 32 (2 ^ (min p.toNat 32))
def wordG (a : W32) : List Int → W32
  | [] => a
  | p :: r => wordG (a ||| bit p) r
def word (s : List Int) : W32 := wordG 0 s
theorem wordG_snoc (a : W32) : ∀ (l : List Int) (p : Int), wordG a (l ++ [p]) = wordG a l ||| bit p
  | [], p => rfl
  | x :: l, p => wordG_snoc (a ||| bit x) l p
theorem wordG_bit (a : W32) (q : Nat) (hq : q < 32) : ∀ s : List Int, (∀ p ∈ s, 0 ≤ p ∧ p < 32) → (wordG a s).getLsbD q = (a.getLsbD q || decide ((q : Int) ∈ s))
  | [], _ => by simp [wordG]
  | p :: r, h => by
    have hp := h p (by simp)
    rw [wordG, wordG_bit _ q hq r fun x hx => h x (by simp [hx])]
    have hb : (bit p).getLsbD q = decide ((q : Int) = p) := by
      unfold bit
      have e : min p.toNat 32 = p.toNat := by omega
      rw [e, BitVec.getLsbD_ofNat, Nat.testBit_two_pow]
      simp only [hq, decide_true, Bool.true_and]
      by_cases c : (q : Int) = p
      · have : p.toNat = q := by omega
        simp [this, c]
      · have : ¬ p.toNat = q := by omega
        simp [this, c]
    simp only [BitVec.getLsbD_or, hb, List.mem_cons, Bool.decide_or, Bool.or_assoc]
theorem word_bit (q : Nat) (hq : q < 32) (s : List Int) (h : ∀ p ∈ s, 0 ≤ p ∧ p < 32) : (word s).getLsbD q = decide ((q : Int) ∈ s) := by
  unfold word
  rw [wordG_bit 0 q hq s h]
  simp
def factsTo (w : W32) : Nat → List Int
  | 0 => []
  | n + 1 => factsTo w n ++ (if w.getLsbD n = true then [(n : Int)] else [])
def facts (w : W32) : List Int := factsTo w 32
theorem mem_factsTo (w : W32) : ∀ (n : Nat) (x : Int), x ∈ factsTo w n ↔ ∃ q : Nat, x = q ∧ q < n ∧ w.getLsbD q = true
  | 0, x => by simp [factsTo]
  | n + 1, x => by
    rw [factsTo, List.mem_append, mem_factsTo w n x]
    constructor
    · rintro (⟨q, h1, h2, h3⟩ | h)
      · exact ⟨q, h1, by omega, h3⟩
      · split at h
        · rename_i h3
          exact ⟨n, by simpa using h, by omega, h3⟩
        · simp at h
    · rintro ⟨q, h1, h2, h3⟩
      by_cases e : q = n
      · subst e
        right
        rw [if_pos h3]
        simp [h1]
      · exact .inl ⟨q, h1, by omega, h3⟩
theorem factsTo_lt (w : W32) (n : Nat) {x : Int} (h : x ∈ factsTo w n) : 0 ≤ x ∧ x < n := by
  obtain ⟨q, rfl, h2, _⟩ := (mem_factsTo w n x).1 h
  omega
theorem factsTo_ss (w : W32) : ∀ n, SS (factsTo w n)
  | 0 => List.Pairwise.nil
  | n + 1 => by
    rw [factsTo]
    refine List.pairwise_append.2 ⟨factsTo_ss w n, by split <;> simp, fun a ha b hb => ?_⟩
    split at hb
    · simp at hb; subst hb; exact (factsTo_lt w n ha).2
    · simp at hb
theorem word_facts (w : W32) : word (facts w) = w := by
  refine BitVec.eq_of_getLsbD_eq fun q hq => ?_
  rw [word_bit q hq (facts w) fun p hp => by have := factsTo_lt w 32 hp; omega]
  cases h : w.getLsbD q with
  | true => exact decide_eq_true ((mem_factsTo w 32 q).2 ⟨q, rfl, hq, h⟩)
  | false =>
    refine decide_eq_false fun hm => ?_
    obtain ⟨p, h1, _, h3⟩ := (mem_factsTo w 32 q).1 hm
    have : p = q := by omega
    subst this
    rw [h] at h3
    cases h3
theorem facts_inj {a b : W32} (h : facts a = facts b) : a = b := by rw [← word_facts a, h, word_facts]
structure Mk where
  pre : W32
  add : W32
  del : W32
  cost : Int
structure Wd where
  start : W32
  goal : W32
  ops : List Mk
def mkV (m : Mk) : V := .agg [u32V m.pre, u32V m.add, u32V m.del, .int .i64 m.cost]
def wdR (w : Wd) : V := .agg [u32V w.start, u32V w.goal, .sl .p (w.ops.map mkV)]
def mkOf (o : SOp) : Mk := ⟨word o.pre, word o.add, word o.del, o.cost⟩
def wdOf (t : STask) : Wd := ⟨word t.init, word t.goal, t.ops.map mkOf⟩
def Mk.can (m : Mk) (s : W32) : Bool := s &&& m.pre == m.pre
def Mk.next (m : Mk) (s : W32) : W32 := (s &&& ~~~ m.del) ||| m.add
def Wd.isGoal (w : Wd) (s : W32) : Bool := s &&& w.goal == w.goal
def stepsFrom (s : W32) : List Mk → Nat → List (Nat × Int × W32)
  | [], _ => []
  | m :: r, k => (if m.can s then [(k, m.cost, m.next s)] else []) ++ stepsFrom s r (k + 1)
def Wd.steps (w : Wd) (s : W32) : List (Nat × Int × W32) := stepsFrom s w.ops 0
def stV (e : Nat × Int × W32) : V := .agg [.int .i64 e.1, .int .i64 e.2.1, u32V e.2.2]
theorem u32_ofInt (w : W32) : BitVec.ofInt 32 (w.toNat : Int) = w := by
  rw [BitVec.ofInt_natCast, BitVec.ofNat_toNat]
  simp
theorem u32_wrap (w : W32) : IntKind.u32.wrap (w.toNat : Int) = w.toNat := wrap_id ⟨by omega, by have := w.isLt; omega⟩
theorem upt_if (σ : Store) (d : Nat) (b : Blk) (t : Nat) : ups σ d b t = if t = d then b else σ t := by
  by_cases e : t = d
  · subst e; rw [upt_self, if_pos rfl]
  · rw [upt_ne σ b e, if_neg e]
structure QE where
  nm : Nat
  b : Nat
  item : W32
  key : Int
  time : Int
  at_ : Int
def QE.cells (e : QE) : List V := [.int .u32 e.item.toNat, .int .i64 e.key, .int .i64 e.time, .int .i64 e.at_]
def QE.ptr (e : QE) : V := .raw e.b 0
def QE.at' (e : QE) (i : Nat) : QE := ⟨e.nm, e.b, e.item, e.key, e.time, i⟩
def QE.core (e : QE) : Nat × Nat × W32 × Int := (e.nm, e.b, e.item, e.key)
structure HS where
  nQ : Nat
  bq : Nat
  nH : Nat
  bh : Nat
  cap : Nat
  box : List V
  nF : Nat
  time : Int
  es : List QE
def HS.names (h : HS) : List Nat := h.nQ :: h.nH :: h.nF :: h.es.map QE.nm
structure HOk (ns : List Nat) (σ : Store) (h : HS) : Prop where
  hQ : σ h.nQ = .box (.tag h.bq [.rsl h.bh h.es.length h.cap, .mp h.nF, .int .i64 h.time])
  hH : σ h.nH = .box (.tag h.bh h.box)
  hbl : h.box.length = h.cap
  hle : h.es.length ≤ h.cap
  hsz : h.es.length ≤ 1000000
  ht : ∀ (i : Nat) e, h.es[i]? = some e → h.box[i]? = some e.ptr
  hE : ∀ e ∈ h.es, σ e.nm = .box (.tag e.b e.cells)
  hat : ∀ (i : Nat) e, h.es[i]? = some e → e.at_ = i
  nd : h.names.Nodup
  sub : ∀ n ∈ h.names, n ∈ ns
  pur : ∀ v ∈ h.box, pureB v = true
  cl : Cl ns σ
  out : ∀ nm, σ nm ≠ .unused → nm ∈ ns
structure Same (σ : Store) (h : HS) (σ' : Store) (h' : HS) : Prop where
  nQ : h'.nQ = h.nQ
  bq : h'.bq = h.bq
  nF : h'.nF = h.nF
  time : h'.time = h.time
  core : (h'.es.map QE.core).Perm (h.es.map QE.core)
  fm : σ' h.nF = σ h.nF
theorem Same.refl (σ : Store) (h : HS) : Same σ h σ h := ⟨rfl, rfl, rfl, rfl, List.Perm.refl _, rfl⟩
theorem Same.trans {σ σ' σ'' : Store} {h h' h'' : HS} (k : Same σ h σ' h') (k' : Same σ' h' σ'' h'') : Same σ h σ'' h'' :=
  ⟨k'.nQ.trans k.nQ, k'.bq.trans k.bq, k'.nF.trans k.nF, k'.time.trans k.time, k'.core.trans k.core, by rw [← k.fm, ← k.nF]; exact k'.fm⟩
theorem Same.len {σ σ' : Store} {h h' : HS} (k : Same σ h σ' h') : h'.es.length = h.es.length := by simpa using k.core.length_eq
section
variable {ns : List Nat} {σ : Store} {h : HS}
theorem HOk.len_cap (ho : HOk ns σ h) {i : Nat} (hi : i < h.es.length) : i < h.box.length := by have := ho.hbl; have := ho.hle; omega
theorem HOk.eNd (ho : HOk ns σ h) : (h.es.map QE.nm).Nodup := (List.nodup_cons.1 (List.nodup_cons.1 (List.nodup_cons.1 ho.nd).2).2).2
theorem HOk.neE (ho : HOk ns σ h) {i j : Nat} {e e' : QE} (hi : h.es[i]? = some e) (hj : h.es[j]? = some e') (hne : i ≠ j) : e.nm ≠ e'.nm := by
  intro he
  have h1 : (h.es.map QE.nm)[i]? = some e.nm := by rw [List.getElem?_map, hi]; rfl
  have h2 : (h.es.map QE.nm)[j]? = some e.nm := by rw [List.getElem?_map, hj]; exact congrArg some he.symm
  obtain ⟨h3, h4⟩ := List.getElem?_eq_some_iff.1 h1
  obtain ⟨h5, h6⟩ := List.getElem?_eq_some_iff.1 h2
  exact hne ((List.getElem_inj ho.eNd).1 (h4.trans h6.symm))
theorem HOk.QH (ho : HOk ns σ h) : h.nQ ≠ h.nH := fun e => (List.nodup_cons.1 ho.nd).1 (by rw [e]; simp)
theorem HOk.QF (ho : HOk ns σ h) : h.nQ ≠ h.nF := fun e => (List.nodup_cons.1 ho.nd).1 (by rw [e]; simp)
theorem HOk.HF (ho : HOk ns σ h) : h.nH ≠ h.nF := fun e => (List.nodup_cons.1 (List.nodup_cons.1 ho.nd).2).1 (by rw [e]; simp)
theorem HOk.EQ (ho : HOk ns σ h) {e : QE} (he : e ∈ h.es) : h.nQ ≠ e.nm := fun k => (List.nodup_cons.1 ho.nd).1 (by rw [k]; simp only [List.mem_cons]; exact .inr (.inr (List.mem_map.2 ⟨e, he, rfl⟩)))
theorem HOk.EH (ho : HOk ns σ h) {e : QE} (he : e ∈ h.es) : h.nH ≠ e.nm := fun k => (List.nodup_cons.1 (List.nodup_cons.1 ho.nd).2).1 (by rw [k]; simp only [List.mem_cons]; exact .inr (List.mem_map.2 ⟨e, he, rfl⟩))
theorem HOk.EF (ho : HOk ns σ h) {e : QE} (he : e ∈ h.es) : h.nF ≠ e.nm := fun k => (List.nodup_cons.1 (List.nodup_cons.1 (List.nodup_cons.1 ho.nd).2).2).1 (by rw [k]; exact List.mem_map.2 ⟨e, he, rfl⟩)
theorem HOk.inE (ho : HOk ns σ h) {e : QE} (he : e ∈ h.es) : e.nm ∈ ns := ho.sub _ (by unfold HS.names; simp only [List.mem_cons]; exact .inr (.inr (.inr (List.mem_map.2 ⟨e, he, rfl⟩))))
theorem HOk.inQ (ho : HOk ns σ h) : h.nQ ∈ ns := ho.sub _ (by simp [HS.names])
theorem HOk.inH (ho : HOk ns σ h) : h.nH ∈ ns := ho.sub _ (by simp [HS.names])
theorem HOk.inF (ho : HOk ns σ h) : h.nF ∈ ns := ho.sub _ (by simp [HS.names])
theorem box_closed (ns : List Nat) {b : Nat} {l : List V} (h : ∀ v ∈ l, pureB v = true) : closedB ns (.tag b l) = true := closedL_pure ns l (pureL_all h)
theorem mem_closed {ns : List Nat} {n : Nat} (h : n ∈ ns) : closedB ns (.mp n) = true := (memB_iff n ns).2 h
theorem qbox_closed {ns : List Nat} {b n c bh nF : Nat} {t : Int} (h : nF ∈ ns) : closedB ns (.tag b [.rsl bh n c, .mp nF, .int .i64 t]) = true := by
  show (true && (closedB ns (.mp nF) && (true && true))) = true
  rw [mem_closed h]
  rfl
theorem HOk.re (ho : HOk ns σ h) : HOk ns (restr ns σ) h := by rw [restr_all ho.out]; exact ho
theorem Same.re {σ' : Store} {h' : HS} (k : Same σ h σ' h') (ho : HOk ns σ' h') : Same σ h (restr ns σ') h' := by rw [restr_all ho.out]; exact k
theorem ldx {l : List V} {i : Nat} {v : V} (h : l[i]? = some v) (hv : fz v = some v) : fzA (ldrow false 1 ((i : Int).toNat * 1) (.agg l)) = some v := by
  rw [Nat.mul_one, Int.toNat_natCast]
  have e : ldrow false 1 i (.agg l) = some v := h
  rw [e]
  cases v <;> first
    | rfl
    | exact fzA_agg _
    | (simp only [fzA, fzL_all])
theorem stx {l : List V} {i : Nat} {v : V} (h : i < l.length) (hv : leafB v = true) : fzA (strow 1 ((i : Int).toNat * 1) (.agg l) v) = some (.agg (l.set i v)) := by
  rw [Nat.mul_one, Int.toNat_natCast]
  have e : Nat.ble (i + 1) l.length = true := Nat.ble_eq_true_of_le h
  have e2 : strow 1 i (.agg l) v = some (.agg (l.set i v)) := by
    cases v <;> first
      | (cases hv; done)
      | (simp only [strow, e, hv, Bool.and_true, Bool.and_self]; rfl)
  rw [e2]
  exact fzA_agg _
def swapH (h : HS) (i j : Nat) (ei ej : QE) : HS := { h with es := (h.es.set i (ej.at' i)).set j (ei.at' j), box := (h.box.set i ej.ptr).set j ei.ptr }
theorem swap_get {h : HS} {i j : Nat} {ei ej : QE} (hi : i < h.es.length) (hj : j < h.es.length) (k : Nat) : (swapH h i j ei ej).es[k]? = if k = j then some (ei.at' j) else if k = i then some (ej.at' i) else h.es[k]? := by
  unfold swapH
  simp only [List.getElem?_set, List.length_set]
  by_cases c : k = j
  · subst c; simp [hj]
  · rw [if_neg (fun e => c e.symm), if_neg c]
    by_cases c2 : k = i
    · subst c2; simp [hi]
    · rw [if_neg (fun e => c2 e.symm), if_neg c2]
theorem perm_set2 {α : Type} : ∀ {l : List α} {i j : Nat} {a b : α}, l[i]? = some a → l[j]? = some b → ((l.set i b).set j a).Perm l := fun {l i j a b} hi hj => by
  obtain ⟨h1, h2⟩ := List.getElem?_eq_some_iff.1 hi
  obtain ⟨h3, h4⟩ := List.getElem?_eq_some_iff.1 hj
  subst h2 h4
  exact List.set_set_perm h1 h3
theorem HOk.swap (ho : HOk ns σ h) {i j : Nat} {ei ej : QE} (hi : h.es[i]? = some ei) (hj : h.es[j]? = some ej) {σ' : Store}
    (hσ : ∀ n, σ' n = if n = ei.nm then .box (.tag ei.b (ei.at' j).cells) else if n = ej.nm then .box (.tag ej.b (ej.at' i).cells) else if n = h.nH then .box (.tag h.bh (swapH h i j ei ej).box) else σ n) :
    HOk ns σ' (swapH h i j ei ej) ∧ Same σ h σ' (swapH h i j ei ej) := by
  have li := get_lt hi
  have lj := get_lt hj
  have mi := mem_get hi
  have mj := mem_get hj
  have hg := swap_get (h := h) (ei := ei) (ej := ej) li lj
  have hlen : (swapH h i j ei ej).es.length = h.es.length := by simp [swapH]
  have hcore : ((swapH h i j ei ej).es.map QE.core).Perm (h.es.map QE.core) := by
    have e : (swapH h i j ei ej).es.map QE.core = ((h.es.map QE.core).set i ej.core).set j ei.core := by simp only [swapH, List.map_set]; rfl
    rw [e]
    exact perm_set2 (by rw [List.getElem?_map, hi]; rfl) (by rw [List.getElem?_map, hj]; rfl)
  have hnm : ((swapH h i j ei ej).es.map QE.nm).Perm (h.es.map QE.nm) := by
    have := hcore.map Prod.fst
    rw [List.map_map, List.map_map] at this
    exact this
  have hnames : (swapH h i j ei ej).names.Perm h.names := ((hnm.cons _).cons _).cons _
  have hQ' : σ' h.nQ = σ h.nQ := by rw [hσ, if_neg (ho.EQ mi), if_neg (ho.EQ mj), if_neg ho.QH]
  have hF' : σ' h.nF = σ h.nF := by rw [hσ, if_neg (ho.EF mi), if_neg (ho.EF mj), if_neg (fun e => ho.HF e.symm)]
  have hH' : σ' h.nH = .box (.tag h.bh (swapH h i j ei ej).box) := by rw [hσ, if_neg (ho.EH mi), if_neg (ho.EH mj), if_pos rfl]
  have hpur : ∀ v ∈ (swapH h i j ei ej).box, pureB v = true := fun v hv => by
    rcases List.mem_or_eq_of_mem_set hv with h1 | rfl
    · rcases List.mem_or_eq_of_mem_set h1 with h1 | rfl
      · exact ho.pur v h1
      · rfl
    · rfl
  refine ⟨⟨?_, hH', by simp [swapH, ho.hbl], by rw [hlen]; exact ho.hle, by rw [hlen]; exact ho.hsz, fun k e hk => ?_, fun e he => ?_, fun k e hk => ?_, hnames.nodup_iff.2 ho.nd, fun n hn => ho.sub n (hnames.mem_iff.1 hn), hpur, ?_, ?_⟩, ⟨rfl, rfl, rfl, rfl, hcore, hF'⟩⟩
  · rw [hlen]; exact hQ'.trans ho.hQ
  · rw [hg] at hk
    have hbi := ho.len_cap li
    have hbj := ho.len_cap lj
    show ((h.box.set i ej.ptr).set j ei.ptr)[k]? = _
    simp only [List.getElem?_set, List.length_set]
    by_cases c : k = j
    · subst c
      simp only [if_true] at hk
      cases hk
      simp [hbj, QE.ptr, QE.at']
    · rw [if_neg c] at hk
      rw [if_neg (fun e => c e.symm)]
      by_cases c2 : k = i
      · subst c2
        simp only [if_true] at hk
        cases hk
        simp [hbi, QE.ptr, QE.at']
      · rw [if_neg c2] at hk
        rw [if_neg (fun e => c2 e.symm)]
        exact ho.ht k e hk
  · obtain ⟨k, hk⟩ := List.getElem?_of_mem he
    rw [hg] at hk
    rw [hσ]
    by_cases c : k = j
    · rw [if_pos c] at hk
      cases hk
      exact if_pos rfl
    · rw [if_neg c] at hk
      by_cases c2 : k = i
      · rw [if_pos c2] at hk
        cases hk
        have : ej.nm ≠ ei.nm := ho.neE hj hi (by omega)
        exact (if_neg this).trans (if_pos rfl)
      · rw [if_neg c2] at hk
        rw [if_neg (ho.neE hk hi c2), if_neg (ho.neE hk hj c), if_neg (fun e2 => ho.EH (mem_get hk) e2.symm)]
        exact ho.hE e (mem_get hk)
  · rw [hg] at hk
    by_cases c : k = j
    · rw [if_pos c] at hk; cases hk; subst c; rfl
    · rw [if_neg c] at hk
      by_cases c2 : k = i
      · rw [if_pos c2] at hk; cases hk; subst c2; rfl
      · rw [if_neg c2] at hk; exact ho.hat k e hk
  · refine (closedSt_iff _ _ _).2 fun n hn row hr => ?_
    rw [hσ] at hr
    split at hr
    · cases hr; rfl
    · split at hr
      · cases hr; rfl
      · split at hr
        · cases hr; exact box_closed ns hpur
        · exact ho.cl.at hn hr
  · intro n hn
    rw [hσ] at hn
    split at hn
    · rename_i e; exact e ▸ ho.inE mi
    · split at hn
      · rename_i e; exact e ▸ ho.inE mj
      · split at hn
        · rename_i e; exact e ▸ ho.inH
        · exact ho.out n hn
end
end Hm
end
section
namespace Hm
open Go
set_option maxRecDepth 100000
set_option maxHeartbeats 1000000
section
variable {G : Type} {P : Program} {H : HT G} {pn : List Nat} {Q : Exit → Env → Store → G → Prop} {fs : List (Frm G)} {ρ : Env} {σ : Store} {g : G} {r : List GItem} {d : Nat} {st : Bool} {et : List LT} {x y : Opd}
theorem w_and {a b : W32} (hx : ev ρ x = u32V a) (hy : ev ρ y = u32V b) (h : WI P H pn Q fs r (upd ρ d (u32V (a &&& b))) σ g) : WI P H pn Q fs (.op (some d) none (.bin .and st et x y) :: r) ρ σ g := i_out (by
  simp only [AWop, hx, hy, u32V, abin, kEq, cond_true]
  rw [show IntKind.u32.bits = 32 from rfl, u32_ofInt, u32_ofInt, u32_wrap]
  exact h.out)
theorem w_or {a b : W32} (hx : ev ρ x = u32V a) (hy : ev ρ y = u32V b) (h : WI P H pn Q fs r (upd ρ d (u32V (a ||| b))) σ g) : WI P H pn Q fs (.op (some d) none (.bin .or st et x y) :: r) ρ σ g := i_out (by
  simp only [AWop, hx, hy, u32V, abin, kEq, cond_true]
  rw [show IntKind.u32.bits = 32 from rfl, u32_ofInt, u32_ofInt, u32_wrap]
  exact h.out)
theorem w_andn {a b : W32} (hx : ev ρ x = u32V a) (hy : ev ρ y = u32V b) (h : WI P H pn Q fs r (upd ρ d (u32V (a &&& ~~~ b))) σ g) : WI P H pn Q fs (.op (some d) none (.bin .andNot st et x y) :: r) ρ σ g := i_out (by
  simp only [AWop, hx, hy, u32V, abin, kEq, cond_true]
  rw [show IntKind.u32.bits = 32 from rfl, u32_ofInt, u32_ofInt, u32_wrap]
  exact h.out)
theorem bit_wrap (p : Int) : IntKind.u32.wrap ((1 : Int) * 2 ^ (min p.toNat IntKind.u32.bits)) = ((bit p).toNat : Int) := by
  have e : ∀ m : Nat, m ≤ 32 → IntKind.u32.wrap ((1 : Int) * 2 ^ m) = ((BitVec.ofNat 32 (2 ^ m)).toNat : Int) := by decide
  exact e _ (by show min p.toNat 32 ≤ 32; omega)
theorem w_bit {p : Int} {k : IntKind} (hx : ev ρ x = .int .u32 1) (hy : ev ρ y = .int k p) (h0 : 0 ≤ p) (h : WI P H pn Q fs r (upd ρ d (u32V (bit p))) σ g) : WI P H pn Q fs (.op (some d) none (.bin .shl st et x y) :: r) ρ σ g := i_out (by
  simp only [AWop, hx, hy, abin]
  refine ⟨h0, ?_⟩
  rw [bit_wrap]
  exact h.out)
theorem shr_bit (w : W32) (q : Nat) (hq : q < 32) : IntKind.u32.wrap ((BitVec.ofInt IntKind.u32.bits (((w.toNat : Int)).fdiv (2 ^ (min q IntKind.u32.bits))) &&& BitVec.ofInt IntKind.u32.bits 1).toNat) = if w.getLsbD q = true then 1 else 0 := by
  have e1 : min q IntKind.u32.bits = q := by show min q 32 = q; omega
  rw [e1]
  have e2 : ((w.toNat : Int)).fdiv (2 ^ q) = ((w.toNat >>> q : Nat) : Int) := by
    rw [Int.fdiv_eq_ediv_of_nonneg _ (Int.le_of_lt (Int.pow_pos (by decide))), Nat.shiftRight_eq_div_pow, Int.natCast_ediv, Int.natCast_pow]
    rfl
  rw [e2]
  show IntKind.u32.wrap ((BitVec.ofInt 32 ((w.toNat >>> q : Nat) : Int) &&& BitVec.ofInt 32 1).toNat) = _
  have e3 : BitVec.ofInt 32 ((w.toNat >>> q : Nat) : Int) = w >>> q := by
    rw [BitVec.ofInt_natCast]
    apply BitVec.eq_of_toNat_eq
    rw [BitVec.toNat_ofNat, BitVec.toNat_ushiftRight]
    have := w.isLt
    exact Nat.mod_eq_of_lt (Nat.lt_of_le_of_lt (Nat.shiftRight_le _ _) this)
  rw [e3]
  have e4 : (w >>> q &&& BitVec.ofInt 32 1) = if w.getLsbD q = true then 1#32 else 0#32 := by
    have e5 : BitVec.ofInt 32 1 = 1#32 := rfl
    rw [e5]
    refine BitVec.eq_of_getLsbD_eq fun i hi => ?_
    rw [BitVec.getLsbD_and, BitVec.getLsbD_ushiftRight]
    have h1 : (1#32 : W32).getLsbD i = decide (i = 0) := by
      rw [BitVec.getLsbD_one]
      simp
    rw [h1]
    by_cases c : i = 0
    · subst c
      cases h : w.getLsbD q <;> simp [h]
    · cases h : w.getLsbD q <;> simp [c, h1]
  rw [e4]
  split <;> rfl
end
def c_space_Word : Cmd :=
 (qS [qq 2 (.mov (.c (.int .u32 0)))]
 (qS [qq 3 (.mov (.c (.int .u32 0)))]
 (qT (qS [qm 6 0, qn 7 6, qc 8 0]
 (.block 0 (.loop (qS [qu 9 .lss [] 8 7]
 (qT (.cond (.t 9) .skip (.exit 0))
 (qT (.block 1 (qS [qi 10 1 6 8, ql 11 1 10, qm 5 11]
 (.ops [qm 12 3, qm 13 5, qq 14 (.bin .shl false [] (.c (.int .u32 1)) (.t 13)), qu 15 .or [] 12 14, qm 3 15])))
 (.ops [qv 16 .add [] 8 1, qm 8 16])))))))
 (.seq (.ops [qm 17 3, qm 2 17]) .ret))))
def r_space_Word : List RVar := [.tmp 2]
def n_space_Word : Nat := 18
theorem k_space_Word : chkFn Go.Proofs.Try.prog 41 n_space_Word r_space_Word c_space_Word = true := by kernel_rfl
theorem f_space_Word (s : List Int) (hs : ∀ p ∈ s, 0 ≤ p ∧ p < 32) (hl : s.length ≤ 140737488355328) : Fc Go.Proofs.Try.prog 41 [.sl .p (s.map i64V)] (u32V (word s)) := by
  refine Fn.step mixed k_space_Word ?_
  repeat (first | refine i_len rfl ?_ | refine i_s rfl ?_ | refine sw ?_)
  refine c_for s.length (fun k => [(3, u32V (word (s.take k))), (6, .sl .p (s.map i64V)), (7, .int .i64 s.length), (8, .int .i64 k)]) (fun _ => []) (fun _ => True) trivial ft fun k hk _ => ?_
  repeat (first | refine i_s rfl ?_ | refine sw ?_)
  refine c_cond rfl (fun h => ?_) (fun h => ?_)
  · have hlt : k < s.length := by simpa using h
    obtain ⟨p, hp⟩ := get_some hlt
    have hr := hs p (mem_get hp)
    clear h
    have et : word (s.take (k + 1)) = word (s.take k) ||| bit p := by
      rw [List.take_add_one, hp]
      exact wordG_snoc _ _ _
    repeat' (first | refine i_s rfl ?_ | refine sw ?_ | refine ja rfl rfl ?_ | refine jd rfl rfl ?_ | refine w_bit rfl rfl hr.1 ?_ | refine w_or rfl rfl ?_)
    refine e_for hlt trivial ⟨⟨?_, rfl, rfl, rfl, trivial⟩, trivial, rfl⟩
    rw [et]
    rfl
  · have hge : ¬ k < s.length := by simpa using h
    have ek : s.take k = s := List.take_of_length_le (by omega)
    repeat' (first | refine i_s rfl ?_ | refine sw ?_ | fail)
    exact e_ret ⟨rfl, _, rfl, by rw [ek]; rfl⟩
def c_space_Words_Start : Cmd :=
 (qS [qq 2 (.mov (.c (.int .u32 0)))]
 (.seq (.ops [qm 3 0, qq 4 (.nilck (.t 3)), qf 5 0 4, ql 6 1 5, qm 2 6]) .ret))
def r_space_Words_Start : List RVar := [.tmp 2]
def n_space_Words_Start : Nat := 7
theorem k_space_Words_Start : chkFn Go.Proofs.Try.prog 16 n_space_Words_Start r_space_Words_Start c_space_Words_Start = true := by kernel_rfl
theorem f_space_Words_Start (w : Wd) : Fc Go.Proofs.Try.prog 16 [.cptr .p (wdR w) 0] (u32V w.start) := by
  refine Fn.step mixed k_space_Words_Start ?_
  repeat' (first | refine i_s rfl ?_ | refine sw ?_ | fail)
  exact e_ret ⟨rfl, _, rfl, rfl⟩
end Hm
end
section
namespace Hm
open Go
set_option maxRecDepth 100000
set_option maxHeartbeats 2000000
def c_openlist_order_uint32_Len : Cmd :=
 (qS [qc 2 0]
 (.seq (.ops [qm 3 0, qn 4 3, qm 2 4]) .ret))
def r_openlist_order_uint32_Len : List RVar := [.tmp 2]
def n_openlist_order_uint32_Len : Nat := 5
theorem k_openlist_order_uint32_Len : chkFn Go.Proofs.Try.prog 113 n_openlist_order_uint32_Len r_openlist_order_uint32_Len c_openlist_order_uint32_Len = true := by kernel_rfl
theorem f_order_Len (b n c : Nat) : Fc Go.Proofs.Try.prog 113 [.rsl b n c] (.int .i64 n) := by
  refine Fn.step mixed k_openlist_order_uint32_Len ?_
  repeat' (first | refine i_s rfl ?_ | refine sw ?_ | fail)
  exact e_ret ⟨rfl, _, rfl, rfl⟩
def c_openlist_order_uint32_Less : Cmd :=
 (qS [qb 6 false]
 (.seq (.ops [qm 7 0, qm 8 1, qi 9 1 7 8, ql 10 1 9, qq 11 (.nilck (.t 10)), qf 12 1 11, ql 13 1 12, qm 14 0, qm 15 2, qi 16 1 14 15, ql 17 1 16, qq 18 (.nilck (.t 17)), qf 19 1 18, ql 20 1 19, qu 21 .lss [] 13 20, qm 22 21, qg 23 22 false (.mov (.t 0)), qg 24 22 false (.mov (.t 1)), qg 25 22 false (.iaddr 1 (.t 23) (.t 24)), qg 26 22 false (.load false 1 (.t 25)), qg 27 22 false (.nilck (.t 26)), qg 28 22 false (.faddr 1 (.t 27)), qg 29 22 false (.load false 1 (.t 28)), qg 30 22 false (.mov (.t 0)), qg 31 22 false (.mov (.t 2)), qg 32 22 false (.iaddr 1 (.t 30) (.t 31)), qg 33 22 false (.load false 1 (.t 32)), qg 34 22 false (.nilck (.t 33)), qg 35 22 false (.faddr 1 (.t 34)), qg 36 22 false (.load false 1 (.t 35)), qg 37 22 false (.bin .eql false [.i] (.t 29) (.t 36)), qg 38 22 false (.mov (.t 37)), qg 39 38 true (.mov (.t 0)), qg 40 38 true (.mov (.t 1)), qg 41 38 true (.iaddr 1 (.t 39) (.t 40)), qg 42 38 true (.load false 1 (.t 41)), qg 43 38 true (.nilck (.t 42)), qg 44 38 true (.faddr 2 (.t 43)), qg 45 38 true (.load false 1 (.t 44)), qg 46 38 true (.mov (.t 0)), qg 47 38 true (.mov (.t 2)), qg 48 38 true (.iaddr 1 (.t 46) (.t 47)), qg 49 38 true (.load false 1 (.t 48)), qg 50 38 true (.nilck (.t 49)), qg 51 38 true (.faddr 2 (.t 50)), qg 52 38 true (.load false 1 (.t 51)), qg 53 38 true (.bin .lss false [] (.t 45) (.t 52)), qg 54 22 false (.pick (.t 38) (.t 53) (.c (.bool false))), qq 55 (.pick (.t 22) (.c (.bool true)) (.t 54)), qm 6 55]) .ret))
def r_openlist_order_uint32_Less : List RVar := [.tmp 6]
def n_openlist_order_uint32_Less : Nat := 56
theorem k_openlist_order_uint32_Less : chkFn Go.Proofs.Try.prog 114 n_openlist_order_uint32_Less r_openlist_order_uint32_Less c_openlist_order_uint32_Less = true := by kernel_rfl
theorem ct_Less {G : Type} {H : HT G} {g : G} {ns : List Nat} {σ : Store} {q : HS} (ho : HOk ns σ q) (i j : Nat) (hi : i < q.es.length) (hj : j < q.es.length) :
    Cc Go.Proofs.Try.prog H 114 [.rsl q.bh q.es.length q.cap, .int .i64 i, .int .i64 j] ns σ g fun v σ' g' => (∃ b, v = .bool b) ∧ σ' = σ ∧ g' = g := by
  obtain ⟨ei, hei⟩ := get_some hi
  obtain ⟨ej, hej⟩ := get_some hj
  have bi := ho.ht i ei hei
  have bj := ho.ht j ej hej
  have si := ho.hE ei (mem_get hei)
  have sj := ho.hE ej (mem_get hej)
  refine CT.step _ mixed k_openlist_order_uint32_Less ho.out fun hM => ?_
  repeat' (first | refine i_s rfl ?_ | refine sw ?_ | refine i_gt rfl ?_ | refine i_gf rfl ?_ | refine i_gd rfl ?_ | refine i_g rfl (fun h => ?_) (fun h => ?_) | refine i_irs rfl rfl (by omega) (by omega) ?_ | refine i_ldr q.nH rfl ho.hH (ldx bi rfl) ?_ | refine i_ldr q.nH rfl ho.hH (ldx bj rfl) ?_ | refine i_ldr ei.nm rfl si rfl ?_ | refine i_ldr ej.nm rfl sj rfl ?_)
  all_goals exact e_ret ⟨rfl, _, rfl, rfl, ho.cl, ⟨_, rfl⟩, restr_all ho.out, rfl⟩
def c_openlist_order_uint32_Swap : Cmd :=
 (qS [qm 6 0, qm 7 1, qm 8 0, qm 9 2, qm 10 0, qm 11 2, qi 12 1 10 11, ql 13 1 12, qm 14 0, qm 15 1, qi 16 1 14 15, ql 17 1 16, qi 18 1 6 7, qs 1 18 13, qi 19 1 8 9, qs 1 19 17]
 (.ops [qm 20 0, qm 21 1, qi 22 1 20 21, ql 23 1 22, qm 24 0, qm 25 2, qi 26 1 24 25, ql 27 1 26, qm 28 1, qm 29 2, qq 30 (.nilck (.t 23)), qf 31 3 30, qs 1 31 28, qq 32 (.nilck (.t 27)), qf 33 3 32, qs 1 33 29]))
def r_openlist_order_uint32_Swap : List RVar := []
def n_openlist_order_uint32_Swap : Nat := 34
theorem k_openlist_order_uint32_Swap : chkFn Go.Proofs.Try.prog 115 n_openlist_order_uint32_Swap r_openlist_order_uint32_Swap c_openlist_order_uint32_Swap = true := by kernel_rfl
theorem ct_Swap {G : Type} {H : HT G} {g : G} {ns : List Nat} {σ : Store} {q : HS} (ho : HOk ns σ q) (i j : Nat) (hi : i < q.es.length) (hj : j < q.es.length) :
    Cc Go.Proofs.Try.prog H 115 [.rsl q.bh q.es.length q.cap, .int .i64 i, .int .i64 j] ns σ g fun v σ' g' => (∃ h', HOk ns σ' h' ∧ Same σ q σ' h') ∧ g' = g := by
  obtain ⟨ei, hei⟩ := get_some hi
  obtain ⟨ej, hej⟩ := get_some hj
  have bi := ho.ht i ei hei
  have bj := ho.ht j ej hej
  have mi := mem_get hei
  have mj := mem_get hej
  have li := ho.len_cap hi
  have lj := ho.len_cap hj
  refine CT.step _ mixed k_openlist_order_uint32_Swap ho.out fun hM => ?_
  repeat' (first | refine i_s rfl ?_ | refine sw ?_ | refine i_irs rfl rfl (by omega) (by omega) ?_ | refine i_ldr q.nH rfl ho.hH (ldx bi rfl) ?_ | refine i_ldr q.nH rfl ho.hH (ldx bj rfl) ?_)
  refine i_str q.nH rfl ho.hH (stx (v := ej.ptr) li rfl) ?_
  skip
  refine i_irs rfl rfl (by omega) (by omega) ?_
  refine i_str q.nH rfl (upt_self _ _ _) (stx (v := ei.ptr) (by simpa using lj) rfl) ?_
  repeat (first | refine i_s rfl ?_ | refine sw ?_)
  have hb : ((q.box.set i ej.ptr).set j ei.ptr)[j]? = some ei.ptr := by simp [lj]
  have hb2 : ((q.box.set i ej.ptr).set j ei.ptr)[i]? = some ej.ptr := by
    by_cases c : i = j
    · subst c
      rw [hei] at hej
      cases hej
      exact hb
    · rw [List.getElem?_set_ne (fun e => c e.symm)]
      simp [li]
  refine i_irs rfl rfl (by omega) (by omega) ?_
  refine i_ldr q.nH rfl (upt_self _ _ _) (ldx hb2 rfl) ?_
  repeat refine i_s rfl ?_
  refine i_irs rfl rfl (by omega) (by omega) ?_
  refine i_ldr q.nH rfl (upt_self _ _ _) (ldx hb rfl) ?_
  repeat refine i_s rfl ?_
  refine i_str ej.nm rfl (by rw [upt_ne _ _ (fun e => ho.EH mj e.symm), upt_ne _ _ (fun e => ho.EH mj e.symm)]; exact ho.hE ej mj) rfl ?_
  repeat refine i_s rfl ?_
  by_cases c : i = j
  · subst c
    rw [hei] at hej
    cases hej
    refine i_str ei.nm rfl (upt_self _ _ _) rfl ?_
    obtain ⟨k1, k2⟩ := ho.swap hei hei (σ' := ups (ups (ups (ups σ q.nH (.box (.tag q.bh (q.box.set i ei.ptr)))) q.nH (.box (.tag q.bh ((q.box.set i ei.ptr).set i ei.ptr)))) ei.nm (.box (.tag ei.b (ei.at' i).cells))) ei.nm (.box (.tag ei.b (ei.at' i).cells))) (fun n => by
      simp only [upt_if]
      by_cases c1 : n = ei.nm
      · simp [c1]
      · simp only [c1, if_false]
        by_cases c2 : n = q.nH
        · simp [c2, swapH]
        · simp [c2])
    repeat refine sw ?_
    exact e_end ⟨rfl, _, rfl, rfl, k1.cl, ⟨_, k1.re, k2.re k1⟩, rfl⟩
  · refine i_str ei.nm rfl (by rw [upt_ne _ _ (ho.neE hei hej c), upt_ne _ _ (fun e => ho.EH mi e.symm), upt_ne _ _ (fun e => ho.EH mi e.symm)]; exact ho.hE ei mi) rfl ?_
    obtain ⟨k1, k2⟩ := ho.swap hei hej (σ' := ups (ups (ups (ups σ q.nH (.box (.tag q.bh (q.box.set i ej.ptr)))) q.nH (.box (.tag q.bh ((q.box.set i ej.ptr).set j ei.ptr)))) ej.nm (.box (.tag ej.b (ej.at' i).cells))) ei.nm (.box (.tag ei.b (ei.at' j).cells))) (fun n => by
      simp only [upt_if]
      by_cases c1 : n = ei.nm
      · simp [c1]
      · simp only [c1, if_false]
        by_cases c3 : n = ej.nm
        · simp [c3]
        · simp only [c3, if_false]
          by_cases c2 : n = q.nH
          · simp [c2, swapH]
          · simp [c2])
    repeat refine sw ?_
    exact e_end ⟨rfl, _, rfl, rfl, k1.cl, ⟨_, k1.re, k2.re k1⟩, rfl⟩
end Hm
end
section
namespace Hm
open Go
section
variable {G : Type} {P : Program} {H : HT G} {pn : List Nat} {Q : Exit → Env → Store → G → Prop} {fs : List (Frm G)} {ρ : Env} {σ : Store} {g : G} {r : List GItem} {d : Nat} {dst : Option Nat}
theorem i_ap0 (nm' : Nat) {m bytes et : Nat} {v : V} {x y : Opd} (hx : ev ρ x = .sl .nil []) (hy : srcR σ (ev ρ y) = some [v]) (hc : v.cells.length = m ∧ v.cells.all leafB = true) (hb : bytes ≤ 1000) (hs' : σ nm' = .unused) (ht : nm' < 1000000000000)
    (h : ∀ b2 c2 l2, l2.length = c2 * m → 1 ≤ c2 → l2.take m = v.cells → ((∀ u ∈ v.cells, pureB u = true) → ∀ u ∈ l2, pureB u = true) → WI P H pn Q fs r (upd ρ d (.rsl b2 1 c2)) (ups σ nm' (.box (.tag b2 l2))) g) :
    WI P H pn Q fs (.op (some d) none (.appR m bytes et x y) :: r) ρ σ g := by
  refine i_apn nm' hx hy (by simp) (fun row hr => by rw [List.mem_singleton.1 hr]; exact hc) (by simp; omega) (by simp) hs' (ty_low ht) fun b c hle => ?_
  have hle : 1 ≤ c := hle
  have e : flatC [v] = v.cells := List.append_nil _
  rw [e]
  refine h b c _ ?_ hle ?_ ?_
  · rw [List.length_append, List.length_replicate, hc.1]
    show m + (c - 1) * m = c * m
    rw [Nat.sub_mul, Nat.one_mul]
    have := Nat.mul_le_mul_right m hle
    omega
  · rw [List.take_left' hc.1]
  · intro hp u hu
    rcases List.mem_append.1 hu with h1 | h1
    · exact hp u h1
    · rw [(List.mem_replicate.1 h1).2]; rfl
theorem i_ap1 (nm nm' : Nat) {m bytes et b n c : Nat} {v : V} {l : List V} {x y : Opd} (hx : ev ρ x = .rsl b n c) (hy : srcR σ (ev ρ y) = some [v]) (hc : v.cells.length = m ∧ v.cells.all leafB = true) (hb : bytes ≤ 1000) (hn : n ≤ 100000000000) (hs : σ nm = .box (.tag b l)) (hl : l.length = c * m) (hle : n ≤ c) (hs' : σ nm' = .unused) (ht : nm' < 1000000000000)
    (h : ∀ nm2 b2 c2 l2, nm2 = nm ∨ nm2 = nm' → l2.length = c2 * m → n + 1 ≤ c2 → l2.take (n * m) = l.take (n * m) → (l2.drop (n * m)).take m = v.cells → ((∀ u ∈ l, pureB u = true) → (∀ u ∈ v.cells, pureB u = true) → ∀ u ∈ l2, pureB u = true) → WI P H pn Q fs r (upd ρ d (.rsl b2 (n + 1) c2)) (ups σ nm2 (.box (.tag b2 l2))) g) :
    WI P H pn Q fs (.op (some d) none (.appR m bytes et x y) :: r) ρ σ g := by
  have e : flatC [v] = v.cells := List.append_nil _
  have hlt : (l.take (n * m)).length = n * m := by
    rw [List.length_take, hl]
    have := Nat.mul_le_mul_right m hle
    omega
  refine i_apr nm hx hy (by simp) (fun row hr => by rw [List.mem_singleton.1 hr]; exact hc) ?_ ?_ hs (by omega) (fun hle2 => ?_) (fun hlt2 => ⟨nm', hs', ty_low ht, fun b' c' hle2 => ?_⟩)
  · have : (n + 1) * bytes ≤ (n + 1) * 1000 := Nat.mul_le_mul_left _ hb
    show (n + 1) * bytes ≤ _
    omega
  · show n + 1 ≤ _
    omega
  · have hle2 : n + 1 ≤ c := hle2
    rw [e]
    have h2 := Nat.mul_le_mul_right m hle2
    rw [Nat.add_mul, Nat.one_mul] at h2
    refine h nm b c _ (.inl rfl) ?_ hle2 ?_ ?_ ?_
    · simp only [List.length_append, hlt, hc.1, List.length_drop, hl]
      omega
    · rw [List.append_assoc, List.take_left' hlt]
    · rw [List.append_assoc, List.drop_left' hlt, List.take_left' hc.1]
    · intro hp hq u hu
      rcases List.mem_append.1 hu with h1 | h1
      · rcases List.mem_append.1 h1 with h1 | h1
        · exact hp u (List.mem_of_mem_take h1)
        · exact hq u h1
      · exact hp u (List.mem_of_mem_drop h1)
  · have hle2 : n + 1 ≤ c' := hle2
    rw [e]
    have h2 := Nat.mul_le_mul_right m hle2
    rw [Nat.add_mul, Nat.one_mul] at h2
    refine h nm' b' c' _ (.inr rfl) ?_ hle2 ?_ ?_ ?_
    · simp only [List.length_append, hlt, hc.1, List.length_replicate]
      show n * m + m + (c' - (n + 1)) * m = c' * m
      rw [Nat.sub_mul, Nat.add_mul, Nat.one_mul]
      omega
    · rw [List.append_assoc, List.take_left' hlt]
    · rw [List.append_assoc, List.drop_left' hlt, List.take_left' hc.1]
    · intro hp hq u hu
      rcases List.mem_append.1 hu with h1 | h1
      · rcases List.mem_append.1 h1 with h1 | h1
        · exact hp u (List.mem_of_mem_take h1)
        · exact hq u h1
      · rw [(List.mem_replicate.1 h1).2]; rfl
end
structure HZ (ns : List Nat) (σ : Store) (h : HS) : Prop where
  hQ : σ h.nQ = .box (.tag h.bq [.sl .nil [], .mp h.nF, .int .i64 h.time])
  es : h.es = []
  HH : h.nH ≠ h.nQ ∧ h.nH ≠ h.nF ∧ h.nH ∈ ns
  Hu : σ h.nH = .unused
  QF : h.nQ ≠ h.nF
  inQ : h.nQ ∈ ns
  inF : h.nF ∈ ns
  cl : Cl ns σ
  out : ∀ nm, σ nm ≠ .unused → nm ∈ ns
structure HB (ns : List Nat) (σ : Store) (h : HS) : Prop where
  hsz : h.es.length ≤ 1000000
  hE : ∀ e ∈ h.es, σ e.nm = .box (.tag e.b e.cells)
  hat : ∀ (i : Nat) e, h.es[i]? = some e → e.at_ = i
  nd : (h.nQ :: h.nF :: h.es.map QE.nm).Nodup
  sub : ∀ n ∈ h.nQ :: h.nF :: h.es.map QE.nm, n ∈ ns
  cl : Cl ns σ
  out : ∀ nm, σ nm ≠ .unused → nm ∈ ns
def HAny (ns : List Nat) (σ : Store) (h : HS) : Prop := HOk ns σ h ∨ HZ ns σ h
def HS.nm2 (h : HS) : List Nat := h.nQ :: h.nF :: h.es.map QE.nm
section
variable {ns : List Nat} {σ : Store} {h : HS}
theorem HOk.base (ho : HOk ns σ h) : HB ns σ h := by
  have h1 := List.nodup_cons.1 ho.nd
  have h2 := List.nodup_cons.1 h1.2
  refine ⟨ho.hsz, ho.hE, ho.hat, List.nodup_cons.2 ⟨fun hm => h1.1 (List.mem_cons_of_mem _ hm), h2.2⟩, fun n hn => ho.sub n ?_, ho.cl, ho.out⟩
  rcases List.mem_cons.1 hn with rfl | hn
  · simp [HS.names]
  · exact List.mem_cons_of_mem _ (List.mem_cons_of_mem _ hn)
theorem HZ.base (hz : HZ ns σ h) : HB ns σ h := by
  have e := hz.es
  refine ⟨by rw [e]; simp, (fun x hx => by rw [e] at hx; cases hx), (fun i x hx => by rw [e] at hx; simp at hx), (by rw [e]; simpa using hz.QF), fun n hn => ?_, hz.cl, hz.out⟩
  rw [e] at hn
  simp at hn
  rcases hn with rfl | rfl
  · exact hz.inQ
  · exact hz.inF
theorem HAny.base (ha : HAny ns σ h) : HB ns σ h := ha.elim HOk.base HZ.base
theorem HB.push (ho : HB ns σ h) {e : QE} (hlen : h.es.length < 1000000) (he1 : e.nm ∈ ns) (he2 : e.nm ∉ h.nm2) {nm2 b2 c2 : Nat} {l2 : List V} (hm1 : nm2 ∈ ns) (hm2 : nm2 ∉ h.nm2) (hm3 : nm2 ≠ e.nm)
    (k1 : l2.length = c2) (k2 : h.es.length + 1 ≤ c2) (k3 : ∀ (i : Nat) x, h.es[i]? = some x → l2[i]? = some x.ptr) (k4 : l2[h.es.length]? = some e.ptr) (k5 : ∀ v ∈ l2, pureB v = true) {σ' : Store}
    (hσ : ∀ n, σ' n = if n = h.nQ then .box (.tag h.bq [.rsl b2 (h.es.length + 1) c2, .mp h.nF, .int .i64 h.time]) else if n = nm2 then .box (.tag b2 l2) else if n = e.nm then .box (.tag e.b (e.at' h.es.length).cells) else σ n) :
    HOk ns σ' { h with nH := nm2, bh := b2, cap := c2, box := l2, es := h.es ++ [e.at' h.es.length] } ∧ σ' h.nF = σ h.nF := by
  simp only [HS.nm2, List.mem_cons, not_or] at he2 hm2
  have hnd1 := List.nodup_cons.1 ho.nd
  have hnd2 := List.nodup_cons.1 hnd1.2
  have hQF : h.nF ≠ h.nQ := fun e => hnd1.1 (by rw [e]; simp)
  have hF' : σ' h.nF = σ h.nF := by rw [hσ, if_neg hQF, if_neg (fun e => hm2.2.1 e.symm), if_neg (fun e => he2.2.1 e.symm)]
  have hcl : Cl ns σ' := (closedSt_iff _ _ _).2 fun n hn row hr => by
    rw [hσ] at hr
    split at hr
    · cases hr; exact qbox_closed (ho.sub _ (by simp))
    · split at hr
      · cases hr; exact box_closed ns k5
      · split at hr
        · cases hr; rfl
        · exact ho.cl.at hn hr
  have hE0 : ∀ x ∈ h.es, x.nm ≠ h.nQ ∧ x.nm ≠ nm2 ∧ x.nm ≠ e.nm := fun x hx => by
    have hx2 : x.nm ∈ h.es.map QE.nm := List.mem_map.2 ⟨x, hx, rfl⟩
    exact ⟨fun k => hnd1.1 (by rw [← k]; simp [hx2]), fun k => hm2.2.2 (k ▸ hx2), fun k => he2.2.2 (k ▸ hx2)⟩
  refine ⟨⟨?_, ?_, k1, ?_, ?_, fun i x hx => ?_, fun x hx => ?_, fun i x hx => ?_, ?_, fun n hn => ?_, k5, hcl, fun n hn => ?_⟩, hF'⟩
  · show σ' h.nQ = .box (.tag h.bq [.rsl b2 (h.es ++ [e.at' h.es.length]).length c2, .mp h.nF, .int .i64 h.time])
    rw [List.length_append, List.length_singleton, hσ, if_pos rfl]
  · show σ' nm2 = _
    rw [hσ, if_neg hm2.1, if_pos rfl]
  · show (h.es ++ [e.at' h.es.length]).length ≤ c2
    rw [List.length_append, List.length_singleton]
    exact k2
  · show (h.es ++ [e.at' h.es.length]).length ≤ _
    rw [List.length_append, List.length_singleton]
    omega
  · have hx : (h.es ++ [e.at' h.es.length])[i]? = some x := hx
    show l2[i]? = _
    by_cases c : i < h.es.length
    · rw [List.getElem?_append_left c] at hx
      exact k3 i x hx
    · rw [List.getElem?_append_right (by omega)] at hx
      have hi : i = h.es.length := by have := get_lt hx; simp at this; omega
      subst hi
      rw [Nat.sub_self] at hx
      cases hx
      exact k4
  · rcases List.mem_append.1 hx with hx | hx
    · obtain ⟨q1, q2, q3⟩ := hE0 x hx
      rw [hσ, if_neg q1, if_neg q2, if_neg q3]
      exact ho.hE x hx
    · rw [List.mem_singleton.1 hx]
      show σ' e.nm = _
      rw [hσ, if_neg he2.1, if_neg (fun k => hm3 k.symm), if_pos rfl]
      rfl
  · have hx : (h.es ++ [e.at' h.es.length])[i]? = some x := hx
    by_cases c : i < h.es.length
    · rw [List.getElem?_append_left c] at hx
      exact ho.hat i x hx
    · rw [List.getElem?_append_right (by omega)] at hx
      have hi : i = h.es.length := by have := get_lt hx; simp at this; omega
      subst hi
      rw [Nat.sub_self] at hx
      cases hx
      rfl
  · show (h.nQ :: nm2 :: h.nF :: (h.es ++ [e.at' h.es.length]).map QE.nm).Nodup
    have e1 : (h.es ++ [e.at' h.es.length]).map QE.nm = h.es.map QE.nm ++ [e.nm] := by rw [List.map_append]; rfl
    rw [e1]
    have hn3 : (h.es.map QE.nm ++ [e.nm]).Nodup := List.nodup_append.2 ⟨hnd2.2, by simp, fun a ha b hb => by rw [List.mem_singleton.1 hb]; exact fun k => he2.2.2 (k ▸ ha)⟩
    refine List.nodup_cons.2 ⟨?_, List.nodup_cons.2 ⟨?_, List.nodup_cons.2 ⟨?_, hn3⟩⟩⟩
    · simp only [List.mem_cons, List.mem_append, List.not_mem_nil, or_false, not_or]
      exact ⟨fun k => hm2.1 k.symm, fun k => hQF k.symm, fun k => hnd1.1 (List.mem_cons_of_mem _ k), fun k => he2.1 k.symm⟩
    · simp only [List.mem_cons, List.mem_append, List.not_mem_nil, or_false, not_or]
      exact ⟨hm2.2.1, hm2.2.2, hm3⟩
    · simp only [List.mem_cons, List.mem_append, List.not_mem_nil, or_false, not_or]
      exact ⟨hnd2.1, fun k => he2.2.1 k.symm⟩
  · have hn : n ∈ h.nQ :: nm2 :: h.nF :: (h.es ++ [e.at' h.es.length]).map QE.nm := hn
    simp only [List.mem_cons, List.map_append, List.mem_append, List.map_nil, List.map_cons, List.not_mem_nil, or_false] at hn
    rcases hn with rfl | rfl | rfl | hn | rfl
    · exact ho.sub _ (by simp)
    · exact hm1
    · exact ho.sub _ (by simp)
    · exact ho.sub n (by simp only [List.mem_cons]; exact .inr (.inr hn))
    · exact he1
  · rw [hσ] at hn
    split at hn
    · rename_i c; rw [c]; exact ho.sub _ (by simp)
    · split at hn
      · rename_i c; rw [c]; exact hm1
      · split at hn
        · rename_i c; rw [c]; exact he1
        · exact ho.out n hn
theorem HOk.pop (ho : HOk ns σ h) {es : List QE} {e : QE} (hs : h.es = es ++ [e]) {σ' : Store} (hσ : ∀ n, σ' n = if n = h.nQ then .box (.tag h.bq [.rsl h.bh es.length h.cap, .mp h.nF, .int .i64 h.time]) else σ n) :
    HOk ns σ' { h with es := es } ∧ σ' h.nF = σ h.nF ∧ σ' e.nm = .box (.tag e.b e.cells) := by
  have hl : h.es.length = es.length + 1 := by rw [hs]; simp
  have hsub : ∀ x ∈ es, x ∈ h.es := fun x hx => by rw [hs]; exact List.mem_append_left _ hx
  have hget : ∀ (i : Nat) x, es[i]? = some x → h.es[i]? = some x := fun i x hx => by rw [hs, List.getElem?_append_left (get_lt hx)]; exact hx
  have he : e ∈ h.es := by rw [hs]; simp
  have hF' : σ' h.nF = σ h.nF := by rw [hσ, if_neg (fun k => ho.QF k.symm)]
  have hnm : h.names = h.nQ :: h.nH :: h.nF :: (es.map QE.nm ++ [e.nm]) := by unfold HS.names; rw [hs, List.map_append]; rfl
  have hsl : (HS.names { h with es := es }).Sublist h.names := by
    rw [hnm]
    show (h.nQ :: h.nH :: h.nF :: es.map QE.nm).Sublist _
    exact (((List.sublist_append_left _ _).cons_cons _).cons_cons _).cons_cons _
  refine ⟨⟨?_, ?_, ho.hbl, ?_, ?_, fun i x hx => ho.ht i x (hget i x hx), fun x hx => ?_, fun i x hx => ho.hat i x (hget i x hx), hsl.nodup ho.nd, fun n hn => ho.sub n (hsl.subset hn), ho.pur, ?_, fun n hn => ?_⟩, hF', ?_⟩
  · show σ' h.nQ = _
    rw [hσ, if_pos rfl]
  · show σ' h.nH = _
    rw [hσ, if_neg (fun k => ho.QH k.symm)]
    exact ho.hH
  · show es.length ≤ h.cap
    have := ho.hle; omega
  · show es.length ≤ _
    have := ho.hsz; omega
  · rw [hσ, if_neg (fun k => ho.EQ (hsub x hx) k.symm)]
    exact ho.hE x (hsub x hx)
  · refine (closedSt_iff _ _ _).2 fun n hn row hr => ?_
    rw [hσ] at hr
    split at hr
    · cases hr; exact qbox_closed ho.inF
    · exact ho.cl.at hn hr
  · rw [hσ] at hn
    split at hn
    · rename_i c; rw [c]; exact ho.inQ
    · exact ho.out n hn
  · rw [hσ, if_neg (fun k => ho.EQ he k.symm)]
    exact ho.hE e he
end
end Hm
end
section
namespace Hm
open Go
set_option maxRecDepth 100000
set_option maxHeartbeats 2000000
section
variable {G : Type} {P : Program} {H : HT G} {pn : List Nat} {Q : Exit → Env → Store → G → Prop} {fs : List (Frm G)} {ρ : Env} {σ : Store} {g : G} {r : List GItem} {dst : Option Nat}
theorem i_dMn (ns : List Nat) {name : String} {x : Opd} {args : List Opd} {t fid : Nat} {pr : Bool} {v0 u : V} {us : List V} (hx : ev ρ x = .ifv t v0) (hm : methF P t name = some (fid, pr)) (hr : recv σ pr v0 u) (has : fzL (args.map (ev ρ)) = some us)
    (hcl : closedL ns (u :: us) = true) (hcs : Cl ns σ) (ho : ∀ nm, σ nm ≠ .unused → nm ∈ ns) {K : V → Store → G → Prop} (hc : Cc P H fid (u :: us) ns σ g K) (hK : ∀ v σ' g', K v σ' g' → ∀ nm, σ' nm ≠ .unused → nm ∈ ns)
    (h : ∀ v σ' g', K v σ' g' → WI P H pn Q fs r (put ρ dst v) σ' g') : WI P H pn Q fs (.op dst none (.callM .d name x args) :: r) ρ σ g :=
  i_dM ns hx hm hr has hcl hcs (by rw [restr_all ho]; exact hc) fun v σ' g' hk => by rw [merge_all ho (hK v σ' g' hk)]; exact h v σ' g' hk
theorem i_cdn (ns : List Nat) {f : Opd} {args : List Opd} {fid : Nat} {us : List V} (hf : calv ρ f args = some (fid, us)) (hcl : closedL ns us = true) (hcs : Cl ns σ) (ho : ∀ nm, σ nm ≠ .unused → nm ∈ ns) {K : V → Store → G → Prop} (hc : Cc P H fid us ns σ g K)
    (hK : ∀ v σ' g', K v σ' g' → ∀ nm, σ' nm ≠ .unused → nm ∈ ns) (h : ∀ v σ' g', K v σ' g' → WI P H pn Q fs r (put ρ dst v) σ' g') : WI P H pn Q fs (.op dst none (.call .d f args) :: r) ρ σ g :=
  i_cd ns hf hcl hcs (by rw [restr_all ho]; exact hc) fun v σ' g' hk => by rw [merge_all ho (hK v σ' g' hk)]; exact h v σ' g' hk
end
abbrev tO : Nat := 125
abbrev tE : Nat := 120
theorem m_Len : methF Go.Proofs.Try.prog tO "Len" = some (113, false) := by kernel_rfl
theorem m_Less : methF Go.Proofs.Try.prog tO "Less" = some (114, false) := by kernel_rfl
theorem m_Swap : methF Go.Proofs.Try.prog tO "Swap" = some (115, false) := by kernel_rfl
theorem m_Push : methF Go.Proofs.Try.prog tO "Push" = some (117, true) := by kernel_rfl
theorem m_Pop : methF Go.Proofs.Try.prog tO "Pop" = some (116, true) := by kernel_rfl
theorem ups3 (σ : Store) (a b c : Nat) (x y z : Blk) (n : Nat) : ups (ups (ups σ a x) b y) c z n = if n = c then z else if n = b then y else if n = a then x else σ n := by simp only [upt_if]
def Pushed (ns : List Nat) (σ : Store) (q : HS) (e : QE) (σ' : Store) : Prop := ∃ h', HOk ns σ' h' ∧ h'.nQ = q.nQ ∧ h'.bq = q.bq ∧ h'.nF = q.nF ∧ h'.time = q.time ∧ h'.es = q.es ++ [e.at' q.es.length] ∧ σ' q.nF = σ q.nF
def c_openlist_order_uint32_Push : Cmd :=
 (qS [qm 5 1, qq 6 (.tass 120 (.t 5)), qm 4 6]
 (qS [qm 7 4, qm 8 0, qq 9 (.nilck (.t 8)), ql 10 1 9, qn 11 10, qq 12 (.nilck (.t 7)), qf 13 3 12, qs 1 13 11]
 (.ops [qm 14 0, qm 15 0, qq 16 (.nilck (.t 15)), ql 17 1 16, qm 18 4, qq 19 (.bsl 1 [.t 18]), qq 20 (.appR 1 8 120 (.t 17) (.t 19)), qq 21 (.nilck (.t 14)), qs 1 21 20])))
def r_openlist_order_uint32_Push : List RVar := []
def n_openlist_order_uint32_Push : Nat := 22
theorem k_openlist_order_uint32_Push : chkFn Go.Proofs.Try.prog 117 n_openlist_order_uint32_Push r_openlist_order_uint32_Push c_openlist_order_uint32_Push = true := by kernel_rfl
theorem ct_PushM {G : Type} {H : HT G} {g : G} {ns : List Nat} {σ : Store} {q : HS} (ha : HAny ns σ q) (hlen : q.es.length < 1000000) {e : QE} (he : σ e.nm = .box (.tag e.b e.cells)) (he1 : e.nm ∈ ns) (he2 : e.nm ∉ q.names) {f : Nat} (hf1 : f ∈ ns) (hfF : f ≠ q.nF) (hf4 : σ f = .unused) (hf5 : f < 1000000000000) :
    Cc Go.Proofs.Try.prog H 117 [.raw q.bq 0, .ifv tE (.raw e.b 0)] ns σ g fun v σ' g' => Pushed ns σ q e σ' ∧ g' = g := by
  have hb := ha.base
  have hne : e.nm ≠ q.nQ ∧ e.nm ≠ q.nH ∧ e.nm ≠ q.nF ∧ e.nm ∉ q.es.map QE.nm := by
    simp only [HS.names, List.mem_cons, not_or] at he2
    exact he2
  have he3 : e.nm ∉ q.nm2 := by
    simp only [HS.nm2, List.mem_cons, not_or]
    exact ⟨hne.1, hne.2.2.1, hne.2.2.2⟩
  have hfe : f ≠ e.nm := fun k => by rw [k, he] at hf4; cases hf4
  refine CT.step _ mixed k_openlist_order_uint32_Push hb.out fun hM => ?_
  rcases ha with ho | hz
  · have hfQ : f ≠ q.nQ := fun k => by rw [k, ho.hQ] at hf4; cases hf4
    have hfH : f ≠ q.nH := fun k => by rw [k, ho.hH] at hf4; cases hf4
    have hfE : f ∉ q.es.map QE.nm := fun hm => by
      obtain ⟨x, hx, rfl⟩ := List.mem_map.1 hm
      rw [ho.hE x hx] at hf4; cases hf4
    have hle := ho.hle
    have hl1 : q.box.length = q.cap * 1 := by rw [Nat.mul_one]; exact ho.hbl
    repeat' (first | refine i_s rfl ?_ | refine sw ?_ | refine i_tas rfl ?_ | refine i_ldr q.nQ rfl ho.hQ rfl ?_)
    refine i_str e.nm rfl he rfl ?_
    repeat (first | refine i_s rfl ?_ | refine sw ?_)
    refine i_ldr q.nQ rfl ((upt_ne _ _ (fun k => hne.1 k.symm)).trans ho.hQ) rfl ?_
    repeat refine i_s rfl ?_
    refine i_ap1 q.nH f rfl rfl ⟨rfl, rfl⟩ (by decide) (by omega) ((upt_ne _ _ (fun k => hne.2.1 k.symm)).trans ho.hH) hl1 ho.hle ((upt_ne _ _ hfe).trans hf4) hf5 (fun nm2 b2 c2 l2 k0 k1 k2 k3 k4 k5 => ?_)
    rw [Nat.mul_one] at k1 k3 k4
    repeat refine i_s rfl ?_
    have hQ2 : nm2 ≠ q.nQ := by
      rcases k0 with k0 | k0
      · rw [k0]; exact fun k => ho.QH k.symm
      · rw [k0]; exact hfQ
    refine i_str q.nQ rfl ((upt_ne _ _ (fun k => hQ2 k.symm)).trans ((upt_ne _ _ (fun k => hne.1 k.symm)).trans ho.hQ)) rfl ?_
    repeat refine sw ?_
    obtain ⟨p1, p2⟩ := hb.push hlen he1 he3 (nm2 := nm2) (b2 := b2) (c2 := c2) (l2 := l2) (by rcases k0 with k0 | k0 <;> rw [k0]; exact ho.inH; exact hf1) (by
        simp only [HS.nm2, List.mem_cons, not_or]
        rcases k0 with k0 | k0 <;> rw [k0]
        · exact ⟨fun k => ho.QH k.symm, ho.HF, fun hm => by
            obtain ⟨x, hx, k⟩ := List.mem_map.1 hm
            exact ho.EH hx k.symm⟩
        · exact ⟨hfQ, fun k => hfF k, hfE⟩) (by rcases k0 with k0 | k0 <;> rw [k0]; exact fun k => hne.2.1 k.symm; exact hfe) k1 k2 (fun i x hx => by
        have h1 := ho.ht i x hx
        have h2 := get_lt hx
        have h3 := congrArg (fun l => l[i]?) k3
        simp only [List.getElem?_take, if_pos h2] at h3
        exact h3.trans h1) (by
        have h3 := congrArg (fun l => l[0]?) k4
        simp only [List.getElem?_take, List.getElem?_drop] at h3
        simp at h3
        exact h3) (k5 ho.pur (fun u hu => by rw [List.mem_singleton.1 hu]; rfl))
      (fun n => ups3 σ e.nm nm2 q.nQ (.box (.tag e.b (e.at' q.es.length).cells)) (.box (.tag b2 l2)) (.box (.tag q.bq [.rsl b2 (q.es.length + 1) c2, .mp q.nF, .int .i64 q.time])) n)
    exact e_end ⟨rfl, _, rfl, rfl, p1.cl, ⟨_, p1.re, rfl, rfl, rfl, rfl, rfl, (restr_at ho.inF).trans p2⟩, rfl⟩
  · have hes := hz.es
    have hfQ : f ≠ q.nQ := fun k => by rw [k, hz.hQ] at hf4; cases hf4
    have h0 : q.es.length = 0 := by rw [hes]; rfl
    repeat' (first | refine i_s rfl ?_ | refine sw ?_ | refine i_tas rfl ?_ | refine i_ldr q.nQ rfl hz.hQ rfl ?_)
    refine i_str e.nm rfl he rfl ?_
    repeat (first | refine i_s rfl ?_ | refine sw ?_)
    refine i_ldr q.nQ rfl ((upt_ne _ _ (fun k => hne.1 k.symm)).trans hz.hQ) rfl ?_
    repeat refine i_s rfl ?_
    refine i_ap0 f rfl rfl ⟨rfl, rfl⟩ (by decide) ((upt_ne _ _ hfe).trans hf4) hf5 (fun b2 c2 l2 k1 k2 k3 k5 => ?_)
    rw [Nat.mul_one] at k1
    repeat refine i_s rfl ?_
    refine i_str q.nQ rfl ((upt_ne _ _ (fun k => hfQ k.symm)).trans ((upt_ne _ _ (fun k => hne.1 k.symm)).trans hz.hQ)) rfl ?_
    repeat refine sw ?_
    obtain ⟨p1, p2⟩ := hb.push hlen he1 he3 (nm2 := f) (b2 := b2) (c2 := c2) (l2 := l2) hf1 (by
        simp only [HS.nm2, List.mem_cons, not_or, hes]
        exact ⟨hfQ, fun k => hfF k, by simp⟩) hfe k1 (by omega) (fun i x hx => by rw [hes] at hx; simp at hx) (by
        rw [h0]
        have h3 := congrArg (fun l => l[0]?) k3
        simp only [List.getElem?_take] at h3
        simp at h3
        exact h3) (k5 (fun u hu => by rw [List.mem_singleton.1 hu]; rfl))
      (fun n => ups3 σ e.nm f q.nQ (.box (.tag e.b (e.at' q.es.length).cells)) (.box (.tag b2 l2)) (.box (.tag q.bq [.rsl b2 (q.es.length + 1) c2, .mp q.nF, .int .i64 q.time])) n)
    rw [h0] at p1
    exact e_end ⟨rfl, _, rfl, rfl, p1.cl, ⟨_, p1.re, rfl, rfl, rfl, rfl, by rw [h0], (restr_at hz.inF).trans (by rw [h0] at p2; exact p2)⟩, rfl⟩
end Hm
end
section
namespace Hm
open Go
set_option maxRecDepth 100000
set_option maxHeartbeats 4000000
def c_openlist_order_uint32_Pop : Cmd :=
 (qS [qq 2 (.mov (.c (.any)))]
 (qS [qm 5 0, qq 6 (.nilck (.t 5)), ql 7 1 6, qm 3 7]
 (qS [qm 8 3, qm 9 3, qn 10 9, qv 11 .sub [] 10 1, qi 12 1 8 11, ql 13 1 12, qm 4 13]
 (qS [qm 14 0, qm 15 3, qm 16 3, qn 17 16, qv 18 .sub [] 17 1, qq 19 (.slice false 1 (.t 15) none (some (.t 18))), qq 20 (.nilck (.t 14)), qs 1 20 19]
 (.seq (.ops [qm 21 4, qq 22 (.mkifc 120 (.t 21)), qm 2 22]) .ret)))))
def r_openlist_order_uint32_Pop : List RVar := [.tmp 2]
def n_openlist_order_uint32_Pop : Nat := 23
theorem k_openlist_order_uint32_Pop : chkFn Go.Proofs.Try.prog 116 n_openlist_order_uint32_Pop r_openlist_order_uint32_Pop c_openlist_order_uint32_Pop = true := by kernel_rfl
theorem ct_PopM {G : Type} {H : HT G} {g : G} {ns : List Nat} {σ : Store} {q : HS} (ho : HOk ns σ q) {es : List QE} {e : QE} (hs : q.es = es ++ [e]) :
    Cc Go.Proofs.Try.prog H 116 [.raw q.bq 0] ns σ g fun v σ' g' => (v = .ifv tE (.raw e.b 0) ∧ HOk ns σ' { q with es := es } ∧ σ' q.nF = σ q.nF ∧ σ' e.nm = .box (.tag e.b e.cells)) ∧ g' = g := by
  have hl : q.es.length = es.length + 1 := by rw [hs]; simp
  have hsz := ho.hsz
  have e1 : ((q.es.length : Nat) : Int) - 1 = (es.length : Nat) := by omega
  have hge : q.es[es.length]? = some e := by rw [hs]; simp
  have bi := ho.ht es.length e hge
  have he : e ∈ q.es := mem_get hge
  refine CT.step _ mixed k_openlist_order_uint32_Pop ho.out fun hM => ?_
  repeat' (first | refine i_s rfl ?_ | refine sw ?_ | refine jb rfl rfl ?_ | refine i_ldr q.nQ rfl ho.hQ rfl ?_)
  rw [e1]
  refine i_irs rfl rfl (by omega) (by omega) ?_
  refine i_ldr q.nH rfl ho.hH (ldx bi rfl) ?_
  repeat' (first | refine i_s rfl ?_ | refine sw ?_ | refine jb rfl rfl ?_ | fail)
  rw [e1]
  refine i_slr rfl rfl rfl (by omega) (by omega) ?_
  rw [Int.toNat_natCast]
  repeat refine i_s rfl ?_
  refine i_str q.nQ rfl ho.hQ rfl ?_
  repeat' (first | refine i_s rfl ?_ | refine sw ?_ | refine i_ifc rfl ?_)
  obtain ⟨p1, p2, p3⟩ := ho.pop hs (σ' := ups σ q.nQ (.box (.tag q.bq [.rsl q.bh es.length q.cap, .mp q.nF, .int .i64 q.time]))) (fun n => upt_if _ _ _ n)
  exact e_ret ⟨rfl, _, rfl, rfl, p1.cl, ⟨rfl, p1.re, (restr_at ho.inF).trans p2, (restr_at (ho.inE he)).trans p3⟩, rfl⟩
def c_container_heap_up : Cmd :=
 (.block 0 (.loop (.block 1 (qS [qm 5 1, qv 6 .sub [] 5 1, qv 7 .quo [] 6 2, qm 4 7]
 (qT (qS [qm 8 4, qm 9 1, qu 10 .eql [.i] 8 9, qm 11 10, qg 12 11 false (.mov (.t 0)), qg 13 11 false (.mov (.t 1)), qg 14 11 false (.mov (.t 4)), qg 15 11 false (.callM .d "Less" (.t 12) [.t 13, .t 14]), qg 16 11 false (.not (.t 15)), qq 17 (.pick (.t 11) (.c (.bool true)) (.t 16))]
 (.cond (.t 17) (.exit 0) .skip))
 (qS [qm 18 0, qm 19 4, qm 20 1, qq 21 (.callM .d "Swap" (.t 18) [.t 19, .t 20])]
 (.ops [qm 22 4, qm 1 22])))))))
def r_container_heap_up : List RVar := []
def n_container_heap_up : Nat := 23
theorem k_container_heap_up : chkFn Go.Proofs.Try.prog 72 n_container_heap_up r_container_heap_up c_container_heap_up = true := by kernel_rfl
theorem ct_up {G : Type} {H : HT G} {g : G} {ns : List Nat} {σ : Store} {q : HS} (ho : HOk ns σ q) (j : Nat) (hj : j < q.es.length) :
    Cc Go.Proofs.Try.prog H 72 [.ifv tO (.raw q.bq 0), .int .i64 j] ns σ g fun v σ' g' => (∃ q', HOk ns σ' q' ∧ Same σ q σ' q') ∧ g' = g := by
  refine CT.step _ mixed k_container_heap_up ho.out fun hM => ?_
  repeat refine sw ?_
  refine c_lp (fun u : Store × HS × Nat => [(0, .ifv tO (.raw u.2.1.bq 0)), (1, .int .i64 u.2.2)]) (fun u => lsn ns u.1) (fun u => HOk ns u.1 u.2.1 ∧ Same σ q u.1 u.2.1 ∧ u.2.2 < u.2.1.es.length) (fun u => u.2.2) (σ, q, j) ⟨ho, Same.refl _ _, hj⟩
    (fit_ns ⟨rfl, rfl, trivial⟩ (fun _ _ => rfl) rfl ho.cl (fun n hn => hn)) fun u hu => ?_
  obtain ⟨σ1, q1, k⟩ := u
  obtain ⟨ho1, hs1, hk⟩ := hu
  dsimp only at ho1 hs1 hk
  clear hj
  have hsz := ho1.hsz
  show WC _ _ _ _ _ _ _ (stOf (lsn ns σ1)) _
  rw [stOf_lsn, restr_all ho1.out]
  have hdiv : ((k : Int) - 1).tdiv 2 = ((k - 1) / 2 : Nat) := by
    cases k with
    | zero => rfl
    | succ k =>
      rw [show ((k + 1 : Nat) : Int) - 1 = (k : Nat) by omega, show k + 1 - 1 = k by omega]
      rfl
  repeat (first | refine i_s rfl ?_ | refine sw ?_ | refine jb rfl rfl ?_)
  refine i_quo rfl rfl (by decide) (by rw [hdiv]; simp only [InR]; omega) ?_
  rw [hdiv]
  repeat (first | refine i_s rfl ?_ | refine sw ?_)
  refine i_g rfl (fun hne => ?_) (fun heq => ?_)
  · have hlt : (k - 1) / 2 < k := by
      have : ¬ ((((k - 1) / 2 : Nat) : Int) = (k : Int)) := by simpa using hne
      omega
    repeat (first | refine i_s rfl ?_ | refine i_gt rfl ?_)
    refine i_dMn ns rfl m_Less ⟨_, _, _, _, rfl, ho1.hQ, rfl⟩ rfl rfl ho1.cl ho1.out (ct_Less ho1 k ((k - 1) / 2) hk (by omega)) (fun v σ' g' h => by rw [h.2.1]; exact ho1.out) ?_
    rintro v σ' g' ⟨⟨b, rfl⟩, rfl, rfl⟩
    cases b with
    | false =>
      repeat' (first | refine i_s rfl ?_ | refine sw ?_ | refine i_gt rfl ?_ | refine c_t rfl ?_)
      exact e_end ⟨rfl, _, rfl, rfl, ho1.cl, ⟨_, ho1.re, hs1.re ho1⟩, rfl⟩
    | true =>
      repeat (first | refine i_s rfl ?_ | refine sw ?_ | refine i_gt rfl ?_ | refine c_f rfl ?_)
      refine i_dMn ns rfl m_Swap ⟨_, _, _, _, rfl, ho1.hQ, rfl⟩ rfl rfl ho1.cl ho1.out (ct_Swap ho1 ((k - 1) / 2) k (by omega) hk) (fun v σ' g' h => by obtain ⟨⟨_, h, _⟩, _⟩ := h; exact h.out) ?_
      rintro v σ2 g' ⟨⟨q2, ho2, hs2⟩, rfl⟩
      repeat (first | refine i_s rfl ?_ | refine sw ?_)
      exact e_lp (σ2, q2, (k - 1) / 2) ⟨ho2, hs1.trans hs2, by show (k - 1) / 2 < q2.es.length; rw [hs2.len]; omega⟩ hlt (fit_ns ⟨by rw [hs2.bq]; rfl, rfl, trivial⟩ (fun _ _ => rfl) rfl ho2.cl (fun n hn => hn))
  · repeat' (first | refine i_s rfl ?_ | refine sw ?_ | refine i_gf rfl ?_ | refine c_t rfl ?_)
    exact e_end ⟨rfl, _, rfl, rfl, ho1.cl, ⟨_, ho1.re, hs1.re ho1⟩, rfl⟩
def c_container_heap_down : Cmd :=
 (qS [qb 6 false]
 (qS [qm 11 1, qm 7 11]
 (qT (.block 0 (.loop (.block 1 (qS [qm 12 7, qq 13 (.bin .mul false [] (.c (.int .i64 2)) (.t 12)), qv 14 .add [] 13 1, qm 8 14]
 (qT (qS [qm 15 8, qm 16 2, qu 17 .geq [] 15 16, qm 18 17, qg 19 18 false (.mov (.t 8)), qg 20 18 false (.bin .lss false [] (.t 19) (.c (.int .i64 0))), qq 21 (.pick (.t 18) (.c (.bool true)) (.t 20))]
 (.cond (.t 21) (.exit 0) .skip))
 (qS [qm 22 8, qm 9 22]
 (qT (qS [qm 23 8, qv 24 .add [] 23 1, qm 10 24]
 (qS [qm 25 10, qm 26 2, qu 27 .lss [] 25 26, qm 28 27, qg 29 28 true (.mov (.t 0)), qg 30 28 true (.mov (.t 10)), qg 31 28 true (.mov (.t 8)), qg 32 28 true (.callM .d "Less" (.t 29) [.t 30, .t 31]), qq 33 (.pick (.t 28) (.t 32) (.c (.bool false)))]
 (.cond (.t 33) (.ops [qm 34 10, qm 9 34]) .skip)))
 (qT (qS [qm 35 0, qm 36 9, qm 37 7, qq 38 (.callM .d "Less" (.t 35) [.t 36, .t 37]), qq 39 (.not (.t 38))]
 (.cond (.t 39) (.exit 0) .skip))
 (qS [qm 40 0, qm 41 7, qm 42 9, qq 43 (.callM .d "Swap" (.t 40) [.t 41, .t 42])]
 (.ops [qm 44 9, qm 7 44]))))))))))
 (.seq (.ops [qm 45 7, qm 46 1, qu 47 .gtr [] 45 46, qm 6 47]) .ret))))
def r_container_heap_down : List RVar := [.tmp 6]
def n_container_heap_down : Nat := 48
theorem k_container_heap_down : chkFn Go.Proofs.Try.prog 71 n_container_heap_down r_container_heap_down c_container_heap_down = true := by kernel_rfl
theorem ct_down {G : Type} {H : HT G} {g : G} {ns : List Nat} {σ : Store} {q : HS} (ho : HOk ns σ q) (i n : Nat) (hi : i < q.es.length) (hn : n ≤ q.es.length) :
    Cc Go.Proofs.Try.prog H 71 [.ifv tO (.raw q.bq 0), .int .i64 i, .int .i64 n] ns σ g fun v σ' g' => (∃ b, v = .bool b) ∧ (∃ q', HOk ns σ' q' ∧ Same σ q σ' q') ∧ g' = g := by
  refine CT.step _ mixed k_container_heap_down ho.out fun hM => ?_
  repeat (first | refine i_s rfl ?_ | refine sw ?_)
  refine c_lp (fun u : Store × HS × Nat => [(0, .ifv tO (.raw u.2.1.bq 0)), (1, .int .i64 i), (2, .int .i64 n), (7, .int .i64 u.2.2)]) (fun u => lsn ns u.1) (fun u => HOk ns u.1 u.2.1 ∧ Same σ q u.1 u.2.1 ∧ u.2.2 < u.2.1.es.length ∧ n ≤ u.2.1.es.length) (fun u => q.es.length - u.2.2) (σ, q, i) ⟨ho, Same.refl _ _, hi, hn⟩
    (fit_ns ⟨rfl, rfl, rfl, rfl, trivial⟩ (fun _ _ => rfl) rfl ho.cl (fun n hn => hn)) fun u hu => ?_
  obtain ⟨σ1, q1, k⟩ := u
  obtain ⟨ho1, hs1, hk, hn1⟩ := hu
  dsimp only at ho1 hs1 hk hn1
  have hsz := ho1.hsz
  have hlen := hs1.len
  show WC _ _ _ _ _ _ _ (stOf (lsn ns σ1)) _
  rw [stOf_lsn, restr_all ho1.out]
  have e1 : (2 : Int) * (k : Int) + 1 = (2 * k + 1 : Nat) := by omega
  have e2 : ((2 * k + 1 : Nat) : Int) + 1 = (2 * k + 2 : Nat) := by omega
  repeat (first | refine i_s rfl ?_ | refine sw ?_)
  refine i_mul rfl rfl (by simp only [InR]; omega) ?_
  refine i_add rfl rfl (by simp only [InR]; omega) ?_
  rw [e1]
  have fin : ∀ (b : Bool), ∃ q', HOk ns (restr ns σ1) q' ∧ Same σ q (restr ns σ1) q' := fun _ => ⟨_, ho1.re, hs1.re ho1⟩
  repeat (first | refine i_s rfl ?_ | refine sw ?_)
  refine i_g rfl (fun hlt => ?_) (fun hge => ?_)
  rotate_left
  · repeat' (first | refine i_s rfl ?_ | refine sw ?_ | refine i_gf rfl ?_ | refine c_t rfl ?_)
    exact e_ret ⟨rfl, _, rfl, rfl, ho1.cl, ⟨_, rfl⟩, fin true, rfl⟩
  have hlt : 2 * k + 1 < n := by
    have : ¬ (((2 * k + 1 : Nat) : Int) ≥ (n : Int)) := by simpa using hlt
    omega
  have hnn : decide (((2 * k + 1 : Nat) : Int) < 0) = false := decide_eq_false (by omega)
  repeat (first | refine i_s rfl ?_ | refine sw ?_ | refine i_gt rfl ?_ | refine c_f rfl ?_ | refine ja rfl rfl ?_)
  rw [hnn]
  skip
  rw [e2]
  skip
  refine i_g rfl (fun h2 => ?_) (fun h2 => ?_)
  · have h2 : 2 * k + 2 < n := by
      have : ((2 * k + 2 : Nat) : Int) < (n : Int) := by simpa using h2
      omega
    repeat (first | refine i_s rfl ?_ | refine i_gt rfl ?_)
    refine i_dMn ns rfl m_Less ⟨_, _, _, _, rfl, ho1.hQ, rfl⟩ rfl rfl ho1.cl ho1.out (ct_Less ho1 (2 * k + 2) (2 * k + 1) (by omega) (by omega)) (fun v σ' g' h => by rw [h.2.1]; exact ho1.out) ?_
    rintro v σ' g' ⟨⟨b, rfl⟩, rfl, rfl⟩
    cases b
    all_goals
      repeat (first | refine i_s rfl ?_ | refine sw ?_ | refine c_t rfl ?_ | refine c_f rfl ?_)
      refine i_dMn ns rfl m_Less ⟨_, _, _, _, rfl, ho1.hQ, rfl⟩ rfl rfl ho1.cl ho1.out (ct_Less ho1 _ k (by omega) (by omega)) (fun v σ' g' h => by rw [h.2.1]; exact ho1.out) ?_
      rintro v σ' g' ⟨⟨b, rfl⟩, rfl, rfl⟩
      cases b with
      | false =>
        repeat' (first | refine i_s rfl ?_ | refine sw ?_ | refine c_t rfl ?_)
        exact e_ret ⟨rfl, _, rfl, rfl, ho1.cl, ⟨_, rfl⟩, fin true, rfl⟩
      | true =>
        repeat (first | refine i_s rfl ?_ | refine sw ?_ | refine c_f rfl ?_)
        refine i_dMn ns rfl m_Swap ⟨_, _, _, _, rfl, ho1.hQ, rfl⟩ rfl rfl ho1.cl ho1.out (ct_Swap ho1 k _ hk (by omega)) (fun v σ' g' h => by obtain ⟨⟨_, h, _⟩, _⟩ := h; exact h.out) ?_
        rintro v σ2 g' ⟨⟨q2, ho2, hs2⟩, rfl⟩
        have hl2 := hs2.len
        repeat (first | refine i_s rfl ?_ | refine sw ?_)
        first
          | exact e_lp (σ2, q2, 2 * k + 1) ⟨ho2, hs1.trans hs2, by show 2 * k + 1 < q2.es.length; omega, by show n ≤ q2.es.length; omega⟩ (by show q.es.length - (2 * k + 1) < q.es.length - k; omega) (fit_ns ⟨by rw [hs2.bq]; rfl, rfl, rfl, rfl, trivial⟩ (fun _ _ => rfl) rfl ho2.cl (fun n hn => hn))
          | exact e_lp (σ2, q2, 2 * k + 2) ⟨ho2, hs1.trans hs2, by show 2 * k + 2 < q2.es.length; omega, by show n ≤ q2.es.length; omega⟩ (by show q.es.length - (2 * k + 2) < q.es.length - k; omega) (fit_ns ⟨by rw [hs2.bq]; rfl, rfl, rfl, rfl, trivial⟩ (fun _ _ => rfl) rfl ho2.cl (fun n hn => hn))
  · repeat (first | refine i_s rfl ?_ | refine sw ?_ | refine i_gf rfl ?_ | refine c_f rfl ?_)
    refine i_dMn ns rfl m_Less ⟨_, _, _, _, rfl, ho1.hQ, rfl⟩ rfl rfl ho1.cl ho1.out (ct_Less ho1 (2 * k + 1) k (by omega) (by omega)) (fun v σ' g' h => by rw [h.2.1]; exact ho1.out) ?_
    rintro v σ' g' ⟨⟨b, rfl⟩, rfl, rfl⟩
    cases b with
    | false =>
      repeat' (first | refine i_s rfl ?_ | refine sw ?_ | refine c_t rfl ?_)
      exact e_ret ⟨rfl, _, rfl, rfl, ho1.cl, ⟨_, rfl⟩, fin true, rfl⟩
    | true =>
      repeat (first | refine i_s rfl ?_ | refine sw ?_ | refine c_f rfl ?_)
      refine i_dMn ns rfl m_Swap ⟨_, _, _, _, rfl, ho1.hQ, rfl⟩ rfl rfl ho1.cl ho1.out (ct_Swap ho1 k (2 * k + 1) hk (by omega)) (fun v σ' g' h => by obtain ⟨⟨_, h, _⟩, _⟩ := h; exact h.out) ?_
      rintro v σ2 g' ⟨⟨q2, ho2, hs2⟩, rfl⟩
      have hl2 := hs2.len
      repeat (first | refine i_s rfl ?_ | refine sw ?_)
      exact e_lp (σ2, q2, 2 * k + 1) ⟨ho2, hs1.trans hs2, by show 2 * k + 1 < q2.es.length; omega, by show n ≤ q2.es.length; omega⟩ (by show q.es.length - (2 * k + 1) < q.es.length - k; omega) (fit_ns ⟨by rw [hs2.bq]; rfl, rfl, rfl, rfl, trivial⟩ (fun _ _ => rfl) rfl ho2.cl (fun n hn => hn))
def c_container_heap_Fix : Cmd :=
 (qS [qm 4 0, qm 5 1, qm 6 0, qq 7 (.callM .f "Len" (.t 6) []), qq 8 (.call .d (.c (.fn 71 [])) [.t 4, .t 5, .t 7]), qq 9 (.not (.t 8))]
 (.cond (.t 9) (.ops [qm 10 0, qm 11 1, qq 12 (.call .d (.c (.fn 72 [])) [.t 10, .t 11])]) .skip))
def r_container_heap_Fix : List RVar := []
def n_container_heap_Fix : Nat := 13
theorem k_container_heap_Fix : chkFn Go.Proofs.Try.prog 51 n_container_heap_Fix r_container_heap_Fix c_container_heap_Fix = true := by kernel_rfl
theorem ct_Fix {G : Type} {H : HT G} {g : G} {ns : List Nat} {σ : Store} {q : HS} (ho : HOk ns σ q) (i : Nat) (hi : i < q.es.length) :
    Cc Go.Proofs.Try.prog H 51 [.ifv tO (.raw q.bq 0), .int .i64 i] ns σ g fun v σ' g' => (∃ q', HOk ns σ' q' ∧ Same σ q σ' q') ∧ g' = g := by
  refine CT.step _ mixed k_container_heap_Fix ho.out fun hM => ?_
  repeat (first | refine i_s rfl ?_ | refine sw ?_)
  refine i_fM rfl m_Len ⟨_, _, _, _, rfl, ho.hQ, rfl⟩ rfl rfl (f_order_Len _ _ _) rfl ?_
  skip
  refine i_cdn ns rfl rfl ho.cl ho.out (ct_down ho i q.es.length hi (Nat.le_refl _)) (fun v σ' g' h => by obtain ⟨_, ⟨_, h, _⟩, _⟩ := h; exact h.out) ?_
  rintro v σ2 g' ⟨⟨b, rfl⟩, ⟨q2, ho2, hs2⟩, rfl⟩
  have hl2 := hs2.len
  cases b with
  | true =>
    repeat' (first | refine i_s rfl ?_ | refine sw ?_ | refine c_f rfl ?_)
    exact e_end ⟨rfl, _, rfl, rfl, ho2.cl, ⟨_, ho2.re, hs2.re ho2⟩, rfl⟩
  | false =>
    rw [← hs2.bq]
    repeat (first | refine i_s rfl ?_ | refine sw ?_ | refine c_t rfl ?_)
    refine i_cdn ns rfl rfl ho2.cl ho2.out (ct_up ho2 i (by omega)) (fun v σ' g' h => by obtain ⟨⟨_, h, _⟩, _⟩ := h; exact h.out) ?_
    rintro v σ3 g' ⟨⟨q3, ho3, hs3⟩, rfl⟩
    have hs := hs2.trans hs3
    repeat refine sw ?_
    exact e_end ⟨rfl, _, rfl, rfl, ho3.cl, ⟨_, ho3.re, hs.re ho3⟩, rfl⟩
structure Kept (ns : List Nat) (σ : Store) (q : HS) (σ' : Store) (q' : HS) : Prop where
  ok : HOk ns σ' q'
  nQ : q'.nQ = q.nQ
  bq : q'.bq = q.bq
  nF : q'.nF = q.nF
  time : q'.time = q.time
  fm : σ' q.nF = σ q.nF
def c_container_heap_Push : Cmd :=
 (qS [qm 4 0, qm 5 1, qq 6 (.callM .d "Push" (.t 4) [.t 5])]
 (.ops [qm 7 0, qm 8 0, qq 9 (.callM .f "Len" (.t 8) []), qv 10 .sub [] 9 1, qq 11 (.call .d (.c (.fn 72 [])) [.t 7, .t 10])]))
def r_container_heap_Push : List RVar := []
def n_container_heap_Push : Nat := 12
theorem k_container_heap_Push : chkFn Go.Proofs.Try.prog 52 n_container_heap_Push r_container_heap_Push c_container_heap_Push = true := by kernel_rfl
theorem ct_heapPush {G : Type} {H : HT G} {g : G} {ns : List Nat} {σ : Store} {q : HS} (ha : HAny ns σ q) (hlen : q.es.length < 1000000) {e : QE} (he : σ e.nm = .box (.tag e.b e.cells)) (he1 : e.nm ∈ ns) (he2 : e.nm ∉ q.names) {f : Nat} (hf1 : f ∈ ns) (hfF : f ≠ q.nF) (hf4 : σ f = .unused) (hf5 : f < 1000000000000) :
    Cc Go.Proofs.Try.prog H 52 [.ifv tO (.raw q.bq 0), .ifv tE (.raw e.b 0)] ns σ g fun v σ' g' => (∃ q', Kept ns σ q σ' q' ∧ (q'.es.map QE.core).Perm (e.core :: q.es.map QE.core)) ∧ g' = g := by
  have hb := ha.base
  refine CT.step _ mixed k_container_heap_Push hb.out fun hM => ?_
  repeat (first | refine i_s rfl ?_ | refine sw ?_)
  refine i_dMn ns rfl m_Push rfl rfl rfl hb.cl hb.out (ct_PushM ha hlen he he1 he2 hf1 hfF hf4 hf5) (fun v σ' g' h => by obtain ⟨⟨_, h, _⟩, _⟩ := h; exact h.out) ?_
  rintro v σ2 g' ⟨⟨q2, ho2, j1, j2, j3, j4, j5, j6⟩, rfl⟩
  have hl2 : q2.es.length = q.es.length + 1 := by rw [j5]; simp
  have hsz2 := ho2.hsz
  have e1 : ((q2.es.length : Nat) : Int) - 1 = (q.es.length : Nat) := by omega
  rw [← j2]
  repeat (first | refine i_s rfl ?_ | refine sw ?_)
  refine i_fM rfl m_Len ⟨_, _, _, _, rfl, ho2.hQ, rfl⟩ rfl rfl (f_order_Len _ _ _) rfl ?_
  repeat refine jb rfl rfl ?_
  rw [e1]
  skip
  refine i_cdn ns rfl rfl ho2.cl ho2.out (ct_up ho2 q.es.length (by omega)) (fun v σ' g' h => by obtain ⟨⟨_, h, _⟩, _⟩ := h; exact h.out) ?_
  rintro v σ3 g' ⟨⟨q3, ho3, hs3⟩, rfl⟩
  repeat refine sw ?_
  refine e_end ⟨rfl, _, rfl, rfl, ho3.cl, ⟨q3, ⟨ho3.re, hs3.nQ.trans j1, hs3.bq.trans j2, hs3.nF.trans j3, hs3.time.trans j4, (restr_at (hb.sub _ (by simp))).trans ?_⟩, ?_⟩, rfl⟩
  · rw [← j3, hs3.fm, j3, j6]
  · refine hs3.core.trans ?_
    rw [j5, List.map_append]
    exact List.perm_append_comm
def c_container_heap_Pop : Cmd :=
 (qS [qq 2 (.mov (.c (.any)))]
 (qS [qm 4 0, qq 5 (.callM .f "Len" (.t 4) []), qv 6 .sub [] 5 1, qm 3 6]
 (qS [qm 7 0, qm 8 3, qq 9 (.callM .d "Swap" (.t 7) [.c (.int .i64 0), .t 8])]
 (qS [qm 10 0, qm 11 3, qq 12 (.call .d (.c (.fn 71 [])) [.t 10, .c (.int .i64 0), .t 11])]
 (.seq (.ops [qm 13 0, qq 14 (.callM .d "Pop" (.t 13) []), qm 2 14]) .ret)))))
def r_container_heap_Pop : List RVar := [.tmp 2]
def n_container_heap_Pop : Nat := 15
theorem k_container_heap_Pop : chkFn Go.Proofs.Try.prog 54 n_container_heap_Pop r_container_heap_Pop c_container_heap_Pop = true := by kernel_rfl
theorem ct_heapPop {G : Type} {H : HT G} {g : G} {ns : List Nat} {σ : Store} {q : HS} (ho : HOk ns σ q) (hne : q.es ≠ []) :
    Cc Go.Proofs.Try.prog H 54 [.ifv tO (.raw q.bq 0)] ns σ g fun v σ' g' => (∃ (q' : HS) (e : QE), Kept ns σ q σ' q' ∧ (q.es.map QE.core).Perm (e.core :: q'.es.map QE.core) ∧ v = .ifv tE (.raw e.b 0) ∧ σ' e.nm = .box (.tag e.b e.cells) ∧ e.nm ≠ q.nF) ∧ g' = g := by
  have hpos : 0 < q.es.length := List.length_pos_iff.2 hne
  have e1 : ((q.es.length : Nat) : Int) - 1 = (q.es.length - 1 : Nat) := by omega
  have hsz := ho.hsz
  refine CT.step _ mixed k_container_heap_Pop ho.out fun hM => ?_
  repeat (first | refine i_s rfl ?_ | refine sw ?_)
  refine i_fM rfl m_Len ⟨_, _, _, _, rfl, ho.hQ, rfl⟩ rfl rfl (f_order_Len _ _ _) rfl ?_
  repeat (first | refine i_s rfl ?_ | refine sw ?_ | refine jb rfl rfl ?_)
  rw [e1]
  skip
  refine i_dMn ns rfl m_Swap ⟨_, _, _, _, rfl, ho.hQ, rfl⟩ rfl rfl ho.cl ho.out (ct_Swap ho 0 (q.es.length - 1) hpos (by omega)) (fun v σ' g' h => by obtain ⟨⟨_, h, _⟩, _⟩ := h; exact h.out) ?_
  rintro v σ2 g' ⟨⟨q2, ho2, hs2⟩, rfl⟩
  have hl2 := hs2.len
  rw [← hs2.bq]
  repeat (first | refine i_s rfl ?_ | refine sw ?_)
  refine i_cdn ns rfl rfl ho2.cl ho2.out (ct_down ho2 0 (q.es.length - 1) (by omega) (by omega)) (fun v σ' g' h => by obtain ⟨_, ⟨_, h, _⟩, _⟩ := h; exact h.out) ?_
  rintro v σ3 g' ⟨⟨b, rfl⟩, ⟨q3, ho3, hs3⟩, rfl⟩
  have hl3 := hs3.len
  rw [← hs3.bq]
  obtain ⟨es, e, hes⟩ : ∃ es e, q3.es = es ++ [e] := by
    rcases List.eq_nil_or_concat q3.es with h | ⟨l, x, h⟩
    · rw [h] at hl3; simp at hl3; omega
    · exact ⟨l, x, by rw [h, List.concat_eq_append]⟩
  repeat (first | refine i_s rfl ?_ | refine sw ?_)
  refine i_dMn ns rfl m_Pop rfl rfl rfl ho3.cl ho3.out (ct_PopM ho3 hes) (fun v σ' g' h => by obtain ⟨⟨_, h, _⟩, _⟩ := h; exact h.out) ?_
  rintro v σ4 g' ⟨⟨rfl, ho4, j1, j2⟩, rfl⟩
  repeat (first | refine i_s rfl ?_ | refine sw ?_)
  have he : e ∈ q3.es := by rw [hes]; simp
  refine e_ret ⟨rfl, _, rfl, rfl, ho4.cl, ⟨_, e, ⟨ho4.re, hs3.nQ.trans hs2.nQ, hs3.bq.trans hs2.bq, hs3.nF.trans hs2.nF, hs3.time.trans hs2.time, (restr_at ho.inF).trans ?_⟩, ?_, rfl, (restr_at (ho3.inE he)).trans j2, ?_⟩, rfl⟩
  · rw [← hs2.nF, ← hs3.nF, j1, hs3.nF, hs3.fm, hs2.nF, hs2.fm]
  · have := (hs3.core.trans hs2.core).symm
    rw [hes, List.map_append] at this
    exact this.trans List.perm_append_comm
  · rw [← hs2.nF, ← hs3.nF]
    exact fun k => ho3.EF he k.symm
end Hm
end
section
namespace Hm
open Go
abbrev QC := Nat × Nat × W32 × Int
def QC.item (c : QC) : W32 := c.2.2.1
def kvOf (cs : List QC) : List (W32 × Int) := cs.map fun c => (c.2.2.1, c.2.2.2)
structure FMc (F : Int → Option V) (cs : List QC) : Prop where
  here : ∀ c ∈ cs, F (c.2.2.1.toNat : Int) = some (.raw c.2.1 0)
  gone : ∀ x : W32, (∀ c ∈ cs, c.2.2.1 ≠ x) → F (x.toNat : Int) = none
  nd : (cs.map QC.item).Nodup
theorem FMc.perm {F : Int → Option V} {cs cs' : List QC} (h : FMc F cs) (p : cs.Perm cs') : FMc F cs' :=
  ⟨fun c hc => h.here c (p.mem_iff.2 hc), fun x hx => h.gone x fun c hc => hx c (p.mem_iff.1 hc), (p.map QC.item).nodup_iff.1 h.nd⟩
theorem FMc.nil : FMc (fun _ => none) [] := ⟨fun c hc => (by cases hc), fun _ _ => rfl, List.nodup_nil⟩
theorem toNat_eq {x y : W32} (h : (x.toNat : Int) = y.toNat) : x = y := BitVec.eq_of_toNat_eq (Int.ofNat_inj.1 h)
theorem FMc.put {F : Int → Option V} {cs : List QC} (h : FMc F cs) (nm b : Nat) (x : W32) (k : Int) (hx : ∀ c ∈ cs, c.2.2.1 ≠ x) : FMc (fun m => if m = x.toNat then some (.raw b 0) else F m) ((nm, b, x, k) :: cs) := by
  refine ⟨fun c hc => ?_, fun y hy => ?_, List.nodup_cons.2 ⟨fun hm => ?_, h.nd⟩⟩
  · rcases List.mem_cons.1 hc with rfl | hc
    · exact if_pos rfl
    · exact (if_neg fun e => hx c hc (toNat_eq e)).trans (h.here c hc)
  · exact (if_neg fun e => hy (nm, b, x, k) (by simp) (toNat_eq e).symm).trans (h.gone y fun c hc => hy c (by simp [hc]))
  · obtain ⟨c, h1, h2⟩ := List.mem_map.1 hm
    exact hx c h1 h2
theorem FMc.del {F : Int → Option V} {cs : List QC} {c : QC} (h : FMc F (c :: cs)) : FMc (fun m => if m = c.2.2.1.toNat then none else F m) cs := by
  have hn := List.nodup_cons.1 h.nd
  have hne : ∀ d ∈ cs, d.2.2.1 ≠ c.2.2.1 := fun d hd e => hn.1 (List.mem_map.2 ⟨d, hd, e⟩)
  refine ⟨fun d hd => (if_neg fun e => hne d hd (toNat_eq e)).trans (h.here d (by simp [hd])), fun x hx => ?_, hn.2⟩
  by_cases e : x = c.2.2.1
  · exact if_pos (by rw [e])
  · exact (if_neg fun e2 => e (toNat_eq e2)).trans (h.gone x fun d hd => by
      rcases List.mem_cons.1 hd with rfl | hd
      · exact fun e2 => e e2.symm
      · exact hx d hd)
theorem FMc.rekey {F : Int → Option V} {cs : List QC} {nm b : Nat} {x : W32} {k k' : Int} (h : FMc F ((nm, b, x, k) :: cs)) : FMc F ((nm, b, x, k') :: cs) :=
  ⟨fun c hc => by
    rcases List.mem_cons.1 hc with rfl | hc
    · exact h.here (nm, b, x, k) (by simp)
    · exact h.here c (by simp [hc]), fun y hy => h.gone y fun c hc => by
    rcases List.mem_cons.1 hc with rfl | hc
    · exact hy (nm, b, x, k') (by simp)
    · exact hy c (by simp [hc]), h.nd⟩
theorem kv_not {cs : List QC} {x : W32} (h : ∀ c ∈ cs, c.2.2.1 ≠ x) : (kvOf cs).filter (fun p => p.1 != x) = kvOf cs := by
  rw [List.filter_eq_self]
  intro p hp
  obtain ⟨c, h1, rfl⟩ := List.mem_map.1 hp
  simpa using h c h1
theorem kv_filter {cs : List QC} {c : QC} (h : ((c :: cs).map QC.item).Nodup) : (kvOf (c :: cs)).filter (fun p => p.1 != c.2.2.1) = kvOf cs := by
  have hn := List.nodup_cons.1 h
  unfold kvOf
  rw [List.map_cons, List.filter_cons]
  rw [if_neg (by simp)]
  exact kv_not (cs := cs) fun d hd e => hn.1 (List.mem_map.2 ⟨d, hd, e⟩)
section
variable {ns : List Nat} {σ σ' : Store} {q : HS}
theorem HOk.frame (ho : HOk ns σ q) (hs : ∀ n, n = q.nQ ∨ n = q.nH ∨ n ∈ q.es.map QE.nm → σ' n = σ n) (hc : Cl ns σ') (hout : ∀ nm, σ' nm ≠ .unused → nm ∈ ns) : HOk ns σ' q :=
  ⟨(hs _ (.inl rfl)).trans ho.hQ, (hs _ (.inr (.inl rfl))).trans ho.hH, ho.hbl, ho.hle, ho.hsz, ho.ht, fun e he => (hs _ (.inr (.inr (List.mem_map.2 ⟨e, he, rfl⟩)))).trans (ho.hE e he), ho.hat, ho.nd, ho.sub, ho.pur, hc, hout⟩
theorem HZ.frame (hz : HZ ns σ q) (hs : σ' q.nQ = σ q.nQ) (hs2 : σ' q.nH = σ q.nH) (hc : Cl ns σ') (hout : ∀ nm, σ' nm ≠ .unused → nm ∈ ns) : HZ ns σ' q :=
  ⟨hs.trans hz.hQ, hz.es, hz.HH, hs2.trans hz.Hu, hz.QF, hz.inQ, hz.inF, hc, hout⟩
theorem HAny.frame (ha : HAny ns σ q) (hs : ∀ n, n = q.nQ ∨ n = q.nH ∨ n ∈ q.es.map QE.nm → σ' n = σ n) (hc : Cl ns σ') (hout : ∀ nm, σ' nm ≠ .unused → nm ∈ ns) : HAny ns σ' q :=
  ha.imp (fun h => h.frame hs hc hout) (fun h => h.frame (hs _ (.inl rfl)) (hs _ (.inr (.inl rfl))) hc hout)
theorem HAny.box (ha : HAny ns σ q) : ∃ hv : V, σ q.nQ = .box (.tag q.bq [hv, .mp q.nF, .int .i64 q.time]) ∧ pureB hv = true ∧ leafB hv = true ∧ fz hv = some hv := by
  rcases ha with h | h
  · exact ⟨_, h.hQ, rfl, rfl, rfl⟩
  · exact ⟨_, h.hQ, rfl, rfl, rfl⟩
theorem HAny.QF (ha : HAny ns σ q) : q.nQ ≠ q.nF := ha.elim HOk.QF HZ.QF
theorem HAny.inQ (ha : HAny ns σ q) : q.nQ ∈ ns := ha.elim HOk.inQ HZ.inQ
theorem HAny.inF (ha : HAny ns σ q) : q.nF ∈ ns := ha.elim HOk.inF HZ.inF
theorem HAny.clock (ha : HAny ns σ q) (t : Int) {hv : V} (hq : σ q.nQ = .box (.tag q.bq [hv, .mp q.nF, .int .i64 q.time])) : HAny ns (ups σ q.nQ (.box (.tag q.bq [hv, .mp q.nF, .int .i64 t]))) { q with time := t } := by
  rcases ha with h | h
  · rw [h.hQ] at hq
    injection hq with hq
    injection hq with _ hq
    injection hq with hq
    subst hq
    refine .inl ⟨upt_self _ _ _, (upt_ne _ _ fun e => h.QH e.symm).trans h.hH, h.hbl, h.hle, h.hsz, h.ht, fun e he => (upt_ne _ _ fun k => h.EQ he k.symm).trans (h.hE e he), h.hat, h.nd, h.sub, h.pur, h.cl.ups fun row hr => ?_, ups_mem h.out h.inQ⟩
    cases hr
    exact qbox_closed h.inF
  · rw [h.hQ] at hq
    injection hq with hq
    injection hq with _ hq
    injection hq with hq
    subst hq
    refine .inr ⟨upt_self _ _ _, h.es, h.HH, (upt_ne _ _ h.HH.1).trans h.Hu, h.QF, h.inQ, h.inF, h.cl.ups fun row hr => ?_, ups_mem h.out h.inQ⟩
    cases hr
    show (true && (closedB ns (.mp q.nF) && (true && true))) = true
    rw [mem_closed h.inF]
    rfl
theorem HOk.rekey (ho : HOk ns σ q) {i : Nat} {e : QE} (hi : q.es[i]? = some e) (k t : Int) (hσ : ∀ n, σ' n = if n = e.nm then .box (.tag e.b [.int .u32 e.item.toNat, .int .i64 k, .int .i64 t, .int .i64 e.at_]) else σ n) :
    HOk ns σ' { q with es := q.es.set i ⟨e.nm, e.b, e.item, k, t, e.at_⟩ } ∧ σ' q.nF = σ q.nF ∧ ∃ r : List QC, (q.es.map QE.core).Perm ((e.nm, e.b, e.item, e.key) :: r) ∧ ((q.es.set i ⟨e.nm, e.b, e.item, k, t, e.at_⟩).map QE.core).Perm ((e.nm, e.b, e.item, k) :: r) := by
  obtain ⟨e', he'⟩ : ∃ e', e' = (⟨e.nm, e.b, e.item, k, t, e.at_⟩ : QE) := ⟨_, rfl⟩
  rw [← he']
  have hnm : e'.nm = e.nm := by rw [he']
  have me := mem_get hi
  have li := get_lt hi
  have hg : ∀ j : Nat, (q.es.set i e')[j]? = if j = i then some e' else q.es[j]? := fun j => by
    rw [List.getElem?_set]
    by_cases c : j = i
    · subst c; simp [li]
    · rw [if_neg (fun e => c e.symm), if_neg c]
  have hmap : (q.es.set i e').map QE.nm = q.es.map QE.nm := by
    rw [List.map_set, hnm]
    refine List.ext_getElem? fun j => ?_
    rw [List.getElem?_set]
    by_cases c : i = j
    · subst c
      rw [if_pos rfl, if_pos (by simpa using li), List.getElem?_map, hi]
      rfl
    · rw [if_neg c]
  have hnames : HS.names { q with es := q.es.set i e' } = q.names := by
    unfold HS.names
    show q.nQ :: q.nH :: q.nF :: (q.es.set i e').map QE.nm = _
    rw [hmap]
  have hsplit : q.es = q.es.take i ++ e :: q.es.drop (i + 1) := by
    have h1 : q.es.drop i = e :: q.es.drop (i + 1) := by
      rw [List.drop_eq_getElem_cons li]
      congr 1
      exact (List.getElem?_eq_some_iff.1 hi).2
    rw [← h1]
    exact (List.take_append_drop i q.es).symm
  refine ⟨⟨?_, ?_, ho.hbl, ?_, ?_, fun j x hx => ?_, fun x hx => ?_, fun j x hx => ?_, by rw [hnames]; exact ho.nd, fun n hn => ho.sub n (hnames ▸ hn), ho.pur, ?_, fun n hn => ?_⟩, ?_, ?_⟩
  · show σ' q.nQ = .box (.tag q.bq [.rsl q.bh (q.es.set i e').length q.cap, .mp q.nF, .int .i64 q.time])
    rw [List.length_set, hσ, if_neg (ho.EQ me)]
    exact ho.hQ
  · show σ' q.nH = _
    rw [hσ, if_neg (ho.EH me)]
    exact ho.hH
  · show (q.es.set i e').length ≤ _
    rw [List.length_set]; exact ho.hle
  · show (q.es.set i e').length ≤ _
    rw [List.length_set]; exact ho.hsz
  · have hx : (q.es.set i e')[j]? = some x := hx
    rw [hg] at hx
    by_cases c : j = i
    · rw [if_pos c] at hx
      cases hx
      rw [c]
      have := ho.ht i e hi
      rw [this, he']
      rfl
    · rw [if_neg c] at hx
      exact ho.ht j x hx
  · have hx : x ∈ q.es.set i e' := hx
    obtain ⟨j, hj⟩ := List.getElem?_of_mem hx
    rw [hg] at hj
    by_cases c : j = i
    · rw [if_pos c] at hj
      cases hj
      rw [hσ, hnm, if_pos rfl, he']
      rfl
    · rw [if_neg c] at hj
      rw [hσ, if_neg (ho.neE hj hi c)]
      exact ho.hE x (mem_get hj)
  · have hx : (q.es.set i e')[j]? = some x := hx
    rw [hg] at hx
    by_cases c : j = i
    · rw [if_pos c] at hx
      cases hx
      rw [c, he']
      exact ho.hat i e hi
    · rw [if_neg c] at hx
      exact ho.hat j x hx
  · refine (closedSt_iff _ _ _).2 fun n hn row hr => ?_
    rw [hσ] at hr
    split at hr
    · cases hr; rfl
    · exact ho.cl.at hn hr
  · rw [hσ] at hn
    split at hn
    · rename_i c; rw [c]; exact ho.inE me
    · exact ho.out n hn
  · rw [hσ, if_neg (ho.EF me)]
  · refine ⟨(q.es.take i ++ q.es.drop (i + 1)).map QE.core, ?_, ?_⟩
    · have h1 : (q.es.take i ++ e :: q.es.drop (i + 1)).Perm (e :: (q.es.take i ++ q.es.drop (i + 1))) := List.perm_middle
      rw [← hsplit] at h1
      exact h1.map QE.core
    · have h1 : (q.es.take i ++ e' :: q.es.drop (i + 1)).Perm (e' :: (q.es.take i ++ q.es.drop (i + 1))) := List.perm_middle
      have h2 : q.es.set i e' = q.es.take i ++ e' :: q.es.drop (i + 1) := List.set_eq_take_append_cons_drop.trans (if_pos li)
      rw [h2]
      have h3 := h1.map QE.core
      rw [List.map_cons] at h3
      rw [he'] at h3 ⊢
      exact h3
end
structure QOk (ns : List Nat) (σ : Store) (q : HS) : Prop where
  any : HAny ns σ q
  fm : ∃ F, MP (σ q.nF) F ∧ FMc F (q.es.map QE.core)
def HS.kv (q : HS) : List (W32 × Int) := kvOf (q.es.map QE.core)
end Hm
end
section
namespace Hm
open Go
set_option maxRecDepth 100000
set_option maxHeartbeats 4000000
def c_openlist_New_uint32 : Cmd :=
 (qS [qq 0 (.mov (.c (.nilptr)))]
 (.seq (.ops [qq 1 (.mkMap 2176064 .u32), qq 2 (.build [.sl .nil [], .nilmp, .int .i64 0] [(1 , 1 , .t 1)]), qx 3 2176195 3 2, qm 0 3]) .ret))
def r_openlist_New_uint32 : List RVar := [.tmp 0]
def n_openlist_New_uint32 : Nat := 4
theorem k_openlist_New_uint32 : chkFn Go.Proofs.Try.prog 34 n_openlist_New_uint32 r_openlist_New_uint32 c_openlist_New_uint32 = true := by kernel_rfl
theorem ct_New {G : Type} {H : HT G} {g : G} {ns : List Nat} {σ : Store} (h1 : 2176064 ∈ ns) (h2 : 2176195 ∈ ns) (hu : ∀ nm, σ nm = .unused) :
    Cc Go.Proofs.Try.prog H 34 [] ns σ g fun v σ' g' => v = .bptr 2176195 0 ∧ σ' = ups (ups σ 2176064 (.mp .u32 [] [])) 2176195 (.box (.agg [.sl .nil [], .mp 2176064, .int .i64 0])) ∧ g' = g := by
  have hout : ∀ nm, σ nm ≠ .unused → nm ∈ ns := fun nm h => absurd (hu nm) h
  have hcl : Cl ns σ := (closedSt_iff _ _ _).2 fun n hn row hr => by rw [hu n] at hr; cases hr
  have hcl2 : Cl ns (ups (ups σ 2176064 (.mp .u32 [] [])) 2176195 (.box (.agg [.sl .nil [], .mp 2176064, .int .i64 0]))) := by
    refine (hcl.ups fun row hr => by cases hr).ups fun row hr => ?_
    cases hr
    show (true && (closedB ns (.mp 2176064) && (true && true))) = true
    rw [mem_closed h1]
    rfl
  refine CT.step _ mixed k_openlist_New_uint32 hout fun hM => ?_
  repeat (first | refine i_s rfl ?_ | refine sw ?_)
  refine i_mkm (hu _) ?_
  repeat refine i_s rfl ?_
  refine i_box ((upt_ne _ _ (by decide)).trans (hu _)) rfl ?_
  repeat (first | refine i_s rfl ?_ | refine sw ?_)
  exact e_ret ⟨rfl, _, rfl, (memB_iff _ _).2 h2, hcl2, rfl, restr_all (ups_mem (ups_mem hout h1) h2), rfl⟩
def c_openlist_Queue_uint32_Len : Cmd :=
 (qS [qc 2 0]
 (.seq (.ops [qm 3 0, qq 4 (.nilck (.t 3)), qf 5 0 4, ql 6 1 5, qn 7 6, qm 2 7]) .ret))
def r_openlist_Queue_uint32_Len : List RVar := [.tmp 2]
def n_openlist_Queue_uint32_Len : Nat := 8
theorem k_openlist_Queue_uint32_Len : chkFn Go.Proofs.Try.prog 38 n_openlist_Queue_uint32_Len r_openlist_Queue_uint32_Len c_openlist_Queue_uint32_Len = true := by kernel_rfl
theorem ct_QLen {G : Type} {H : HT G} {g : G} {ns : List Nat} {σ : Store} {q : HS} (ha : HAny ns σ q) :
    Cc Go.Proofs.Try.prog H 38 [.raw q.bq 0] ns σ g fun v σ' g' => v = .int .i64 q.es.length ∧ σ' = σ ∧ g' = g := by
  refine CT.step _ mixed k_openlist_Queue_uint32_Len ha.base.out fun hM => ?_
  rcases ha with ho | hz
  · repeat' (first | refine i_s rfl ?_ | refine sw ?_ | refine i_ldr q.nQ rfl ho.hQ rfl ?_)
    exact e_ret ⟨rfl, _, rfl, rfl, ho.cl, rfl, restr_all ho.out, rfl⟩
  · have h0 : q.es.length = 0 := by rw [hz.es]; rfl
    repeat' (first | refine i_s rfl ?_ | refine sw ?_ | refine i_ldr q.nQ rfl hz.hQ rfl ?_)
    exact e_ret ⟨rfl, _, rfl, rfl, hz.cl, by rw [h0]; rfl, restr_all hz.out, rfl⟩
structure QNext (ns : List Nat) (q : HS) (σ' : Store) (q' : HS) : Prop where
  ok : QOk ns σ' q'
  nQ : q'.nQ = q.nQ
  bq : q'.bq = q.bq
  nF : q'.nF = q.nF
theorem MP.is {σ : Store} {n : Nat} {F : Int → Option V} {b : Blk} (h : MP (σ n) F) (hb : σ n = b) : MP b F := hb ▸ h
theorem MP.is' {σ : Store} {n : Nat} {F : Int → Option V} {b : Blk} (h : MP b F) (hb : b = σ n) : MP (σ n) F := hb ▸ h
theorem mp_ne {σ : Store} {n f : Nat} {F : Int → Option V} (h : MP (σ n) F) (hf : σ f = .unused) : f ≠ n := fun e => by
  obtain ⟨ks, vs, e2, _⟩ := h
  rw [← e, hf] at e2
  cases e2
def c_openlist_Queue_uint32_Set : Cmd :=
 (qS [qm 9 0, qq 10 (.nilck (.t 9)), qf 11 2 10, ql 12 1 11, qv 13 .add [] 12 1, qq 14 (.nilck (.t 9)), qf 15 2 14, qs 1 15 13]
 (qT (qS [qm 17 0, qq 18 (.nilck (.t 17)), qf 19 1 18, ql 20 1 19, qm 21 1, qq 22 (.mget true (.nilptr) (.t 20) (.t 21)), qm 16 22, qq 23 (.extract (.t 16) 0), qq 24 (.extract (.t 16) 1), qm 6 23, qm 7 24]
 (qS [qm 25 7]
 (.cond (.t 25) (qS [qm 26 6, qm 27 6, qm 28 2, qm 29 0, qq 30 (.nilck (.t 29)), qf 31 2 30, ql 32 1 31, qq 33 (.nilck (.t 26)), qf 34 1 33, qs 1 34 28, qq 35 (.nilck (.t 27)), qf 36 2 35, qs 1 36 32]
 (.seq (.ops [qm 37 0, qq 38 (.nilck (.t 37)), qf 39 0 38, qq 40 (.mkifc 125 (.t 39)), qm 41 6, qq 42 (.nilck (.t 41)), qf 43 3 42, ql 44 1 43, qq 45 (.call .d (.c (.fn 51 [])) [.t 40, .t 44])]) .ret)) .skip)))
 (qS [qm 46 1, qm 47 2, qm 48 0, qq 49 (.nilck (.t 48)), qf 50 2 49, ql 51 1 50, qq 52 (.build [.int .u32 0, .int .i64 0, .int .i64 0, .int .i64 0] [(0 , 1 , .t 46), (1 , 1 , .t 47), (2 , 1 , .t 51)]), qq 53 (.boxR 123 4 (.t 52)), qm 8 53]
 (qS [qm 54 0, qq 55 (.nilck (.t 54)), qf 56 1 55, ql 57 1 56, qm 58 1, qm 59 8, .op none none (.mput (.t 57) (.t 58) (.t 59))]
 (.ops [qm 60 0, qq 61 (.nilck (.t 60)), qf 62 0 61, qq 63 (.mkifc 125 (.t 62)), qm 64 8, qq 65 (.mkifc 120 (.t 64)), qq 66 (.call .d (.c (.fn 52 [])) [.t 63, .t 65])])))))
def r_openlist_Queue_uint32_Set : List RVar := []
def n_openlist_Queue_uint32_Set : Nat := 67
theorem k_openlist_Queue_uint32_Set : chkFn Go.Proofs.Try.prog 36 n_openlist_Queue_uint32_Set r_openlist_Queue_uint32_Set c_openlist_Queue_uint32_Set = true := by kernel_rfl
theorem ct_Set {G : Type} {H : HT G} {g : G} {ns : List Nat} {σ : Store} {q : HS} (hq : QOk ns σ q) (hlen : q.es.length < 1000000) (x : W32) (k : Int) {f1 f2 : Nat} (h1 : f1 ∈ ns) (h2 : f2 ∈ ns) (u1 : σ f1 = .unused) (u2 : σ f2 = .unused) (ne : f1 ≠ f2) (l1 : f1 < 1000000000000) (l2 : f2 < 1000000000000) (hnew1 : f1 ∉ q.names) :
    Cc Go.Proofs.Try.prog H 36 [.raw q.bq 0, u32V x, .int .i64 k] ns σ g fun v σ' g' => (∃ q', QNext ns q σ' q' ∧ q'.kv.Perm ((x, k) :: q.kv.filter fun p => p.1 != x)) ∧ g' = g := by
  obtain ⟨ha, F, hF, hc⟩ := hq
  obtain ⟨hv, hb, hvp, hvl, hvf⟩ := ha.box
  have hb0 := ha.base
  have hc1 := ha.clock (IntKind.i64.wrap (q.time + 1)) hb
  have hF1 : MP (ups σ q.nQ (.box (.tag q.bq [hv, .mp q.nF, .int .i64 (IntKind.i64.wrap (q.time + 1))])) q.nF) F := hF.is (b := _) rfl |>.is (upt_ne _ _ fun e => ha.QF e.symm).symm
  refine CT.step _ mixed k_openlist_Queue_uint32_Set hb0.out fun hM => ?_
  have hl2 : fzA (ldrow false 1 (0 + 2) (.agg [hv, .mp q.nF, .int .i64 q.time])) = some (.int .i64 q.time) := rfl
  have hs2 : fzA (strow 1 (0 + 2) (.agg [hv, .mp q.nF, .int .i64 q.time]) (.int .i64 (IntKind.i64.wrap (q.time + 1)))) = some (.agg [hv, .mp q.nF, .int .i64 (IntKind.i64.wrap (q.time + 1))]) := fzA_agg _
  repeat (first | refine i_s rfl ?_ | refine sw ?_)
  refine i_ldr q.nQ rfl hb hl2 ?_
  refine i_addw rfl rfl rfl rfl ?_
  repeat refine i_s rfl ?_
  refine i_str q.nQ rfl hb hs2 ?_
  repeat (first | refine i_s rfl ?_ | refine sw ?_)
  refine i_ldr q.nQ rfl (upt_self _ _ _) rfl ?_
  generalize IntKind.i64.wrap (q.time + 1) = t at *
  repeat refine i_s rfl ?_
  by_cases hx : ∃ c ∈ q.es.map QE.core, c.2.2.1 = x
  · obtain ⟨c, hcm, rfl⟩ := hx
    obtain ⟨e, he, rfl⟩ := List.mem_map.1 hcm
    have hFx := hc.here _ hcm
    have ho1 : HOk ns (ups σ q.nQ (.box (.tag q.bq [hv, .mp q.nF, .int .i64 t]))) { q with time := t } := by
      rcases hc1 with h | h
      · exact h
      · have := h.es
        change q.es = [] at this
        rw [this] at he
        cases he
    obtain ⟨i, hi⟩ := List.getElem?_of_mem he
    have hE1 := ho1.hE e he
    have hat := ho1.hat i e hi
    refine i_mgF rfl hF1 rfl rfl (v := .tup [.raw e.b 0, .bool true]) (by rw [show ((e.core.2.2.1.toNat : Nat) : Int) = (e.core.2.2.1.toNat : Int) from rfl, hFx]; rfl) ?_
    obtain ⟨p1, p2, r, p3, p4⟩ := ho1.rekey hi k t (σ' := ups (ups (ups σ q.nQ (.box (.tag q.bq [hv, .mp q.nF, .int .i64 t]))) e.nm (.box (.tag e.b [.int .u32 e.item.toNat, .int .i64 k, .int .i64 e.time, .int .i64 e.at_]))) e.nm (.box (.tag e.b [.int .u32 e.item.toNat, .int .i64 k, .int .i64 t, .int .i64 e.at_]))) (fun n => by
      simp only [upt_if]
      by_cases c : n = e.nm
      · rw [if_pos c, if_pos c]
      · rw [if_neg c, if_neg c, if_neg c])
    repeat' (first | refine i_s rfl ?_ | refine sw ?_ | refine c_t rfl ?_ | refine i_ldr q.nQ rfl (upt_self _ _ _) rfl ?_)
    refine i_str e.nm rfl hE1 rfl ?_
    repeat refine i_s rfl ?_
    refine i_str e.nm rfl (upt_self _ _ _) rfl ?_
    repeat' (first | refine i_s rfl ?_ | refine sw ?_ | refine i_ifc rfl ?_ | refine i_ldr e.nm rfl (upt_self _ _ _) rfl ?_)
    rw [hat] at p1 p2 p4 ⊢
    refine i_cdn ns rfl rfl p1.cl p1.out (ct_Fix p1 i (by show i < (q.es.set i _).length; rw [List.length_set]; exact get_lt hi)) (fun v σ' g' h => by obtain ⟨⟨_, h, _⟩, _⟩ := h; exact h.out) ?_
    rintro v σ3 g' ⟨⟨q3, ho3, hs3⟩, rfl⟩
    have hcore := hs3.core.trans p4
    have hF3 : σ3 q.nF = σ q.nF := hs3.fm.trans (p2.trans (upt_ne _ _ fun e => ha.QF e.symm))
    repeat refine sw ?_
    refine e_ret ⟨rfl, _, rfl, rfl, ho3.cl, ⟨q3, ⟨⟨.inl ho3.re, F, ?_, (hc.perm p3).rekey.perm hcore.symm⟩, hs3.nQ, hs3.bq, hs3.nF⟩, ?_⟩, rfl⟩
    · rw [hs3.nF]
      exact hF.is (hF3.symm.trans (restr_at ha.inF).symm)
    · have k1 : q3.kv.Perm (kvOf ((e.nm, e.b, e.item, k) :: r)) := hcore.map _
      have k2 : (q.kv.filter fun p => p.1 != e.item).Perm ((kvOf ((e.nm, e.b, e.item, e.key) :: r)).filter fun p => p.1 != e.item) := (p3.map _).filter _
      rw [kv_filter (c := (e.nm, e.b, e.item, e.key)) ((p3.map QC.item).nodup_iff.1 hc.nd)] at k2
      exact k1.trans (k2.symm.cons _)
  · have hn : ∀ c ∈ q.es.map QE.core, c.2.2.1 ≠ x := fun c hc e => hx ⟨c, hc, e⟩
    have hFx := hc.gone x hn
    refine i_mgF rfl hF1 rfl rfl (v := .tup [.nilptr, .bool false]) (by rw [hFx]; rfl) ?_
    have nQ1 : f1 ≠ q.nQ := fun e => by rw [e, hb] at u1; cases u1
    have nQ2 : f2 ≠ q.nQ := fun e => by rw [e, hb] at u2; cases u2
    have nF1 : f1 ≠ q.nF := mp_ne hF u1
    have nF2 : f2 ≠ q.nF := mp_ne hF u2
    repeat' (first | refine i_s rfl ?_ | refine sw ?_ | refine c_f rfl ?_ | refine i_ldr q.nQ rfl (upt_self _ _ _) rfl ?_)
    refine i_boxR f1 rfl rfl rfl ((upt_ne _ _ nQ1).trans u1) (ty_low l1) fun b => ?_
    repeat (first | refine i_s rfl ?_ | refine sw ?_)
    refine i_ldr q.nQ rfl ((upt_ne _ _ (fun e => nQ1 e.symm)).trans (upt_self _ _ _)) rfl ?_
    repeat refine i_s rfl ?_
    have hF2 : MP (ups (ups σ q.nQ (.box (.tag q.bq [hv, .mp q.nF, .int .i64 t]))) f1 (.box (.tag b [.int .u32 x.toNat, .int .i64 k, .int .i64 t, .int .i64 0])) q.nF) F := hF1.is (upt_ne _ _ fun e => nF1 e.symm).symm
    refine i_mputF rfl rfl hF2 rfl rfl rfl fun bF hbF => ?_
    obtain ⟨e, he⟩ : ∃ e : QE, e = ⟨f1, b, x, k, t, 0⟩ := ⟨_, rfl⟩
    have hcl3 : Cl ns (ups (ups (ups σ q.nQ (.box (.tag q.bq [hv, .mp q.nF, .int .i64 t]))) f1 (.box (.tag b [.int .u32 x.toNat, .int .i64 k, .int .i64 t, .int .i64 0]))) q.nF bF) :=
      (hc1.base.cl.ups fun row hr => by cases hr; rfl).ups fun row hr => (hbF.box row hr).elim
    have hout3 := ups_mem (b := bF) (ups_mem (b := .box (.tag b [.int .u32 x.toNat, .int .i64 k, .int .i64 t, .int .i64 0])) hc1.base.out h1) ha.inF
    have hnew1' : f1 ≠ q.nQ ∧ f1 ≠ q.nH ∧ f1 ≠ q.nF ∧ f1 ∉ q.es.map QE.nm := by
      simp only [HS.names, List.mem_cons, not_or] at hnew1
      exact hnew1
    have hFd : q.nF ≠ q.nQ ∧ q.nF ≠ q.nH ∧ q.nF ∉ q.es.map QE.nm := by
      rcases ha with h | h
      · exact ⟨fun e => h.QF e.symm, fun e => h.HF e.symm, fun hm => by
          obtain ⟨y, hy, k⟩ := List.mem_map.1 hm
          exact h.EF hy k.symm⟩
      · exact ⟨fun e => h.QF e.symm, fun e => h.HH.2.1 e.symm, by rw [h.es]; simp⟩
    have ha3 : HAny ns (ups (ups (ups σ q.nQ (.box (.tag q.bq [hv, .mp q.nF, .int .i64 t]))) f1 (.box (.tag b [.int .u32 x.toNat, .int .i64 k, .int .i64 t, .int .i64 0]))) q.nF bF) { q with time := t } :=
      hc1.frame (fun n hn => by
        rcases hn with rfl | rfl | hn
        · rw [upt_ne _ _ (fun e => hFd.1 e.symm), upt_ne _ _ (fun e => hnew1'.1 e.symm)]
        · rw [upt_ne _ _ (fun e => hFd.2.1 e.symm), upt_ne _ _ (fun e => hnew1'.2.1 e.symm)]
        · rw [upt_ne _ _ (fun (e : n = q.nF) => hFd.2.2 (e ▸ hn)), upt_ne _ _ (fun (e : n = f1) => hnew1'.2.2.2 (e ▸ hn))]) hcl3 hout3
    repeat' (first | refine i_s rfl ?_ | refine sw ?_ | refine i_ifc rfl ?_)
    refine i_cdn ns rfl rfl hcl3 hout3 (ct_heapPush (q := { q with time := t }) ha3 hlen (e := ⟨f1, b, x, k, t, 0⟩) ((upt_ne _ _ nF1).trans (upt_self _ _ _)) h1 hnew1 (f := f2) h2 nF2 (by rw [upt_ne _ _ nF2, upt_ne _ _ (fun e => ne e.symm), upt_ne _ _ nQ2]; exact u2) l2) (fun v σ' g' h => by obtain ⟨⟨_, h, _⟩, _⟩ := h; exact h.ok.out) ?_
    rintro v σ4 g' ⟨⟨q4, hk4, hp4⟩, rfl⟩
    have hF4 : σ4 q.nF = bF := hk4.fm.trans (upt_self _ _ _)
    repeat refine sw ?_
    refine e_end ⟨rfl, _, rfl, rfl, hk4.ok.cl, ⟨q4, ⟨⟨.inl hk4.ok.re, _, ?_, (hc.put f1 b x k hn).perm hp4.symm⟩, hk4.nQ, hk4.bq, hk4.nF⟩, ?_⟩, rfl⟩
    · rw [hk4.nF]
      exact hbF.is' (hF4.symm.trans (restr_at ha.inF).symm)
    · have k1 : q4.kv.Perm (kvOf ((f1, b, x, k) :: q.es.map QE.core)) := hp4.map _
      rw [show (q.kv.filter fun p => p.1 != x) = q.kv from kv_not hn]
      exact k1
def c_openlist_Queue_uint32_Take : Cmd :=
 (qS [qq 2 (.mov (.c (.int .u32 0))), qc 3 0, qb 4 false]
 (qT (qS [qm 6 0, qq 7 (.nilck (.t 6)), qf 8 0 7, ql 9 1 8, qn 10 9, qv 11 .eql [.i] 10 0]
 (.cond (.t 11) (.seq (.ops [qm 12 2, qm 2 12, qc 3 0, qb 4 false]) .ret) .skip))
 (qS [qm 13 0, qq 14 (.nilck (.t 13)), qf 15 0 14, qq 16 (.mkifc 125 (.t 15)), qq 17 (.call .d (.c (.fn 54 [])) [.t 16]), qq 18 (.tass 120 (.t 17)), qm 5 18]
 (qS [qm 19 0, qq 20 (.nilck (.t 19)), qf 21 1 20, ql 22 1 21, qm 23 5, qq 24 (.nilck (.t 23)), qf 25 0 24, ql 26 1 25, .op none none (.mdel (.t 22) (.t 26))]
 (.seq (.ops [qm 27 5, qq 28 (.nilck (.t 27)), qf 29 0 28, ql 30 1 29, qm 31 5, qq 32 (.nilck (.t 31)), qf 33 1 32, ql 34 1 33, qm 2 30, qm 3 34, qb 4 true]) .ret)))))
def r_openlist_Queue_uint32_Take : List RVar := [.tmp 2, .tmp 3, .tmp 4]
def n_openlist_Queue_uint32_Take : Nat := 35
theorem k_openlist_Queue_uint32_Take : chkFn Go.Proofs.Try.prog 39 n_openlist_Queue_uint32_Take r_openlist_Queue_uint32_Take c_openlist_Queue_uint32_Take = true := by kernel_rfl
theorem ct_Take {G : Type} {H : HT G} {g : G} {ns : List Nat} {σ : Store} {q : HS} (hq : QOk ns σ q) (hne : q.es ≠ []) :
    Cc Go.Proofs.Try.prog H 39 [.raw q.bq 0] ns σ g fun v σ' g' => (∃ (q' : HS) (x : W32) (k : Int), QNext ns q σ' q' ∧ q.kv.Perm ((x, k) :: q'.kv) ∧ v = .tup [u32V x, .int .i64 k, .bool true]) ∧ g' = g := by
  obtain ⟨ha, F, hF, hc⟩ := hq
  have ho : HOk ns σ q := by
    rcases ha with h | h
    · exact h
    · exact absurd h.es hne
  have hpos : 0 < q.es.length := List.length_pos_iff.2 hne
  refine CT.step _ mixed k_openlist_Queue_uint32_Take ho.out fun hM => ?_
  have h0 : (((q.es.length : Nat) : Int) == 0) = false := by
    rw [beq_eq_false_iff_ne]
    omega
  repeat' (first | refine i_s rfl ?_ | refine sw ?_ | refine c_cond rfl (fun h => ?_) (fun h => ?_) | refine i_ldr q.nQ rfl ho.hQ rfl ?_)
  · exfalso
    simp_all
  repeat' refine i_ifc rfl ?_
  refine i_cdn ns rfl rfl ho.cl ho.out (ct_heapPop ho hne) (fun v σ' g' h => by obtain ⟨⟨_, _, h, _⟩, _⟩ := h; exact h.ok.out) ?_
  rintro v σ2 g' ⟨⟨q2, e, hk2, hp2, rfl, he2, hnF⟩, rfl⟩
  have hF2 : MP (σ2 q.nF) F := hF.is hk2.fm.symm
  have hc2 := hc.perm hp2
  rw [← hk2.bq]
  have hQ2 := hk2.ok.hQ
  repeat' (first | refine i_s rfl ?_ | refine sw ?_ | refine i_tas rfl ?_ | refine i_ldr q2.nQ rfl hQ2 rfl ?_ | refine i_ldr e.nm rfl he2 rfl ?_)
  rw [hk2.nF]
  refine i_mdelF rfl rfl hF2 rfl fun bF hbF => ?_
  have hcl3 : Cl ns (ups σ2 q.nF bF) := hk2.ok.cl.ups fun row hr => (hbF.box row hr).elim
  have hout3 := ups_mem (b := bF) hk2.ok.out ho.inF
  have ho3 : HOk ns (ups σ2 q.nF bF) q2 := hk2.ok.frame (fun n hn => by
    rw [← hk2.nF]
    rcases hn with rfl | rfl | hn
    · exact upt_ne _ _ hk2.ok.QF
    · exact upt_ne _ _ hk2.ok.HF
    · obtain ⟨y, hy, k⟩ := List.mem_map.1 hn
      exact upt_ne _ _ (fun e => hk2.ok.EF hy (e ▸ k.symm))) hcl3 hout3
  repeat' (first | refine i_s rfl ?_ | refine sw ?_ | refine i_ldr e.nm rfl ((upt_ne _ _ hnF).trans he2) rfl ?_)
  refine e_ret ⟨rfl, _, rfl, rfl, ho3.cl, ⟨q2, e.item, e.key, ⟨⟨.inl ho3.re, _, ?_, hc2.del⟩, hk2.nQ, hk2.bq, hk2.nF⟩, hp2.map _, rfl⟩, rfl⟩
  rw [hk2.nF]
  exact hbF.is' ((upt_self _ _ _).symm.trans (restr_at ho.inF).symm)
end Hm
end
section
namespace Hm
open Go
theorem fresh_list (av : List Nat) : ∀ k : Nat, av.length + k < 1000000000000 → ∃ L : List Nat, L.length = k ∧ L.Nodup ∧ ∀ n ∈ L, n ∉ av ∧ n < 1000000000000
  | 0, _ => ⟨[], rfl, List.nodup_nil, fun n hn => by cases hn⟩
  | k + 1, h => by
    obtain ⟨L, h1, h2, h3⟩ := fresh_list av k (by omega)
    obtain ⟨n, h4, h5⟩ := fresh_name (L ++ av) (by rw [List.length_append]; omega)
    refine ⟨n :: L, by simp [h1], List.nodup_cons.2 ⟨fun h => h4 (List.mem_append_left _ h), h2⟩, fun m hm => ?_⟩
    rcases List.mem_cons.1 hm with rfl | hm
    · exact ⟨fun h => h4 (List.mem_append_right _ h), h5⟩
    · exact h3 m hm
section
variable {ns : List Nat} {σ σ' : Store} {q : HS}
theorem HAny.nd (h : HAny ns σ q) : q.names.Nodup ∧ ∀ n ∈ q.names, n ∈ ns := by
  rcases h with h | h
  · exact ⟨h.nd, h.sub⟩
  · unfold HS.names
    rw [h.es]
    refine ⟨?_, fun n hn => ?_⟩
    · have h1 := h.HH
      have h2 := h.QF
      simp only [List.map_nil, List.nodup_cons, List.mem_cons, List.not_mem_nil, or_false, not_or, not_false_eq_true, List.nodup_nil, and_true]
      exact ⟨⟨fun e => h1.1 e.symm, h2⟩, h1.2.1⟩
    · simp only [List.map_nil, List.mem_cons, List.not_mem_nil, or_false] at hn
      rcases hn with rfl | rfl | rfl
      · exact h.inQ
      · exact h.HH.2.2
      · exact h.inF
theorem HAny.move (h : HAny ns σ q) {ns2 : List Nat} {σ2 : Store} (he : ∀ n ∈ q.names, σ2 n = σ n) (hsub : ∀ n ∈ q.names, n ∈ ns2) (hcl : Cl ns2 σ2) (hout : ∀ nm, σ2 nm ≠ .unused → nm ∈ ns2) : HAny ns2 σ2 q := by
  have hQ := he q.nQ (by simp [HS.names])
  have hH := he q.nH (by simp [HS.names])
  rcases h with h | h
  · exact .inl ⟨hQ.trans h.hQ, hH.trans h.hH, h.hbl, h.hle, h.hsz, h.ht, fun e hm => (he _ (by unfold HS.names; simp only [List.mem_cons]; exact .inr (.inr (.inr (List.mem_map.2 ⟨e, hm, rfl⟩))))).trans (h.hE e hm), h.hat, h.nd, hsub, h.pur, hcl, hout⟩
  · exact .inr ⟨hQ.trans h.hQ, h.es, ⟨h.HH.1, h.HH.2.1, hsub _ (by simp [HS.names])⟩, hH.trans h.Hu, h.QF, hsub _ (by simp [HS.names]), hsub _ (by simp [HS.names]), hcl, hout⟩
theorem QOk.closed (h : QOk ns σ q) {ns2 : List Nat} (hsub : ∀ n ∈ q.names, n ∈ ns2) {n : Nat} (hn : n ∈ q.names) {row : V} (hr : σ n = .box row) : closedB ns2 row = true := by
  obtain ⟨ha, F, hF, _⟩ := h
  have hinF : q.nF ∈ ns2 := hsub _ (by simp [HS.names])
  simp only [HS.names, List.mem_cons] at hn
  rcases hn with rfl | rfl | rfl | hn
  · obtain ⟨hv, hb, hp, _⟩ := ha.box
    rw [hb] at hr
    cases hr
    show (closedB ns2 hv && (closedB ns2 (.mp q.nF) && (true && true))) = true
    rw [closed_pure ns2 hv hp, mem_closed hinF]
    rfl
  · rcases ha with h | h
    · rw [h.hH] at hr
      cases hr
      exact box_closed ns2 h.pur
    · rw [h.Hu] at hr
      cases hr
  · exact (hF.box row hr).elim
  · obtain ⟨e, he, rfl⟩ := List.mem_map.1 hn
    rw [ha.base.hE e he] at hr
    cases hr
    rfl
theorem QOk.move (h : QOk ns σ q) {ns2 : List Nat} {σ2 : Store} (he : ∀ n ∈ q.names, σ2 n = σ n) (hsub : ∀ n ∈ q.names, n ∈ ns2) (hcl : Cl ns2 σ2) (hout : ∀ nm, σ2 nm ≠ .unused → nm ∈ ns2) : QOk ns2 σ2 q := by
  obtain ⟨ha, F, hF, hc⟩ := h
  refine ⟨ha.move he hsub hcl hout, F, ?_, hc⟩
  rw [he _ (by simp [HS.names])]
  exact hF
end
def QIn (σ : Store) (q : HS) : Prop := QOk q.names (restr q.names σ) q
section
variable {ns : List Nat} {σ σ' : Store} {q : HS}
theorem QIn.congr (h : QIn σ q) (he : ∀ n ∈ q.names, σ' n = σ n) : QIn σ' q := by
  have e : restr q.names σ' = restr q.names σ := by
    funext n
    by_cases hn : n ∈ q.names
    · rw [restr_at hn, restr_at hn, he n hn]
    · rw [restr_off hn, restr_off hn]
  unfold QIn
  rw [e]
  exact h
theorem QIn.closed (h : QIn σ q) (hsub : ∀ n ∈ q.names, n ∈ ns) {n : Nat} (hn : n ∈ q.names) {row : V} (hr : σ n = .box row) : closedB ns row = true :=
  QOk.closed h hsub hn ((restr_at hn).trans hr)
theorem QIn.to (h : QIn σ q) (hsub : ∀ n ∈ q.names, n ∈ ns) (hrest : ∀ n ∈ ns, n ∉ q.names → σ n = .unused) : QOk ns (restr ns σ) q := by
  refine QOk.move h (fun n hn => by rw [restr_at (hsub n hn), restr_at hn]) hsub ?_ (fun nm hn => restr_mem nm hn)
  refine (closedSt_iff _ _ _).2 fun n hn row hr => ?_
  rw [restr_at hn] at hr
  by_cases c : n ∈ q.names
  · exact h.closed hsub c hr
  · rw [hrest n hn c] at hr
    cases hr
theorem QIn.of (h : QOk ns σ' q) (he : ∀ n ∈ q.names, σ n = σ' n) : QIn σ q := by
  refine h.move (fun n hn => (restr_at hn).trans (he n hn)) (fun n hn => hn) ?_ (fun nm hn => restr_mem nm hn)
  refine (closedSt_iff _ _ _).2 fun n hn row hr => ?_
  rw [restr_at hn, he n hn] at hr
  exact h.closed (fun n hn => hn) hn hr
end
inductive Reach (w : Wd) : W32 → Prop
  | start : Reach w w.start
  | step {s : W32} {e : Nat × Int × W32} (h : Reach w s) (he : e ∈ w.steps s) : Reach w e.2.2
def push1 (a : List W32 × List W32) (x : W32) : List W32 × List W32 := if x ∈ a.2 then a else (a.1 ++ [x], a.2 ++ [x])
def pushAll (a : List W32 × List W32) (l : List W32) : List W32 × List W32 := l.foldl push1 a
def succs (w : Wd) (s : W32) : List W32 := (w.steps s).map fun e => e.2.2
def allR (w : Wd) : Nat → List W32 → List W32 → List W32 → Option (List W32)
  | 0, _, _, _ => none
  | n + 1, st, sn, out => match st.getLast? with
    | none => some out
    | some s => if (pushAll (st.dropLast, sn) (succs w s)).2.length > 2000 then none
      else allR w n (pushAll (st.dropLast, sn) (succs w s)).1 (pushAll (st.dropLast, sn) (succs w s)).2 (out ++ [s])
def allF (w : Wd) : Option (List W32) := allR w 2002 [w.start] [w.start] []
theorem pushAll_ok : ∀ (l : List W32) (a : List W32 × List W32), a.2.Nodup → (∀ x ∈ a.1, x ∈ a.2) →
    (pushAll a l).2.Nodup ∧ (∀ x ∈ (pushAll a l).1, x ∈ (pushAll a l).2) ∧ (∀ x, x ∈ (pushAll a l).2 ↔ x ∈ a.2 ∨ x ∈ l) ∧ (∀ x, x ∈ a.2 → x ∈ (pushAll a l).2) ∧
    (∀ x, x ∈ (pushAll a l).1 ↔ x ∈ a.1 ∨ (x ∈ l ∧ x ∉ a.2)) ∧ (pushAll a l).1.length + a.2.length = a.1.length + (pushAll a l).2.length
  | [], a, h1, h2 => ⟨h1, h2, fun x => by simp [pushAll], fun x h => h, fun x => by simp [pushAll], rfl⟩
  | y :: l, a, h1, h2 => by
    show (pushAll (push1 a y) l).2.Nodup ∧ _
    by_cases hy : y ∈ a.2
    · have e : push1 a y = a := by unfold push1; rw [if_pos hy]
      obtain ⟨k1, k2, k3, k4, k5, k6⟩ := pushAll_ok l a h1 h2
      have e2 : pushAll a (y :: l) = pushAll a l := by show pushAll (push1 a y) l = _; rw [e]
      rw [e2, e]
      refine ⟨k1, k2, fun x => ?_, k4, fun x => ?_, k6⟩
      · rw [k3 x, List.mem_cons]
        constructor
        · rintro (h | h)
          · exact .inl h
          · exact .inr (.inr h)
        · rintro (h | rfl | h)
          · exact .inl h
          · exact .inl hy
          · exact .inr h
      · rw [k5 x, List.mem_cons]
        constructor
        · rintro (h | ⟨h, h'⟩)
          · exact .inl h
          · exact .inr ⟨.inr h, h'⟩
        · rintro (h | ⟨rfl | h, h'⟩)
          · exact .inl h
          · exact absurd hy h'
          · exact .inr ⟨h, h'⟩
    · have e : push1 a y = (a.1 ++ [y], a.2 ++ [y]) := by unfold push1; rw [if_neg hy]
      have e2 : pushAll a (y :: l) = pushAll (a.1 ++ [y], a.2 ++ [y]) l := by show pushAll (push1 a y) l = _; rw [e]
      obtain ⟨k1, k2, k3, k4, k5, k6⟩ := pushAll_ok l (a.1 ++ [y], a.2 ++ [y])
        (List.nodup_append.2 ⟨h1, by simp, fun x hx z hz => by simp at hz; subst hz; exact fun e => hy (e ▸ hx)⟩)
        (fun x hx => by
          rcases List.mem_append.1 hx with h | h
          · exact List.mem_append_left _ (h2 x h)
          · exact List.mem_append_right _ h)
      rw [e2, e]
      refine ⟨k1, k2, fun x => ?_, fun x h => k4 x (by simp [h]), fun x => ?_, by simp at k6; omega⟩
      · rw [k3 x]
        simp only [List.mem_append, List.mem_cons, List.not_mem_nil, or_false]
        constructor
        · rintro ((h | h) | h)
          · exact .inl h
          · exact .inr (.inl h)
          · exact .inr (.inr h)
        · rintro (h | h | h)
          · exact .inl (.inl h)
          · exact .inl (.inr h)
          · exact .inr h
      · rw [k5 x]
        simp only [List.mem_append, List.mem_cons, List.not_mem_nil, or_false, not_or]
        constructor
        · rintro ((h | rfl) | ⟨h, h', h''⟩)
          · exact .inl h
          · exact .inr ⟨.inl rfl, hy⟩
          · exact .inr ⟨.inr h, h'⟩
        · rintro (h | ⟨rfl | h, h'⟩)
          · exact .inl (.inl h)
          · exact .inl (.inr rfl)
          · by_cases c : x = y
            · exact .inl (.inr c)
            · exact .inr ⟨h, h', c⟩
structure AllInv (w : Wd) (st sn out : List W32) : Prop where
  nd : sn.Nodup
  ndo : out.Nodup
  ndst : st.Nodup
  ap : ∀ x ∈ st, x ∉ out
  mem : ∀ x, x ∈ sn ↔ x ∈ st ∨ x ∈ out
  reach : ∀ x ∈ sn, Reach w x
  start : w.start ∈ sn
  succ : ∀ s ∈ out, ∀ x ∈ succs w s, x ∈ sn
  len : st.length + out.length = sn.length
theorem pushAll_nd : ∀ (l : List W32) (a : List W32 × List W32), a.1.Nodup → (∀ x ∈ a.1, x ∈ a.2) → (pushAll a l).1.Nodup
  | [], a, h1, _ => h1
  | y :: l, a, h1, h2 => by
    show (pushAll (push1 a y) l).1.Nodup
    unfold push1
    split
    · exact pushAll_nd l a h1 h2
    · rename_i hy
      refine pushAll_nd l _ (List.nodup_append.2 ⟨h1, by simp, fun x hx z hz => ?_⟩) fun x hx => ?_
      · simp at hz
        subst hz
        exact fun e => hy (e ▸ h2 x hx)
      · rcases List.mem_append.1 hx with h | h
        · exact List.mem_append_left _ (h2 x h)
        · exact List.mem_append_right _ h
theorem allInv_step {w : Wd} {st sn out : List W32} {s : W32} (h : AllInv w (st ++ [s]) sn out) : AllInv w (pushAll (st, sn) (succs w s)).1 (pushAll (st, sn) (succs w s)).2 (out ++ [s]) := by
  have hsub : ∀ x ∈ st, x ∈ sn := fun x hx => (h.mem x).2 (.inl (List.mem_append_left _ hx))
  obtain ⟨k1, k2, k3, k4, k5, k6⟩ := pushAll_ok (succs w s) (st, sn) h.nd hsub
  have hst := List.nodup_append.1 h.ndst
  have hs : s ∈ sn := (h.mem s).2 (.inl (by simp))
  have hso : s ∉ out := h.ap s (by simp)
  have hss : s ∉ st := fun hm => hst.2.2 s hm s (by simp) rfl
  have hrs := h.reach s hs
  simp only at k3 k4 k5 k6
  have key : ∀ x, x ∈ (pushAll (st, sn) (succs w s)).2 ↔ x ∈ (pushAll (st, sn) (succs w s)).1 ∨ x ∈ out ++ [s] := fun x => by
    have hm := h.mem x
    rw [k3 x, k5 x]
    simp only [List.mem_append, List.mem_cons, List.not_mem_nil, or_false] at hm ⊢
    grind
  refine ⟨k1, ?_, pushAll_nd _ _ hst.1 hsub, ?_, key, ?_, k4 _ h.start, ?_, ?_⟩
  · refine List.nodup_append.2 ⟨h.ndo, by simp, fun x hx z hz => ?_⟩
    simp at hz
    subst hz
    exact fun e => hso (e ▸ hx)
  · intro x hx ho
    rcases (k5 x).1 hx with h1 | ⟨_, h1⟩
    · rcases List.mem_append.1 ho with h2 | h2
      · exact h.ap x (List.mem_append_left _ h1) h2
      · simp at h2
        subst h2
        exact hss h1
    · rcases List.mem_append.1 ho with h2 | h2
      · exact h1 ((h.mem x).2 (.inr h2))
      · simp at h2
        subst h2
        exact h1 hs
  · intro x hx
    rcases (k3 x).1 hx with h1 | h1
    · exact h.reach x h1
    · obtain ⟨e, he, rfl⟩ := List.mem_map.1 h1
      exact .step hrs he
  · intro u hu x hx
    rcases List.mem_append.1 hu with h1 | h1
    · exact k4 x (h.succ u h1 x hx)
    · simp at h1
      subst h1
      exact (k3 x).2 (.inr hx)
  · have := h.len
    simp only [List.length_append, List.length_singleton] at this ⊢
    omega
theorem allR_spec (w : Wd) : ∀ (n : Nat) (st sn out : List W32), AllInv w st sn out → sn.length ≤ 2000 → 2001 ≤ n + out.length →
    (∀ l, allR w n st sn out = some l → l.Nodup ∧ l.length ≤ 2000 ∧ ∀ s, s ∈ l ↔ Reach w s) ∧ (allR w n st sn out = none → ∃ l : List W32, l.Nodup ∧ 2000 < l.length ∧ ∀ s ∈ l, Reach w s)
  | 0, st, sn, out, h, hs, hn => by have := h.len; omega
  | n + 1, st, sn, out, h, hs, hn => by
    rcases List.eq_nil_or_concat st with rfl | ⟨st', s, rfl⟩
    · have hmem : ∀ s, s ∈ out ↔ Reach w s := fun s => by
        constructor
        · exact fun hm => h.reach s ((h.mem s).2 (.inr hm))
        · intro hr
          induction hr with
          | start => simpa using (h.mem _).1 h.start
          | step _ he ih => simpa using (h.mem _).1 (h.succ _ ih _ (List.mem_map.2 ⟨_, he, rfl⟩))
      have hl := h.len
      rw [show allR w (n + 1) [] sn out = some out from rfl]
      refine ⟨fun l e => ?_, fun e => by cases e⟩
      cases e
      exact ⟨h.ndo, by simp at hl; omega, hmem⟩
    · rw [List.concat_eq_append] at h ⊢
      have hI := allInv_step h
      have e : allR w (n + 1) (st' ++ [s]) sn out = if (pushAll (st', sn) (succs w s)).2.length > 2000 then none else allR w n (pushAll (st', sn) (succs w s)).1 (pushAll (st', sn) (succs w s)).2 (out ++ [s]) := by
        simp only [allR, List.getLast?_concat, List.dropLast_concat]
      rw [e]
      by_cases hbig : (pushAll (st', sn) (succs w s)).2.length > 2000
      · rw [if_pos hbig]
        exact ⟨fun l e => (by cases e), fun _ => ⟨_, hI.nd, hbig, hI.reach⟩⟩
      · rw [if_neg hbig]
        exact allR_spec w n _ _ _ hI (by omega) (by simp; omega)
theorem allF_spec (w : Wd) : (∀ l, allF w = some l → l.Nodup ∧ l.length ≤ 2000 ∧ ∀ s, s ∈ l ↔ Reach w s) ∧ (allF w = none → ∃ l : List W32, l.Nodup ∧ 2000 < l.length ∧ ∀ s ∈ l, Reach w s) :=
  allR_spec w 2002 [w.start] [w.start] [] ⟨by simp, by simp, by simp, by simp, by simp, fun x hx => by simp at hx; subst hx; exact .start, by simp, by simp, rfl⟩ (by simp) (by simp)
def INF : Int := 1000000000
inductive WayTo (w : Wd) : W32 → Int → Prop
  | goal {s : W32} (h : w.isGoal s = true) : WayTo w s 0
  | step {s : W32} {e : Nat × Int × W32} {c : Int} (he : e ∈ w.steps s) (h : WayTo w e.2.2 c) : WayTo w s (e.2.1 + c)
structure Least (w : Wd) (s : W32) (d : Int) : Prop where
  le : d ≤ INF
  low : ∀ c, WayTo w s c → d ≤ c
  att : d = INF ∨ WayTo w s d
theorem Least.le_of {w : Wd} {s : W32} {d d' : Int} (h : Least w s d) (h' : Least w s d') : d ≤ d' := by
  rcases h'.att with e | e
  · rw [e]; exact h.le
  · exact h.low _ e
theorem Least.uniq {w : Wd} {s : W32} {d d' : Int} (h : Least w s d) (h' : Least w s d') : d = d' := Int.le_antisymm (h.le_of h') (h'.le_of h)
def CostOk (w : Wd) : Prop := ∀ m ∈ w.ops, 0 ≤ m.cost ∧ m.cost ≤ 100
theorem stepsFrom_mem {s : W32} {e : Nat × Int × W32} : ∀ {l : List Mk} {k : Nat}, e ∈ stepsFrom s l k → ∃ i m, l[i]? = some m ∧ e = (k + i, m.cost, m.next s) ∧ m.can s = true
  | [], _, h => by cases h
  | m :: r, k, h => by
    rw [stepsFrom] at h
    rcases List.mem_append.1 h with h | h
    · split at h
      · rename_i hc
        simp at h
        exact ⟨0, m, rfl, h, hc⟩
      · cases h
    · obtain ⟨i, m', h1, h2, h3⟩ := stepsFrom_mem h
      exact ⟨i + 1, m', h1, by rw [h2, Nat.add_assoc, Nat.add_comm 1], h3⟩
theorem mem_stepsFrom {s : W32} {m : Mk} : ∀ {l : List Mk} {k i : Nat}, l[i]? = some m → m.can s = true → (k + i, m.cost, m.next s) ∈ stepsFrom s l k
  | [], _, _, h, _ => by cases h
  | m0 :: r, k, 0, h, hc => by
    cases h
    rw [stepsFrom, if_pos hc]
    simp
  | m0 :: r, k, i + 1, h, hc => by
    rw [stepsFrom]
    have := mem_stepsFrom (k := k + 1) (i := i) (l := r) h hc
    rw [show k + 1 + i = k + (i + 1) by omega] at this
    exact List.mem_append_right _ this
theorem step_cost {w : Wd} (hc : CostOk w) {s : W32} {e : Nat × Int × W32} (he : e ∈ w.steps s) : 0 ≤ e.2.1 ∧ e.2.1 ≤ 100 := by
  obtain ⟨i, m, h1, rfl, _⟩ := stepsFrom_mem he
  exact hc m (List.mem_of_getElem? h1)
theorem way_nn {w : Wd} (hc : CostOk w) {s : W32} {c : Int} (h : WayTo w s c) : 0 ≤ c := by
  induction h with
  | goal h => exact Int.le_refl _
  | step he _ ih => have := (step_cost hc he).1; omega
theorem min_nat {P : Nat → Prop} : ∀ n : Nat, P n → ∃ n, P n ∧ ∀ m, P m → n ≤ m := by
  intro n
  induction n using Nat.strongRecOn with
  | ind n ih =>
    intro h
    by_cases c : ∃ m, m < n ∧ P m
    · obtain ⟨m, h1, h2⟩ := c
      exact ih m h1 h2
    · exact ⟨n, h, fun m hm => Nat.le_of_not_lt fun hl => c ⟨m, hl, hm⟩⟩
theorem least_ex {w : Wd} (hc : CostOk w) (s : W32) : ∃ d, Least w s d := by
  by_cases c : ∃ n : Nat, (n : Int) ≤ INF ∧ WayTo w s n
  · obtain ⟨n, h1, h2⟩ := c
    obtain ⟨m, ⟨h3, h4⟩, h5⟩ := min_nat (P := fun n : Nat => (n : Int) ≤ INF ∧ WayTo w s n) n ⟨h1, h2⟩
    refine ⟨m, h3, fun c h => ?_, .inr h4⟩
    have h0 := way_nn hc h
    by_cases hl : c ≤ INF
    · have := h5 c.toNat ⟨by omega, by rw [show ((c.toNat : Nat) : Int) = c by omega]; exact h⟩
      omega
    · omega
  · refine ⟨INF, Int.le_refl _, fun d h => ?_, .inl rfl⟩
    have h0 := way_nn hc h
    refine Int.le_of_not_gt fun hl => c ⟨d.toNat, by omega, by rw [show ((d.toNat : Nat) : Int) = d by omega]; exact h⟩
theorem least_all {w : Wd} (hc : CostOk w) : ∃ D : W32 → Int, ∀ s, Least w s (D s) := ⟨fun s => (least_ex hc s).choose, fun s => (least_ex hc s).choose_spec⟩
abbrev Arc := W32 × W32 × Int
def arcsOf (w : Wd) (s : W32) : List Arc := (w.steps s).map fun e => (e.2.2, s, e.2.1)
def arcsL (w : Wd) : List W32 → List Arc
  | [] => []
  | s :: r => arcsOf w s ++ arcsL w r
theorem arcsL_append (w : Wd) : ∀ a b : List W32, arcsL w (a ++ b) = arcsL w a ++ arcsL w b
  | [], _ => rfl
  | s :: a, b => by rw [List.cons_append, arcsL, arcsL, arcsL_append w a b, List.append_assoc]
theorem mem_arcsL {w : Wd} {t u : W32} {c : Int} : ∀ {l : List W32}, (t, u, c) ∈ arcsL w l ↔ u ∈ l ∧ ∃ i, (i, c, t) ∈ w.steps u
  | [] => by simp [arcsL]
  | s :: r => by
    rw [arcsL, List.mem_append, mem_arcsL (l := r), arcsOf, List.mem_map, List.mem_cons]
    constructor
    · rintro (⟨⟨i, c', t'⟩, h1, h2⟩ | ⟨h1, h2⟩)
      · cases h2
        exact ⟨.inl rfl, i, h1⟩
      · exact ⟨.inr h1, h2⟩
    · rintro ⟨rfl | h1, i, h2⟩
      · exact .inl ⟨(i, c, t), h2, rfl⟩
      · exact .inr ⟨h1, i, h2⟩
def bkOf (A : List Arc) (t : W32) : List (W32 × Int) := (A.filter fun a => a.1 == t).map fun a => a.2
theorem mem_bkOf {A : List Arc} {t u : W32} {c : Int} : (u, c) ∈ bkOf A t ↔ (t, u, c) ∈ A := by
  unfold bkOf
  rw [List.mem_map]
  constructor
  · rintro ⟨⟨t', u', c'⟩, h1, h2⟩
    cases h2
    obtain ⟨h3, h4⟩ := List.mem_filter.1 h1
    have : t' = t := by simpa using h4
    exact this ▸ h3
  · intro h
    exact ⟨(t, u, c), List.mem_filter.2 ⟨h, by simp⟩, rfl⟩
theorem bkOf_snoc (A : List Arc) (a : Arc) (t : W32) : bkOf (A ++ [a]) t = bkOf A t ++ (if a.1 = t then [a.2] else []) := by
  unfold bkOf
  rw [List.filter_append, List.map_append]
  congr 1
  by_cases c : a.1 = t
  · simp [c]
  · simp [c]
def updO (o : W32 → Int) (x : W32) (v : Int) : W32 → Int := fun s => if s = x then v else o s
def sumO (o : W32 → Int) : List W32 → Nat
  | [] => 0
  | s :: r => (o s).toNat + sumO o r
theorem sumO_upd {o : W32 → Int} {x : W32} {v : Int} (h0 : 0 ≤ v) (h1 : v < o x) : ∀ {l : List W32}, sumO (updO o x v) l ≤ sumO o l ∧ (x ∈ l → sumO (updO o x v) l < sumO o l)
  | [] => ⟨Nat.le_refl _, fun h => by cases h⟩
  | s :: r => by
    obtain ⟨i1, i2⟩ := sumO_upd h0 h1 (l := r)
    simp only [sumO]
    by_cases c : s = x
    · have e : updO o x v s = v := by unfold updO; rw [if_pos c]
      rw [e, c]
      constructor
      · omega
      · intro _; omega
    · have e : updO o x v s = o s := by unfold updO; rw [if_neg c]
      rw [e]
      refine ⟨by omega, fun h => ?_⟩
      rcases List.mem_cons.1 h with h | h
      · exact absurd h.symm c
      · have := i2 h; omega
structure RInv (w : Wd) (l : List W32) (o : W32 → Int) (kv : List (W32 × Int)) (W : W32 → W32 → Int → Prop) : Prop where
  nn : ∀ s ∈ l, 0 ≤ o s
  le : ∀ s ∈ l, o s ≤ INF
  att : ∀ s ∈ l, o s = INF ∨ WayTo w s (o s)
  goal : ∀ s ∈ l, w.isGoal s = true → o s = 0
  key : ∀ p ∈ kv, p.1 ∈ l ∧ p.2 = o p.1 ∧ p.2 < INF
  nd : (kv.map Prod.fst).Nodup
  arcs : ∀ t u c, (t, u, c) ∈ arcsL w l → t ∈ kv.map Prod.fst ∨ o u ≤ o t + c ∨ W t u c
theorem RInv.perm {w : Wd} {l : List W32} {o : W32 → Int} {kv kv' : List (W32 × Int)} {W : W32 → W32 → Int → Prop} (h : RInv w l o kv W) (p : kv.Perm kv') : RInv w l o kv' W :=
  ⟨h.nn, h.le, h.att, h.goal, fun q hq => h.key q (p.mem_iff.2 hq), (p.map Prod.fst).nodup_iff.1 h.nd, fun t u c ha => (h.arcs t u c ha).imp (fun hm => (p.map Prod.fst).mem_iff.1 hm) id⟩
theorem RInv.take {w : Wd} {l : List W32} {o : W32 → Int} {kv : List (W32 × Int)} {s : W32} {d : Int} (h : RInv w l o ((s, d) :: kv) fun _ _ _ => False) :
    RInv w l o kv (fun t u c => t = s ∧ (u, c) ∈ bkOf (arcsL w l) s) ∧ s ∈ l ∧ d = o s ∧ d < INF := by
  obtain ⟨k1, k2, k3⟩ := h.key (s, d) (by simp)
  refine ⟨⟨h.nn, h.le, h.att, h.goal, fun p hp => h.key p (by simp [hp]), (List.nodup_cons.1 h.nd).2, fun t u c ha => ?_⟩, k1, k2, k3⟩
  rcases h.arcs t u c ha with h1 | h1 | h1
  · simp only [List.map_cons, List.mem_cons] at h1
    rcases h1 with rfl | h1
    · exact .inr (.inr ⟨rfl, mem_bkOf.2 ha⟩)
    · exact .inl h1
  · exact .inr (.inl h1)
  · exact h1.elim
theorem RInv.skip {w : Wd} {l : List W32} {o : W32 → Int} {kv : List (W32 × Int)} {s u : W32} {c : Int} {r : List (W32 × Int)} (h : RInv w l o kv (fun t u' c' => t = s ∧ (u', c') ∈ (u, c) :: r)) (hn : ¬ o s + c < o u) :
    RInv w l o kv (fun t u' c' => t = s ∧ (u', c') ∈ r) :=
  ⟨h.nn, h.le, h.att, h.goal, h.key, h.nd, fun t u' c' ha => by
    rcases h.arcs t u' c' ha with h1 | h1 | ⟨rfl, h1⟩
    · exact .inl h1
    · exact .inr (.inl h1)
    · rcases List.mem_cons.1 h1 with e | h1
      · cases e
        exact .inr (.inl (by omega))
      · exact .inr (.inr ⟨rfl, h1⟩)⟩
theorem RInv.relax {w : Wd} (hc : CostOk w) {l : List W32} {o : W32 → Int} {kv kv' : List (W32 × Int)} {s u : W32} {c : Int} {r : List (W32 × Int)} (h : RInv w l o kv (fun t u' c' => t = s ∧ (u', c') ∈ (u, c) :: r)) (hs : s ∈ l) (hA : (s, u, c) ∈ arcsL w l)
    (hlt : o s + c < o u) (hp : kv'.Perm ((u, o s + c) :: kv.filter fun p => p.1 != u)) :
    RInv w l (updO o u (o s + c)) kv' (fun t u' c' => t = s ∧ (u', c') ∈ r) ∧ updO o u (o s + c) s = o s ∧ u ∈ l ∧ 0 ≤ o s + c := by
  obtain ⟨hu, i, hst⟩ := mem_arcsL.1 hA
  have hcc := step_cost hc hst
  simp only at hcc
  have h0 := h.nn s hs
  have hne : s ≠ u := fun e => by rw [← e] at hlt; omega
  have hle := h.le u hu
  have e1 : ∀ x, x ≠ u → updO o u (o s + c) x = o x := fun x hx => by unfold updO; rw [if_neg hx]
  have e2 : updO o u (o s + c) u = o s + c := by unfold updO; rw [if_pos rfl]
  refine ⟨RInv.perm ?_ hp.symm, e1 s hne, hu, by omega⟩
  refine ⟨fun x hx => ?_, fun x hx => ?_, fun x hx => ?_, fun x hx hg => ?_, fun p hp => ?_, ?_, fun t u' c' ha => ?_⟩
  · by_cases e : x = u
    · subst e; rw [e2]; omega
    · rw [e1 x e]; exact h.nn x hx
  · by_cases e : x = u
    · subst e; rw [e2]; omega
    · rw [e1 x e]; exact h.le x hx
  · by_cases e : x = u
    · subst e
      rw [e2]
      refine .inr ?_
      have hw : WayTo w s (o s) := by
        rcases h.att s hs with e | e
        · omega
        · exact e
      have := WayTo.step (e := (i, c, s)) hst hw
      simp only at this
      rw [Int.add_comm]
      exact this
    · rw [e1 x e]; exact h.att x hx
  · by_cases e : x = u
    · subst e
      have := h.goal x hx hg
      omega
    · rw [e1 x e]; exact h.goal x hx hg
  · rcases List.mem_cons.1 hp with rfl | hp
    · exact ⟨hu, e2.symm, by show o s + c < INF; omega⟩
    · obtain ⟨h1, h2⟩ := List.mem_filter.1 hp
      have h3 : p.1 ≠ u := by simpa using h2
      obtain ⟨k1, k2, k3⟩ := h.key p h1
      exact ⟨k1, by rw [e1 _ h3]; exact k2, k3⟩
  · rw [List.map_cons, List.nodup_cons]
    refine ⟨fun hm => ?_, ?_⟩
    · obtain ⟨p, h1, h2⟩ := List.mem_map.1 hm
      have := (List.mem_filter.1 h1).2
      simp at this
      exact this h2
    · exact (List.Sublist.map Prod.fst List.filter_sublist).nodup h.nd
  · by_cases e : t = u
    · exact .inl (by simp [e])
    · rcases h.arcs t u' c' ha with h1 | h1 | ⟨rfl, h1⟩
      · obtain ⟨p, h2, h3⟩ := List.mem_map.1 h1
        refine .inl ?_
        rw [List.map_cons, List.mem_cons]
        refine .inr (List.mem_map.2 ⟨p, List.mem_filter.2 ⟨h2, ?_⟩, h3⟩)
        simpa [h3] using e
      · refine .inr (.inl ?_)
        rw [e1 t e]
        by_cases e3 : u' = u
        · subst e3; rw [e2]; omega
        · rw [e1 u' e3]; exact h1
      · rcases List.mem_cons.1 h1 with e4 | h1
        · cases e4
          refine .inr (.inl ?_)
          rw [e2, e1 _ hne]
          omega
        · exact .inr (.inr ⟨rfl, h1⟩)
theorem RInv.least {w : Wd} {l : List W32} {o : W32 → Int} (h : RInv w l o [] fun _ _ _ => False) (hcl : ∀ s ∈ l, ∀ e ∈ w.steps s, e.2.2 ∈ l) : ∀ s ∈ l, Least w s (o s) := by
  have key : ∀ s c, WayTo w s c → s ∈ l → o s ≤ c := by
    intro s c hw
    induction hw with
    | goal hg => intro hs; rw [h.goal _ hs hg]; omega
    | @step s e c he _ ih =>
      intro hs
      have ht := hcl s hs e he
      have := ih ht
      rcases h.arcs e.2.2 s e.2.1 (mem_arcsL.2 ⟨hs, e.1, he⟩) with h1 | h1 | h1
      · simp at h1
      · omega
      · exact h1.elim
  exact fun s hs => ⟨h.le s hs, fun c hw => key s c hw hs, h.att s hs⟩
def o0 (w : Wd) (s : W32) : Int := if w.isGoal s = true then 0 else INF
def kv0 (w : Wd) (l : List W32) : List (W32 × Int) := (l.filter w.isGoal).map fun s => (s, 0)
theorem RInv.start {w : Wd} (hc : CostOk w) {l : List W32} (hnd : l.Nodup) (hcl : ∀ s ∈ l, ∀ e ∈ w.steps s, e.2.2 ∈ l) {kv : List (W32 × Int)} (hp : kv.Perm (kv0 w l)) : RInv w l (o0 w) kv fun _ _ _ => False := by
  refine RInv.perm ?_ hp.symm
  have hg : ∀ s, w.isGoal s = true → o0 w s = 0 := fun s h => by unfold o0; rw [if_pos h]
  have hng : ∀ s, ¬ w.isGoal s = true → o0 w s = INF := fun s h => by unfold o0; rw [if_neg h]
  have hI : (0 : Int) < INF := by decide
  refine ⟨fun s _ => ?_, fun s _ => ?_, fun s _ => ?_, fun s _ h => hg s h, fun p hp => ?_, ?_, fun t u c ha => ?_⟩
  · by_cases h : w.isGoal s = true
    · rw [hg s h]; omega
    · rw [hng s h]; omega
  · by_cases h : w.isGoal s = true
    · rw [hg s h]; omega
    · rw [hng s h]; omega
  · by_cases h : w.isGoal s = true
    · rw [hg s h]; exact .inr (.goal h)
    · exact .inl (hng s h)
  · obtain ⟨s, h1, rfl⟩ := List.mem_map.1 hp
    obtain ⟨h2, h3⟩ := List.mem_filter.1 h1
    exact ⟨h2, (hg s h3).symm, hI⟩
  · unfold kv0
    rw [List.map_map]
    have : (Prod.fst ∘ fun s : W32 => (s, (0 : Int))) = id := rfl
    rw [this, List.map_id]
    exact List.filter_sublist.nodup hnd
  · obtain ⟨hu, i, hst⟩ := mem_arcsL.1 ha
    have hcc := (step_cost hc hst).1
    simp only at hcc
    have hm : t ∈ l := hcl u hu _ hst
    by_cases h : w.isGoal t = true
    · refine .inl ?_
      unfold kv0
      rw [List.map_map]
      exact List.mem_map.2 ⟨t, List.mem_filter.2 ⟨hm, h⟩, rfl⟩
    · refine .inr (.inl ?_)
      rw [hng t h]
      by_cases h2 : w.isGoal u = true
      · rw [hg u h2]; omega
      · rw [hng u h2]; omega
end Hm
end
section
namespace Hm
open Go
set_option maxRecDepth 100000
set_option maxHeartbeats 1000000
theorem factsTo_len (w : W32) : ∀ n, (factsTo w n).length ≤ n
  | 0 => Nat.le_refl _
  | n + 1 => by
    have := factsTo_len w n
    rw [factsTo, List.length_append]
    split <;> simp <;> omega
theorem u32_beq (a b : W32) : ((a.toNat : Int) == (b.toNat : Int)) = (a == b) := by
  by_cases h : a = b
  · subst h; simp
  · have h1 : (a == b) = false := by simpa using h
    have h2 : ¬ a.toNat = b.toNat := fun e => h (BitVec.eq_of_toNat_eq e)
    rw [h1]
    simp only [beq_eq_false_iff_ne, ne_eq, Int.natCast_inj]
    exact h2
def c_space_Facts : Cmd :=
 (qS [qq 2 (.mov (.c (.sl .nil [])))]
 (qS [qq 3 (.newVec 960193)]
 (qT (qS [qc 5 0]
 (.block 0 (.loop (qS [qv 6 .lss [] 5 32]
 (qT (.cond (.t 6) .skip (.exit 0))
 (qT (.block 1 (qS [qm 7 5, qm 4 7]
 (qS [qm 8 0, qm 9 4, qu 10 .shr [] 8 9, qq 11 (.bin .and false [] (.t 10) (.c (.int .u32 1))), qq 12 (.bin .eql false [.i] (.t 11) (.c (.int .u32 1)))]
 (.cond (.t 12) (.ops [qm 13 3, qm 14 4, qq 15 (.bsl 1 [.t 14]), qq 16 (.append 1 8 3 (.t 13) (.t 15)), qm 3 16]) .skip))))
 (.ops [qv 17 .add [] 5 1, qm 5 17])))))))
 (.seq (.ops [qm 18 3, qm 2 18]) .ret))))
def r_space_Facts : List RVar := [.tmp 2]
def n_space_Facts : Nat := 19
theorem k_space_Facts : chkFn Go.Proofs.Try.prog 15 n_space_Facts r_space_Facts c_space_Facts = true := by kernel_rfl
theorem f_space_Facts (w : W32) : Fc Go.Proofs.Try.prog 15 [u32V w] (.sl .p ((facts w).map i64V)) := by
  refine Fn.step mixed k_space_Facts ?_
  repeat (first | refine i_s rfl ?_ | refine sw ?_ | refine i_nv rfl ?_)
  refine c_for 32 (fun k => [(0, u32V w), (3, .sl (.own 960193) ((factsTo w k).map i64V)), (5, .int .i64 k)]) (fun k => [(960193, .vec (factsTo w k).length)]) (fun _ => True) trivial ft fun k hk _ => ?_
  repeat (first | refine i_s rfl ?_ | refine sw ?_)
  refine c_cond rfl (fun h => ?_) (fun h => ?_)
  · have hlt : k < 32 := by have : (k : Int) < 32 := by simpa using h
                            omega
    clear h
    have hlen := factsTo_len w k
    have hq := shr_bit w k hlt
    cases hb : w.getLsbD k with
    | true =>
      have et : factsTo w (k + 1) = factsTo w k ++ [(k : Int)] := by rw [factsTo, if_pos hb]
      rw [hb, if_pos rfl] at hq
      repeat' (first | refine i_s rfl ?_ | refine sw ?_ | refine c_t rfl ?_ | refine ja rfl rfl ?_ | refine i_shr rfl rfl (by omega) rfl ?_ | refine i_and rfl rfl rfl hq ?_ | refine i_appM (c := (k : Int)) rfl rfl rfl rfl rfl (by omega) (by omega) ?_)
      all_goals first
        | (exfalso; simp at *; done)
        | (refine e_for hlt trivial ⟨⟨rfl, ?_, rfl, trivial⟩, ⟨?_, trivial⟩, rfl⟩
           · rw [et]; rfl
           · rw [et, List.length_append]; rfl)
    | false =>
      have et : factsTo w (k + 1) = factsTo w k := by rw [factsTo, if_neg (by rw [hb]; decide)]; simp
      rw [hb, if_neg (by decide)] at hq
      repeat' (first | refine i_s rfl ?_ | refine sw ?_ | refine c_f rfl ?_ | refine ja rfl rfl ?_ | refine i_shr rfl rfl (by omega) rfl ?_ | refine i_and rfl rfl rfl hq ?_)
      all_goals first
        | (exfalso; simp at *; done)
        | (refine e_for hlt trivial ⟨⟨rfl, ?_, rfl, trivial⟩, ⟨?_, trivial⟩, rfl⟩
           · rw [et]; rfl
           · rw [et]; rfl)
  · have hge : k = 32 := by have : ¬ (k : Int) < 32 := by simpa using h
                            omega
    subst hge
    repeat' (first | refine i_s rfl ?_ | refine sw ?_ | fail)
    exact e_ret ⟨rfl, _, rfl, rfl⟩
def c_space_Words_Goal : Cmd :=
 (qS [qb 4 false]
 (.seq (.ops [qm 5 1, qm 6 0, qq 7 (.nilck (.t 6)), qf 8 1 7, ql 9 1 8, qu 10 .and [] 5 9, qm 11 0, qq 12 (.nilck (.t 11)), qf 13 1 12, ql 14 1 13, qu 15 .eql [.i] 10 14, qm 4 15]) .ret))
def r_space_Words_Goal : List RVar := [.tmp 4]
def n_space_Words_Goal : Nat := 16
theorem k_space_Words_Goal : chkFn Go.Proofs.Try.prog 35 n_space_Words_Goal r_space_Words_Goal c_space_Words_Goal = true := by kernel_rfl
theorem f_space_Words_Goal (w : Wd) (s : W32) : Fc Go.Proofs.Try.prog 35 [.cptr .p (wdR w) 0, u32V s] (.bool (w.isGoal s)) := by
  refine Fn.step mixed k_space_Words_Goal ?_
  repeat' (first | refine i_s rfl ?_ | refine sw ?_ | refine w_and rfl rfl ?_)
  all_goals exact e_ret ⟨rfl, _, rfl, congrArg V.bool (u32_beq _ _).symm⟩
def c_space_Words_Steps : Cmd :=
 (qS [qx 2 2368129 1 0, qx 3 2368193 1 1, qq 4 (.mov (.c (.nilfn)))]
 (.seq (.ops [qq 5 (.mkfn 53 [.t 2, .t 3]), qm 4 5]) .ret))
def r_space_Words_Steps : List RVar := [.tmp 4]
def n_space_Words_Steps : Nat := 6
theorem k_space_Words_Steps : chkFn Go.Proofs.Try.prog 37 n_space_Words_Steps r_space_Words_Steps c_space_Words_Steps = true := by kernel_rfl
theorem f_space_Words_Steps (w : Wd) (s : W32) : Fc Go.Proofs.Try.prog 37 [.cptr .p (wdR w) 0, u32V s] (.fn 53 [.cptr .p (.cptr .p (wdR w) 0) 0, .cptr .p (u32V s) 0]) := by
  refine Fn.step mixed k_space_Words_Steps ?_
  repeat' (first | refine i_s rfl ?_ | refine sw ?_ | refine i_box rfl rfl ?_)
  exact e_ret ⟨rfl, _, rfl, rfl⟩
def c_space_Words_Steps_1 : Cmd :=
 (qS [ql 6 1 1, qq 7 (.nilck (.t 6)), qf 8 2 7, ql 9 1 8, qn 10 9, qc 11 0]
 (.block 0 (.loop (qS [qu 12 .lss [] 11 10]
 (qT (.cond (.t 12) .skip (.exit 0))
 (qT (.block 1 (qS [qm 13 11, qi 14 4 9 11, qL 15 4 14, qq 5 (.alloc 3392324 (.agg [.int .u32 0, .int .u32 0, .int .u32 0, .int .i64 0])), qm 4 13, qs 4 5 15]
 (qS [ql 16 1 2, qf 17 0 5, ql 18 1 17, qu 19 .and [] 16 18, qf 20 0 5, ql 21 1 20, qu 22 .eql [.i] 19 21, qm 23 22, qg 24 23 true (.mov (.t 0)), qg 25 23 true (.mov (.t 4)), qg 26 23 true (.faddr 3 (.t 5)), qg 27 23 true (.load false 1 (.t 26)), qg 28 23 true (.load false 1 (.t 2)), qg 29 23 true (.faddr 2 (.t 5)), qg 30 23 true (.load false 1 (.t 29)), qg 31 23 true (.bin .andNot false [] (.t 28) (.t 30)), qg 32 23 true (.faddr 1 (.t 5)), qg 33 23 true (.load false 1 (.t 32)), qg 34 23 true (.bin .or false [] (.t 31) (.t 33)), qg 35 23 true (.build [.int .i64 0, .int .i64 0, .int .u32 0] [(0 , 1 , .t 25), (1 , 1 , .t 27), (2 , 1 , .t 34)]), qg 36 23 true (.call .y (.t 24) [.t 35]), qg 37 23 true (.not (.t 36)), qq 38 (.pick (.t 23) (.t 37) (.c (.bool false)))]
 (.cond (.t 38) .ret .skip))))
 (.ops [qv 39 .add [] 11 1, qm 11 39])))))))
def r_space_Words_Steps_1 : List RVar := []
def n_space_Words_Steps_1 : Nat := 40
theorem k_space_Words_Steps_1 : chkFn Go.Proofs.Try.prog 53 n_space_Words_Steps_1 r_space_Words_Steps_1 c_space_Words_Steps_1 = true := by kernel_rfl
theorem ct_Steps_1 {G : Type} {H : HT G} (w : Wd) (s : W32) (hl : w.ops.length ≤ 140737488355328) (g0 : G) (K : G → Prop) (hy0 : YL H ((w.steps s).map fun e => [stV e]) g0 K) :
    Cc Go.Proofs.Try.prog H 53 [.rnd, .cptr .p (.cptr .p (wdR w) 0) 0, .cptr .p (u32V s) 0] [] (stOf []) g0 fun _ σ' g' => σ' = stOf [] ∧ K g' := by
  refine CT.step _ mixed k_space_Words_Steps_1 (fun nm hnm => stOf_mem _ nm hnm) fun hM => ?_
  repeat (first | refine i_len rfl ?_ | refine i_s rfl ?_ | refine sw ?_)
  refine c_loop (ι := Nat × G) (fun i => [(0, .rnd), (1, .cptr .p (.cptr .p (wdR w) 0) 0), (2, .cptr .p (u32V s) 0), (9, .sl .p (w.ops.map mkV)), (10, .int .i64 w.ops.length), (11, .int .i64 i.1)]) (fun i => []) (fun i => i.2)
    (fun i => i.1 ≤ w.ops.length ∧ YL H ((stepsFrom s (w.ops.drop i.1) i.1).map fun e => [stV e]) i.2 K) (fun i => w.ops.length - i.1) (0, g0) ⟨Nat.zero_le _, hy0⟩ ft rfl fun i hi => ?_
  obtain ⟨k, g⟩ := i
  obtain ⟨h1, hy⟩ := hi
  simp only at h1 hy
  clear hy0
  repeat (first | refine i_s rfl ?_ | refine sw ?_)
  refine c_cond rfl (fun h => ?_) (fun h => ?_)
  · have hlt : k < w.ops.length := by simpa using h
    obtain ⟨m, hm⟩ := get_some hlt
    clear h
    have ed : w.ops.drop k = m :: w.ops.drop (k + 1) := by
      rw [List.drop_eq_getElem_cons hlt]
      congr 1
      exact (List.getElem?_eq_some_iff.1 hm).2
    rw [ed, stepsFrom] at hy
    by_cases hc : m.can s = true
    · rw [if_pos hc] at hy
      have hc2 : (((s &&& m.pre).toNat : Int) == (m.pre.toNat : Int)) = true := by rw [u32_beq]; exact hc
      repeat' (first | refine i_s rfl ?_ | refine sw ?_ | refine i_gt rfl ?_ | refine i_gf rfl ?_ | refine c_f rfl ?_ | refine ja rfl rfl ?_ | refine jd rfl rfl ?_ | refine i_stb rfl ?_ | refine i_alloc rfl ?_ | refine i_g rfl (fun h => ?_) (fun h => ?_) | refine w_and rfl rfl ?_ | refine w_andn rfl rfl ?_ | refine w_or rfl rfl ?_)
      all_goals first
        | (exfalso; simp_all; done)
        | (refine i_y hM rfl rfl rfl (hM _ _ _ _ (fun u g' hu => ?_) hy)
           rcases hu with ⟨rfl, hu⟩ | ⟨rfl, hu⟩
           · repeat' (first | refine i_s rfl ?_ | refine sw ?_ | refine i_gt rfl ?_ | refine c_f rfl ?_ | refine ja rfl rfl ?_ | fail)
             exact e_loop ⟨(k + 1, g'), ⟨by simp only; omega, hu⟩, ft, rfl, by simp only; omega⟩
           · repeat' (first | refine i_s rfl ?_ | refine sw ?_ | refine i_gt rfl ?_ | refine c_t rfl ?_)
             exact e_ret ⟨rfl, _, rfl, rfl, rfl, restr_stOf _ _, hu⟩)
    · rw [if_neg hc, List.nil_append] at hy
      have hc2 : (((s &&& m.pre).toNat : Int) == (m.pre.toNat : Int)) = false := by rw [u32_beq]; exact Bool.eq_false_iff.2 hc
      repeat' (first | refine i_s rfl ?_ | refine sw ?_ | refine i_gt rfl ?_ | refine i_gf rfl ?_ | refine c_f rfl ?_ | refine ja rfl rfl ?_ | refine jd rfl rfl ?_ | refine i_stb rfl ?_ | refine i_alloc rfl ?_ | refine i_g rfl (fun h => ?_) (fun h => ?_) | refine w_and rfl rfl ?_)
      all_goals first
        | (exfalso; simp_all; done)
        | exact e_loop ⟨(k + 1, g), ⟨by simp only; omega, hy⟩, ft, rfl, by simp only; omega⟩
  · have hge : k = w.ops.length := by have : ¬ k < w.ops.length := by simpa using h
                                      omega
    subst hge
    rw [List.drop_of_length_le (Nat.le_refl _)] at hy
    repeat refine sw ?_
    exact e_end ⟨rfl, _, rfl, rfl, rfl, restr_stOf _ _, hy⟩
end Hm
end
section
namespace Hm
open Go
set_option maxRecDepth 100000
set_option maxHeartbeats 2000000
def InW (l : List Int) : Prop := (∀ p ∈ l, 0 ≤ p ∧ p < 32) ∧ l.length ≤ 140737488355328
structure WdT (t : STask) : Prop where
  init : InW t.init
  goal : InW t.goal
  ops : ∀ o ∈ t.ops, InW o.pre ∧ InW o.add ∧ InW o.del
  len : t.ops.length ≤ 1000000
def c_space_Of : Cmd :=
 (qS [qx 1 1856068 4 0, qq 2 (.mov (.c (.nilptr)))]
 (.seq (.ops [qf 6 1 1, ql 7 1 6, qk 8 41 [7], qf 9 2 1, ql 10 1 9, qk 11 41 [10], qq 12 (.build [.int .u32 0, .int .u32 0, .sl .nil []] [(0 , 1 , .t 8), (1 , 1 , .t 11)]), qx 13 1856835 3 12, qm 3 13]) (.nvb 13 2 1864452 (.cut (qT (qS [qf 14 3 1, ql 15 1 14, qn 16 15, qc 17 0]
 (.block 0 (.loop (qS [qu 18 .lss [] 17 16]
 (qT (.cond (.t 18) .skip (.exit 0))
 (qT (.block 1 (qS [qi 19 4 15 17, qL 20 4 19, qq 5 (.alloc 1856324 (.agg [.sl .nil [], .sl .nil [], .sl .nil [], .int .i64 0])), qs 4 5 20]
 (.ops [qm 21 3, qm 22 3, qq 23 (.nilck (.t 22)), qf 24 2 23, ql 25 1 24, qf 26 0 5, ql 27 1 26, qk 28 41 [27], qf 29 1 5, ql 30 1 29, qk 31 41 [30], qf 32 2 5, ql 33 1 32, qk 34 41 [33], qf 35 3 5, ql 36 1 35, qq 37 (.build [.int .u32 0, .int .u32 0, .int .u32 0, .int .i64 0] [(0 , 1 , .t 28), (1 , 1 , .t 31), (2 , 1 , .t 34), (3 , 1 , .t 36)]), qq 38 (.bsl 4 [.t 37]), qq 39 (.append 4 24 105 (.t 25) (.t 38)), qq 40 (.nilck (.t 21)), qf 41 2 40, qs 1 41 39])))
 (.ops [qv 42 .add [] 17 1, qm 17 42])))))))
 (.seq (.ops [qm 43 3, qm 2 43]) .ret))))))
def r_space_Of : List RVar := [.tmp 2]
def n_space_Of : Nat := 44
theorem k_space_Of : chkFn Go.Proofs.Try.prog 29 n_space_Of r_space_Of c_space_Of = true := by kernel_rfl
theorem f_space_Of (t : STask) (ht : WdT t) : Fc Go.Proofs.Try.prog 29 [skV t] (.cptr .p (wdR (wdOf t)) 0) := by
  have hI := f_space_Word t.init ht.init.1 ht.init.2
  have hG := f_space_Word t.goal ht.goal.1 ht.goal.2
  have hlen := ht.len
  refine Fn.step mixed k_space_Of ?_
  repeat' (first | refine i_s rfl ?_ | refine sw ?_ | refine i_box rfl rfl ?_ | refine sf rfl rfl hI ?_ | refine sf rfl rfl hG ?_ | fail)
  all_goals
    refine c_nvb rfl rfl rfl rfl ?_
    repeat (first | refine i_len rfl ?_ | refine i_s rfl ?_ | refine sw ?_)
    refine c_for t.ops.length (fun k => [(1, .bptr 1856068 0), (3, .bptr 1856835 0), (15, .sl .p (t.ops.map soV)), (16, .int .i64 t.ops.length), (17, .int .i64 k)])
      (fun k => [(1856068, .box (skV t)), (1856835, .box (.agg [u32V (word t.init), u32V (word t.goal), .sl (.own 1864452) (((t.ops.take k).map mkOf).map mkV)])), (1864452, .vec ((t.ops.take k).map mkOf).length)]) (fun _ => True) trivial ft fun k hk _ => ?_
    repeat (first | refine i_s rfl ?_ | refine sw ?_)
    refine c_cond rfl (fun h => ?_) (fun h => ?_)
    · have hlt : k < t.ops.length := by simpa using h
      obtain ⟨o, ho⟩ := get_some hlt
      obtain ⟨h1, h2, h3⟩ := ht.ops o (mem_get ho)
      have hP := f_space_Word o.pre h1.1 h1.2
      have hA := f_space_Word o.add h2.1 h2.2
      have hD := f_space_Word o.del h3.1 h3.2
      have et : (t.ops.take (k + 1)).map mkOf = (t.ops.take k).map mkOf ++ [mkOf o] := by rw [List.take_add_one, ho]; simp
      have hml : ((t.ops.take k).map mkOf).length ≤ 1000000 := by simp; omega
      clear h hI hG
      repeat' (first | refine i_s rfl ?_ | refine sw ?_ | refine ja rfl rfl ?_ | refine jd rfl rfl ?_ | refine i_stb rfl ?_ | refine i_alloc rfl ?_ | refine sf rfl rfl hP ?_ | refine sf rfl rfl hA ?_ | refine sf rfl rfl hD ?_ | refine i_appM (c := mkOf o) rfl rfl rfl rfl rfl (by omega) (by omega) ?_)
      all_goals first
        | (refine e_for hlt trivial ⟨⟨rfl, rfl, rfl, rfl, rfl, trivial⟩, ⟨rfl, ?_, ?_, trivial⟩, rfl⟩
           · rw [et]; rfl
           · rw [et, List.length_append]; rfl)
    · have hge : k = t.ops.length := by have : ¬ k < t.ops.length := by simpa using h
                                        omega
      subst hge
      rw [List.take_length]
      repeat' (first | refine i_s rfl ?_ | refine sw ?_ | fail)
      exact e_ret ⟨rfl, _, rfl, rfl⟩
theorem m_Start : methF Go.Proofs.Try.prog 43 "Start" = some (16, true) := by kernel_rfl
theorem m_Steps : methF Go.Proofs.Try.prog 43 "Steps" = some (37, true) := by kernel_rfl
def toI (x : W32) : Int := x.toNat
theorem toI_inj {x y : W32} (h : toI x = toI y) : x = y := BitVec.eq_of_toNat_eq (Int.ofNat_inj.1 h)
theorem idx_none {sn : List W32} {x : W32} (h : x ∉ sn) : (sn.map toI).idxOf? (toI x) = none := by
  rw [List.idxOf?_eq_none_iff]
  intro hm
  obtain ⟨y, hy, e⟩ := List.mem_map.1 hm
  exact h (toI_inj e ▸ hy)
theorem idx_some {sn : List W32} {x : W32} (h : x ∈ sn) : ∃ i, (sn.map toI).idxOf? (toI x) = some i ∧ i < sn.length := by
  cases hi : (sn.map toI).idxOf? (toI x) with
  | none => exact absurd (List.mem_map_of_mem (f := toI) h) (List.idxOf?_eq_none_iff.1 hi)
  | some i =>
    have h1 : (sn.map toI).findIdx? (· == toI x) = some i := hi
    obtain ⟨h2, _⟩ := List.findIdx?_eq_some_iff_getElem.1 h1
    exact ⟨i, rfl, by simpa using h2⟩
def unitV : V := .agg []
theorem seen_get (sn : List W32) (x : W32) : mres true (.agg []) (mgetv (sn.map toI) (sn.map fun _ => unitV) (toI x)) = .tup [.agg [], .bool (decide (x ∈ sn))] := by
  by_cases h : x ∈ sn
  · obtain ⟨i, h1, h2⟩ := idx_some h
    rw [decide_eq_true h]
    simp only [mgetv, h1, Option.bind_some, List.getElem?_map, List.getElem?_eq_getElem h2, Option.map_some, mres, unitV]
  · rw [decide_eq_false h]
    simp only [mgetv, idx_none h, Option.bind_none, mres]
theorem seen_put {sn : List W32} {x : W32} (h : x ∉ sn) : msetB .u32 (sn.map toI) (sn.map fun _ => unitV) (toI x) (.agg []) = .mp .u32 ((sn ++ [x]).map toI) ((sn ++ [x]).map fun _ => unitV) := by
  simp only [msetB, idx_none h, List.map_append, List.map_cons, List.map_nil, unitV]
theorem pushAll_len : ∀ (l : List W32) (a : List W32 × List W32), a.1.length ≤ (pushAll a l).1.length ∧ (pushAll a l).1.length ≤ a.1.length + l.length
  | [], a => ⟨Nat.le_refl _, Nat.le_refl _⟩
  | y :: l, a => by
    have h := pushAll_len l (push1 a y)
    have h2 : a.1.length ≤ (push1 a y).1.length ∧ (push1 a y).1.length ≤ a.1.length + 1 := by unfold push1; split <;> simp
    have e : pushAll a (y :: l) = pushAll (push1 a y) l := rfl
    rw [e, List.length_cons]
    omega
theorem stepsFrom_len (s : W32) : ∀ (l : List Mk) (k : Nat), (stepsFrom s l k).length ≤ l.length
  | [], _ => Nat.le_refl _
  | m :: r, k => by
    have := stepsFrom_len s r (k + 1)
    rw [stepsFrom, List.length_append, List.length_cons]
    split <;> simp <;> omega
theorem succs_len (w : Wd) (s : W32) : (succs w s).length ≤ w.ops.length := by
  unfold succs Wd.steps
  rw [List.length_map]
  exact stepsFrom_len _ _ _
theorem YL_inv {G : Type} {α : Type} {f : α → List V} {H' : HT G} {K : G → Prop} (I : List α → G → Prop) (hs : ∀ c r s, I (c :: r) s → ∀ K : V → G → Prop, (∀ s', I r s' → K (.bool true) s') → H' (f c) s K) (he : ∀ s, I [] s → K s) : ∀ (l : List α) (s : G), I l s → YL H' (l.map f) s K
  | [], s, h => he s h
  | c :: r, s, h => hs c r s h _ fun s' h' => .inl ⟨rfl, YL_inv I hs he r s' h'⟩
abbrev aS (out st sn : List W32) (g6 gen : Nat) (rows : List V) : List (Nat × Blk) := [(1920833, .arr gen rows), (1920896, .mp .u32 (sn.map toI) (sn.map fun _ => unitV)), (1920257, .box (.msl 1920833 gen 0 st.length)), (1920321, .box (.mp 1920896)), (1920385, .arr g6 (out.map u32V))]
def c_space_All_uint32 : Cmd :=
 (qS [qq 2 (.mov (.c (.sl .nil []))), qb 3 false]
 (qS [qm 11 0, qq 12 (.callM .f "Start" (.t 11) []), qq 13 (.bslA 1920833 1 [.t 12]), qq 4 (.alloc 1920257 (.sl .nil [])), qs 1 4 13]
 (qS [qq 14 (.mkMap 1920896 .u32), qm 15 0, qq 16 (.callM .f "Start" (.t 15) []), qq 17 (.build [] []), .op none none (.mput (.t 14) (.t 16) (.t 17)), qm 18 14, qq 5 (.alloc 1920321 (.nilmp)), qs 1 5 18]
 (qS [qq 6 (.newArr 1920385)]
 (qT (.block 0 (.loop (qT (qS [ql 19 1 4, qn 20 19, qv 21 .gtr [] 20 0]
 (.cond (.t 21) .skip (.exit 0)))
 (.block 1 (qS [ql 22 1 4, ql 23 1 4, qn 24 23, qv 25 .sub [] 24 1, qi 26 1 22 25, ql 27 1 26, qm 7 27]
 (qS [ql 28 1 4, ql 29 1 4, qn 30 29, qv 31 .sub [] 30 1, qq 32 (.slice false 1 (.t 28) none (some (.t 31))), qs 1 4 32]
 (qS [qm 33 6, qm 34 7, qq 35 (.bsl 1 [.t 34]), qq 36 (.append 1 4 49 (.t 33) (.t 35)), qm 6 36]
 (qT (qS [qm 37 0, qm 38 7, qq 39 (.callM .f "Steps" (.t 37) [.t 38])]
 (.block 2 (.rangeF [] (.t 39) [40] (.ops [qq 8 (.alloc 1920515 (.agg [.int .i64 0, .int .i64 0, .int .u32 0])), qs 3 8 40]) (.block 3 (qS [ql 42 1 5, qf 43 2 8, ql 44 1 43, qq 45 (.mget true (.agg []) (.t 42) (.t 44)), qm 41 45, qq 46 (.extract (.t 41) 0), qq 47 (.extract (.t 41) 1), qq 9 (.alloc 1920576 (.agg [])), qs 0 9 46, qm 10 47]
 (qS [qm 48 10, qq 49 (.not (.t 48))]
 (.cond (.t 49) (qS [ql 50 1 5, qf 51 2 8, ql 52 1 51, qq 53 (.build [] []), .op none none (.mput (.t 50) (.t 52) (.t 53))]
 (.ops [ql 54 1 4, qf 55 2 8, ql 56 1 55, qq 57 (.bsl 1 [.t 56]), qq 58 (.append 1 4 49 (.t 54) (.t 57)), qs 1 4 58])) .skip)))))))
 (qS [ql 59 1 5, qq 60 (.mlen (.t 59)), qv 61 .gtr [] 60 2000]
 (.cond (.t 61) (.seq (.ops [qq 2 (.mov (.c (.sl .nil []))), qb 3 false]) .ret) .skip))))))))))
 (.seq (.ops [qm 62 6, qm 2 62, qb 3 true]) .ret))))))
def r_space_All_uint32 : List RVar := [.tmp 2, .tmp 3]
def n_space_All_uint32 : Nat := 63
theorem k_space_All_uint32 : chkFn Go.Proofs.Try.prog 30 n_space_All_uint32 r_space_All_uint32 c_space_All_uint32 = true := by kernel_rfl
abbrev aE (w : Wd) (out : List W32) (g6 : Nat) : List (Nat × V) := [(0, .ifv 43 (.cptr .p (wdR w) 0)), (4, .bptr 1920257 0), (5, .bptr 1920321 0), (6, .msl 1920385 g6 0 out.length)]
structure SA where
  out : List W32
  st : List W32
  sn : List W32
  g6 : Nat
  gen : Nat
  rows : List V
def aI {G : Type} (g0 : G) (w : Wd) (out : List W32) (g6 : Nat) (s : W32) (st sn : List W32) (rem : List (Nat × Int × W32)) (x : RG G) : Prop := x.2.2 = none ∧ x.2.1 = g0 ∧ ∃ (st2 sn2 : List W32) (gen2 : Nat) (rows2 : List V), x.1 = stOf (aS (out ++ [s]) st2 sn2 (g6 + 1) gen2 rows2) ∧ rows2.take st2.length = st2.map u32V ∧
  pushAll (st2, sn2) (rem.map fun e => e.2.2) = pushAll (st, sn) (succs w s)
def AllPost (w : Wd) (v : V) (σ' : Store) : Prop := match allF w with
  | some l => ∃ g6, v = .tup [.msl 1920385 g6 0 l.length, .bool true] ∧ σ' = stOf [(1920385, .arr g6 (l.map u32V))]
  | none => v = .tup [.sl .nil [], .bool false]
theorem ct_All {G : Type} {H : HT G} {g : G} (w : Wd) (hl : w.ops.length ≤ 1000000) : Cc Go.Proofs.Try.prog H 30 [.ifv 43 (.cptr .p (wdR w) 0)] [1920385] (stOf []) g fun v σ' g' => AllPost w v σ' ∧ g' = g := by
  have hS := f_space_Words_Start w
  refine CT.step _ mixed k_space_All_uint32 (fun nm h => absurd rfl h) fun hM => ?_
  repeat (first | refine i_s rfl ?_ | refine sw ?_)
  refine i_fM rfl m_Start rfl rfl rfl hS rfl ?_
  skip
  refine i_bsla rfl rfl rfl rfl ?_
  repeat (first | refine sw ?_ | refine i_stb rfl ?_ | refine i_alloc rfl ?_)
  refine i_mkm rfl ?_
  repeat refine i_s rfl ?_
  refine i_fM rfl m_Start rfl rfl rfl hS rfl ?_
  repeat refine i_s rfl ?_
  refine i_mput rfl rfl rfl rfl rfl rfl ?_
  repeat (first | refine i_s rfl ?_ | refine sw ?_ | refine i_stb rfl ?_ | refine i_alloc rfl ?_)
  refine i_na rfl ?_
  repeat refine sw ?_
  refine c_lp (fun q : SA => aE w q.out q.g6) (fun q => aS q.out q.st q.sn q.g6 q.gen q.rows) (fun q => q.rows.take q.st.length = q.st.map u32V ∧ AllInv w q.st q.sn q.out ∧ q.sn.length ≤ 2000 ∧ allF w = allR w (2002 - q.out.length) q.st q.sn q.out) (fun q => 2002 - q.out.length) ⟨[], [w.start], [w.start], 0, 0, [u32V w.start]⟩
    ⟨rfl, ⟨by simp, by simp, by simp, by simp, by simp, fun x hx => by simp at hx; subst hx; exact .start, by simp, by simp, rfl⟩, by simp, rfl⟩ ft fun q hq => ?_
  obtain ⟨out, st, sn, g6, gen, rows⟩ := q
  obtain ⟨hrw, hI, hsn, hF⟩ := hq
  dsimp only at hrw hI hsn hF
  have hlen := hI.len
  rcases List.eq_nil_or_concat st with rfl | ⟨st', s, rfl⟩
  · have e : allF w = some out := by
      have hz : 2002 - out.length = (2001 - out.length) + 1 := by simp at hlen; omega
      rw [hF, hz]
      rfl
    repeat' (first | refine i_s rfl ?_ | refine i_lenm rfl rfl rfl ?_ | refine sw ?_ | refine c_f rfl ?_)
    all_goals first
      | (exfalso; simp at *; done)
      | exact e_ret ⟨rfl, _, rfl, rfl, rfl, by unfold AllPost; rw [e]; exact ⟨g6, rfl, restr_stOf _ _⟩, rfl⟩
  · rw [List.concat_eq_append] at hrw hI hF hlen ⊢
    have hln : (st' ++ [s]).length = st'.length + 1 := by simp
    have hrow : rows[st'.length]? = some (u32V s) := by
      have h9 := congrArg (fun l => l[st'.length]?) hrw
      simp only [hln, List.map_append, List.map_cons, List.map_nil] at h9
      rw [List.getElem?_take, if_pos (by omega), List.getElem?_append_right (by simp), List.length_map, Nat.sub_self] at h9
      simpa using h9
    have hz : 0 + (((st' ++ [s]).length : Int) - 1).toNat = st'.length := by omega
    have hst := f_space_Words_Steps w s
    have hol : out.length ≤ 2000 := by omega
    have hpos : ((st' ++ [s]).length : Int) > 0 := by omega
    repeat (first | refine i_s rfl ?_ | refine i_lenm rfl rfl rfl ?_ | refine sw ?_)
    refine c_cond rfl (fun h => ?_) (fun h => ?_)
    rotate_left
    · exfalso
      simp at h
    clear h
    repeat (first | refine i_s rfl ?_ | refine i_lenm rfl rfl rfl ?_ | refine sw ?_ | refine jb rfl rfl ?_)
    refine i_ima rfl rfl rfl rfl (by show 0 ≤ ((st' ++ [s]).length : Int) - 1; omega) (by show ((st' ++ [s]).length : Int) - 1 < ((st' ++ [s]).length : Nat); omega) rfl ?_
    refine i_ldp (row := u32V s) rfl rfl rfl (by show rows[0 + (((st' ++ [s]).length : Int) - 1).toNat]? = _; rw [hz]; exact hrow) rfl ?_
    repeat (first | refine i_s rfl ?_ | refine i_lenm rfl rfl rfl ?_ | refine sw ?_ | refine jb rfl rfl ?_)
    refine i_smh (k1 := .i64) (m := 0) (n := ((st' ++ [s]).length : Int) - 1) (len := (st' ++ [s]).length) rfl rfl rfl rfl rfl (by omega) (by omega) (by omega) rfl ?_
    have hm5 : V.msl 1920833 gen (0 + (0 : Int).toNat) ((((st' ++ [s]).length : Int) - 1).toNat - (0 : Int).toNat) = V.msl 1920833 gen 0 st'.length := by
      rw [show (((st' ++ [s]).length : Int) - 1).toNat - (0 : Int).toNat = st'.length from by omega]; rfl
    rw [hm5]
    repeat (first | refine i_s rfl ?_ | refine sw ?_ | refine i_stb rfl ?_)
    refine i_appmM [s] rfl rfl rfl rfl rfl (fun c _ => ⟨rfl, rfl⟩) (by show (out.length + 1) * 4 ≤ _; omega) (by show out.length + 1 ≤ _; omega) ?_
    repeat (first | refine i_s rfl ?_ | refine sw ?_)
    refine i_fM rfl m_Steps rfl rfl rfl hst rfl ?_
    repeat refine sw ?_
    refine c_rangeS (aE w (out ++ [s]) (g6 + 1)) (aS (out ++ [s]) st' sn (g6 + 1) gen rows) [1920833, 1920896, 1920257, 1920321, 1920385] [] (aS (out ++ [s]) st' sn (g6 + 1) gen rows) rfl
      ⟨⟨rfl, rfl, rfl, rfl, trivial⟩, ⟨rfl, rfl, rfl, rfl, rfl, trivial⟩, rfl⟩ rfl rfl rfl rfl ?_
    have hr0 : rows.take st'.length = st'.map u32V := by
      have h9 := congrArg (List.take st'.length) hrw
      rw [List.take_take, hln, Nat.min_eq_left (by omega), List.map_append, List.take_left' (by simp)] at h9
      exact h9
    have hst2 := allInv_step hI
    refine Cc_mono ?_ (ct_Steps_1 w s (by omega) _ (aI g w out g6 s st' sn []) (YL_inv (aI g w out g6 s st' sn) ?_ (fun s h => h) (w.steps s) _ ⟨rfl, rfl, st', sn, gen, rows, rfl, hr0, rfl⟩))
    · rintro v σ' x ⟨rfl, hx, hgx, st2, sn2, gen2, rows2, hσ2, hr2, hp2⟩
      obtain ⟨σx, gx, ox⟩ := x
      simp only at hx hσ2 hgx
      subst hx hσ2 hgx
      refine ⟨rfl, ?_⟩
      have hp3 : (st2, sn2) = pushAll (st', sn) (succs w s) := hp2
      rw [← hp3] at hst2
      have hF2 : allR w (2002 - out.length) (st' ++ [s]) sn out = if sn2.length > 2000 then none else allR w (2001 - out.length) st2 sn2 (out ++ [s]) := by
        have hz2 : 2002 - out.length = (2001 - out.length) + 1 := by omega
        rw [hz2]
        simp only [allR, List.getLast?_concat, List.dropLast_concat]
        rw [← hp3]
      rw [hF2] at hF
      show WE _ _ _ _ _ .normal _ _ _
      repeat (first | refine i_s rfl ?_ | refine sw ?_)
      refine i_mlen rfl ?_
      repeat (first | refine i_s rfl ?_ | refine sw ?_)
      refine c_cond rfl (fun h => ?_) (fun h => ?_)
      · have hb : sn2.length > 2000 := by have : ((sn2.map toI).length : Int) > 2000 := by simpa using h
                                          rw [List.length_map] at this
                                          omega
        have e : allF w = none := by rw [hF, if_pos hb]
        repeat (first | refine i_s rfl ?_ | refine sw ?_)
        exact e_ret ⟨rfl, _, rfl, rfl, rfl, by unfold AllPost; rw [e]; rfl, rfl⟩
      · have hb : ¬ sn2.length > 2000 := by have : ¬ ((sn2.map toI).length : Int) > 2000 := by simpa using h
                                            rw [List.length_map] at this
                                            omega
        rw [if_neg hb] at hF
        repeat refine sw ?_
        exact e_lp ⟨out ++ [s], st2, sn2, g6 + 1, gen2, rows2⟩ ⟨hr2, hst2, by show sn2.length ≤ 2000; omega, by show allF w = allR w (2002 - (out ++ [s]).length) st2 sn2 (out ++ [s]); rw [hF, List.length_append, List.length_singleton]; congr 1; omega⟩ (by show 2002 - (out ++ [s]).length < 2002 - out.length; rw [List.length_append, List.length_singleton]; omega) ft
    · intro e r x hx K hk
      obtain ⟨σx, gx, ox⟩ := x
      obtain ⟨hx, hgx, st2, sn2, gen2, rows2, hσ2, hr2, hp2⟩ := hx
      simp only at hx hσ2 hgx
      subst hx hσ2 hgx
      refine rh_intro hM rfl ?_
      repeat (first | refine sw ?_ | refine i_stb rfl ?_ | refine i_alloc rfl ?_)
      refine e_end ?_
      show WC _ _ _ _ [] _ _ _ _
      repeat (first | refine i_s rfl ?_ | refine sw ?_)
      refine i_mg rfl rfl rfl (seen_get sn2 e.2.2) ?_
      repeat (first | refine i_s rfl ?_ | refine sw ?_ | refine i_stb rfl ?_ | refine i_alloc rfl ?_)
      refine c_cond rfl (fun h => ?_) (fun h => ?_)
      · have hnm : e.2.2 ∉ sn2 := by simpa using h
        have hp3 : push1 (st2, sn2) e.2.2 = (st2 ++ [e.2.2], sn2 ++ [e.2.2]) := by unfold push1; rw [if_neg hnm]
        have hp4 : pushAll (push1 (st2, sn2) e.2.2) (r.map fun e => e.2.2) = pushAll (st', sn) (succs w s) := hp2
        rw [hp3] at hp4
        have hle : st2.length ≤ 2000000 := by
          have q1 := (pushAll_len (r.map fun e => e.2.2) (st2 ++ [e.2.2], sn2 ++ [e.2.2])).1
          have q2 := (pushAll_len (succs w s) (st', sn)).2
          have q3 := succs_len w s
          rw [hp4] at q1
          simp only [List.length_append, List.length_singleton] at q1 q2 hlen
          omega
        repeat (first | refine i_s rfl ?_ | refine sw ?_)
        refine i_mput rfl rfl rfl rfl rfl (seen_put hnm) ?_
        repeat (first | refine i_s rfl ?_ | refine sw ?_)
        refine i_appm rfl rfl rfl rfl rfl (fun row hr => by rw [List.mem_singleton.1 hr]; exact ⟨rfl, rfl⟩) (by show (st2.length + 1) * 4 ≤ _; omega) (by show st2.length + 1 ≤ _; omega) ?_
        repeat (first | refine sw ?_ | refine i_stb rfl ?_)
        refine e_end ?_
        refine rhq_n rfl rfl (hk _ ⟨rfl, rfl, st2 ++ [e.2.2], sn2 ++ [e.2.2], gen2 + 1, rows2.take st2.length ++ [u32V e.2.2], ?_, ?_, hp4⟩)
        · rw [show aS (out ++ [s]) (st2 ++ [e.2.2]) (sn2 ++ [e.2.2]) (g6 + 1) (gen2 + 1) (rows2.take st2.length ++ [u32V e.2.2]) = [(1920833, .arr (gen2 + 1) (rows2.take st2.length ++ [u32V e.2.2])), (1920896, .mp .u32 ((sn2 ++ [e.2.2]).map toI) ((sn2 ++ [e.2.2]).map fun _ => unitV)), (1920257, .box (.msl 1920833 (gen2 + 1) 0 (st2.length + 1))), (1920321, .box (.mp 1920896)), (1920385, .arr (g6 + 1) ((out ++ [s]).map u32V))] from by simp only [aS, List.length_append, List.length_singleton]]
          rfl
        · rw [hr2, List.take_of_length_le (by simp)]
          simp
      · have hnm : e.2.2 ∈ sn2 := by simpa using h
        have hp3 : push1 (st2, sn2) e.2.2 = (st2, sn2) := by unfold push1; rw [if_pos hnm]
        have hp4 : pushAll (push1 (st2, sn2) e.2.2) (r.map fun e => e.2.2) = pushAll (st', sn) (succs w s) := hp2
        rw [hp3] at hp4
        repeat refine sw ?_
        refine e_end ?_
        exact rhq_n rfl rfl (hk _ ⟨rfl, rfl, st2, sn2, gen2, rows2, rfl, hr2, hp4⟩)
end Hm
end
section
namespace Hm
open Go
set_option maxRecDepth 100000
set_option maxHeartbeats 4000000
section
variable {G : Type} {P : Program} {H : HT G} {pn : List Nat} {Q : Exit → Env → Store → G → Prop} {fs : List (Frm G)} {ρ : Env} {σ : Store} {g : G} {a b : Cmd} {r : List GItem} {d : Nat}
theorem without_nil : ∀ l : List Nat, without [] l = l
  | [] => rfl
  | n :: r => by
    show n :: without [] r = n :: r
    rw [without_nil r]
theorem c_range0 {ps : List Nat} {f : Opd} {fid : Nat} {caps : List V} (ns : List Nat) (E : List (Nat × V)) (hf : ev ρ f = .fn fid caps) (hE : FitsE E ρ) (hcl : Cl ns σ) (hout : ∀ nm, σ nm ≠ .unused → nm ∈ ns) (hpn : ∀ n ∈ pn, n ∈ ns) (hcE : closedE ns E = true) (hcaps : (closedL [] caps && noRndL caps) = true)
    (hc : Cc P (RH P H ns a b ps E) fid (.rnd :: caps) [] (stOf []) (σ, g, none) (fun _ _ st => match st.2.2 with
      | none => WE P H pn Q fs .normal (envOf E) st.1 st.2.1
      | some e => WE P H pn Q fs e (envOf E) st.1 st.2.1)) :
    WC P H pn Q fs (.rangeF [] f ps a b) ρ σ g := by
  have e1 : without [] ((lsn ns σ).map (·.1)) = ns := by rw [lsn_fst, without_nil]
  have e2 : restr ns (stOf (lsn ns σ)) = σ := by rw [stOf_lsn, restr_all (fun nm h => restr_mem nm h), restr_all hout]
  rw [Bool.and_eq_true] at hcaps
  refine c_range E (lsn ns σ) hf (fit_ns hE (fun _ _ => rfl) hcE hcl hpn) ?_ ?_
  · rw [e1, hcaps.1, hcaps.2, hcE]
    have h3 : closedSt ns (stOf (lsn ns σ)) ns = true := by rw [stOf_lsn]; exact hcl.restr
    rw [h3]
    rfl
  · rw [e1, e2]
    have e3 : restr [] (stOf (lsn ns σ)) = stOf [] := rfl
    rw [e3]
    refine Cc_mono (fun v σ1 st h => ⟨rfl, ?_⟩) hc
    have e4 : merge [] st.1 σ1 = st.1 := rfl
    rw [e4]
    exact h
theorem i_lenR {n : Nat} {v : V} {x : Opd} (hx : ev ρ x = v) (hv : (v = .sl .nil [] ∧ n = 0) ∨ ∃ b c, v = .rsl b n c) (h : WI P H pn Q fs r (upd ρ d (.int .i64 n)) σ g) : WI P H pn Q fs (.op (some d) none (.len false x) :: r) ρ σ g := by
  rcases hv with ⟨rfl, rfl⟩ | ⟨b, c, rfl⟩
  · exact i_s (by simp only [sop, hx]; rfl) h
  · exact i_s (by simp only [sop, hx]) h
theorem rhq_ns {ns : List Nat} {K : V → RG G → Prop} (hcl : Cl ns σ) (h : K (.bool true) (restr ns σ, g, none)) : rhQ ns K .normal ρ σ g :=
  rhq_n hcl rfl (by rw [← restr_stOf]; exact h)
end
theorem flatC_append : ∀ a b : List V, flatC (a ++ b) = flatC a ++ flatC b
  | [], _ => rfl
  | x :: a, b => by rw [List.cons_append, flatC, flatC, flatC_append a b, List.append_assoc]
structure BL where
  to : W32
  nm : Nat
  b : Nat
  c : Nat
  box : List V
def arcV (a : W32 × Int) : V := .agg [.int .u32 a.1.toNat, .int .i64 a.2]
theorem arc_len (l : List (W32 × Int)) : ∀ row ∈ l.map arcV, row.cells.length = 2 := fun row h => by
  obtain ⟨a, _, rfl⟩ := List.mem_map.1 h
  rfl
structure BLok (σ : Store) (A : List Arc) (v : BL) : Prop where
  hs : σ v.nm = .box (.tag v.b v.box)
  hl : v.box.length = v.c * 2
  hle : (bkOf A v.to).length ≤ v.c
  ht : v.box.take ((bkOf A v.to).length * 2) = flatC ((bkOf A v.to).map arcV)
  hp : ∀ u ∈ v.box, pureB u = true
structure BkF (A : List Arc) (F : Int → Option V) (bl : List BL) : Prop where
  here : ∀ v ∈ bl, F (v.to.toNat : Int) = some (.rsl v.b (bkOf A v.to).length v.c)
  gone : ∀ t : W32, (∀ v ∈ bl, v.to ≠ t) → F (t.toNat : Int) = none ∧ bkOf A t = []
theorem arc_at {σ : Store} {A : List Arc} {v : BL} (h : BLok σ A v) {j : Nat} {u : W32} {c : Int} (hj : (bkOf A v.to)[j]? = some (u, c)) : fzA (ldrow true 2 ((j : Int).toNat * 2) (.agg v.box)) = some (arcV (u, c)) := by
  rw [Int.toNat_natCast]
  have hlt := get_lt hj
  have hle := h.hle
  have hl := h.hl
  have hrow : ((bkOf A v.to).map arcV)[j]? = some (arcV (u, c)) := by rw [List.getElem?_map, hj]; rfl
  have h0 : v.box[j * 2]? = some (.int .u32 u.toNat) := by
    have h1 := flat_at (arc_len _) hrow (j := 0) (v := .int .u32 u.toNat) rfl
    rw [← h.ht, List.getElem?_take, if_pos (by omega)] at h1
    exact h1
  have h1 : v.box[j * 2 + 1]? = some (.int .i64 c) := by
    have h1 := flat_at (arc_len _) hrow (j := 1) (v := .int .i64 c) rfl
    rw [← h.ht, List.getElem?_take, if_pos (by omega)] at h1
    exact h1
  have e : (v.box.drop (j * 2)).take 2 = [.int .u32 u.toNat, .int .i64 c] := by
    obtain ⟨q0, e0⟩ := List.getElem?_eq_some_iff.1 h0
    obtain ⟨q1, e1⟩ := List.getElem?_eq_some_iff.1 h1
    rw [List.drop_eq_getElem_cons q0, List.drop_eq_getElem_cons q1, e0, e1]
    rfl
  have hb : ldrow true 2 (j * 2) (.agg v.box) = some (arcV (u, c)) := by
    have hle2 : Nat.ble (j * 2 + 2) v.box.length = true := Nat.ble_eq_true_of_le (by omega)
    generalize j * 2 = m at *
    cases m with
    | zero =>
      show (bif Nat.beq 2 v.box.length then some (V.agg v.box) else bif Nat.ble 2 v.box.length then some (.agg (v.box.take 2)) else none) = _
      rw [List.drop_zero] at e
      have hle3 : Nat.ble 2 v.box.length = true := hle2
      by_cases c2 : Nat.beq 2 v.box.length = true
      · rw [c2]
        have := Nat.eq_of_beq_eq_true c2
        rw [List.take_of_length_le (by omega)] at e
        simp only [cond_true, e]
        rfl
      · rw [Bool.eq_false_iff.2 c2, hle3]
        simp only [cond_true, cond_false, e]
        rfl
    | succ m =>
      show (bif Nat.ble (m + 1 + 2) v.box.length then some (V.agg ((v.box.drop (m + 1)).take 2)) else none) = _
      rw [hle2]
      simp only [cond_true, e]
      rfl
  rw [hb]
  exact fzA_agg _
def c_space_Costs : Cmd :=
 (qS [qq 4 (.mov (.c (.nilmp)))]
 (qS [qq 16 (.mkMap 897024 .u32), qq 5 (.alloc 896321 (.nilmp)), qs 1 5 16]
 (qS [qq 17 (.mkMap 897088 .u32), qm 6 17]
 (.seq (.ops [qq 18 (.call .d (.c (.fn 34 [])) []), qm 7 18]) (.tagb 7 (.cut (qT (qS [qm 19 1, qn 20 19, qc 21 0]
 (.block 0 (.loop (qS [qu 22 .lss [] 21 20]
 (qT (.cond (.t 22) .skip (.exit 0))
 (qT (.block 1 (qS [qi 23 1 19 21, ql 24 1 23, qq 9 (.alloc 896577 (.int .u32 0)), qs 1 9 24]
 (qS [qm 25 6, ql 26 1 9, .op none none (.mput (.t 25) (.t 26) (.c (.int .i64 1000000000)))]
 (qT (qS [qm 27 0, ql 28 1 9, qk 29 35 [27, 28]]
 (.cond (.t 29) (qS [qm 30 6, ql 31 1 9, .op none none (.mput (.t 30) (.t 31) (.c (.int .i64 0)))]
 (.ops [qm 32 7, ql 33 1 9, qq 34 (.call .d (.c (.fn 36 [])) [.t 32, .t 33, .c (.int .i64 0)])])) .skip))
 (qS [qm 35 0, ql 36 1 9, qk 37 37 [35, 36]]
 (.block 2 (.rangeF [] (.t 37) [38] (.ops [qq 10 (.alloc 896643 (.agg [.int .i64 0, .int .i64 0, .int .u32 0])), qs 3 10 38]) (.block 3 (.opsT (.node 0 12 (.node 1 12 (.node 2 12 (.leaf [0, 1, 2, 3, 4, 5, 6, 7, 8, 9, 10, 11, 12, 13]) (.leaf [0, 1, 3, 4, 5, 6, 7, 8, 9, 10, 11, 12, 2, 13])) (.leaf [0, 3, 4, 5, 6, 7, 8, 9, 10, 11, 12, 1, 2, 13])) (.node 1 12 (.node 2 12 (.leaf [1, 2, 3, 4, 5, 6, 7, 8, 9, 10, 11, 12, 0, 13]) (.leaf [1, 3, 4, 5, 6, 7, 8, 9, 10, 11, 12, 0, 2, 13])) (.leaf [3, 4, 5, 6, 7, 8, 9, 10, 11, 12, 0, 1, 2, 13]))) [ql 39 1 5, qf 40 2 10, ql 41 1 40, ql 42 1 5, qf 43 2 10, ql 44 1 43, qq 45 (.mget false (.sl .nil []) (.t 42) (.t 44)), ql 46 1 9, qf 47 1 10, ql 48 1 47, qq 49 (.build [.int .u32 0, .int .i64 0] [(0 , 1 , .t 46), (1 , 1 , .t 48)]), qq 50 (.bsl 2 [.t 49]), qq 51 (.appR 2 16 89 (.t 45) (.t 50)), .op none none (.mput (.t 39) (.t 41) (.t 51))])))))))))
 (.ops [qv 52 .add [] 21 1, qm 21 52])))))))
 (qT (.block 4 (.loop (qT (qS [qm 53 7, qq 54 (.call .d (.c (.fn 38 [])) [.t 53]), qv 55 .gtr [] 54 0]
 (.cond (.t 55) .skip (.exit 4)))
 (.block 5 (qS [qm 57 7, qq 58 (.call .d (.c (.fn 39 [])) [.t 57]), qm 56 58, qq 59 (.extract (.t 56) 0), qq 60 (.extract (.t 56) 1), qq 61 (.extract (.t 56) 2), qm 11 59, qm 12 60, qm 13 61]
 (qS [ql 62 1 5, qm 63 11, qq 64 (.mget false (.sl .nil []) (.t 62) (.t 63)), qn 65 64, qc 66 0]
 (.block 6 (.loop (qS [qu 67 .lss [] 66 65]
 (qT (.cond (.t 67) .skip (.exit 6))
 (qT (.block 7 (qS [qi 68 2 64 66, qL 69 2 68, qq 15 (.alloc 896962 (.agg [.int .u32 0, .int .i64 0])), qs 2 15 69]
 (qS [qm 70 12, qf 71 1 15, ql 72 1 71, qu 73 .add [] 70 72, qm 74 6, qf 75 0 15, ql 76 1 75, qq 77 (.mget false (.int .i64 0) (.t 74) (.t 76)), qu 78 .lss [] 73 77]
 (.cond (.t 78) (qS [qm 79 6, qf 80 0 15, ql 81 1 80, qm 82 12, qf 83 1 15, ql 84 1 83, qu 85 .add [] 82 84, .op none none (.mput (.t 79) (.t 81) (.t 85))]
 (.ops [qm 86 7, qf 87 0 15, ql 88 1 87, qm 89 12, qf 90 1 15, ql 91 1 90, qu 92 .add [] 89 91, qq 93 (.call .d (.c (.fn 36 [])) [.t 86, .t 88, .t 92])])) .skip))))
 (.ops [qv 94 .add [] 66 1, qm 66 94]))))))))))))
 (.seq (.ops [qm 95 6, qm 4 95]) .ret)))))))))
def r_space_Costs : List RVar := [.tmp 4]
def n_space_Costs : Nat := 96
theorem k_space_Costs : chkFn Go.Proofs.Try.prog 14 n_space_Costs r_space_Costs c_space_Costs = true := by kernel_rfl
abbrev n5 : Nat := 896321
abbrev nB : Nat := 897024
abbrev nO : Nat := 897088
abbrev n9 : Nat := 896577
abbrev nX : Nat := 896643
abbrev nY : Nat := 896962
structure CD where
  q : HS
  bl : List BL
  A : List Arc
  ks : List W32
  o : W32 → Int
def CD.names (c : CD) : List Nat := n5 :: nB :: nO :: (c.q.names ++ c.bl.map BL.nm)
def outB (ks : List W32) (o : W32 → Int) : Blk := .mp .u32 (ks.map toI) (ks.map fun s => i64V (o s))
theorem outB_congr {ks : List W32} {o o' : W32 → Int} (h : ∀ s ∈ ks, o s = o' s) : outB ks o = outB ks o' := by
  unfold outB
  congr 1
  exact List.map_congr_left fun s hs => by rw [h s hs]
theorem out_get {ks : List W32} {o : W32 → Int} {s : W32} : s ∈ ks → mgetv (ks.map toI) (ks.map fun s => i64V (o s)) (toI s) = some (i64V (o s)) := by
  induction ks with
  | nil => intro h; cases h
  | cons x r ih =>
    intro h
    rw [List.map_cons, List.map_cons, mgetv_cons]
    by_cases e : toI x = toI s
    · rw [if_pos e, toI_inj e]
    · rw [if_neg e]
      rcases List.mem_cons.1 h with rfl | h
      · exact absurd rfl e
      · exact ih h
theorem setK_map {ks : List W32} {o : W32 → Int} {s : W32} {v : Int} : (s ∉ ks → setK (ks.map toI) (ks.map fun s => i64V (o s)) (toI s) (i64V v) = ((ks ++ [s]).map toI, (ks ++ [s]).map fun x => i64V (updO o s v x))) ∧
    (s ∈ ks → ks.Nodup → setK (ks.map toI) (ks.map fun s => i64V (o s)) (toI s) (i64V v) = (ks.map toI, ks.map fun x => i64V (updO o s v x))) := by
  have hs : updO o s v s = v := by unfold updO; rw [if_pos rfl]
  have hne : ∀ x, x ≠ s → updO o s v x = o x := fun x h => by unfold updO; rw [if_neg h]
  induction ks with
  | nil => exact ⟨fun _ => by simp [setK, hs], fun h => by cases h⟩
  | cons x r ih =>
    have key : ∀ (h : x ≠ s), toI x ≠ toI s := fun h e => h (toI_inj e)
    refine ⟨fun h => ?_, fun h hn => ?_⟩
    · have hx : x ≠ s := fun e => h (by simp [e])
      have ih1 := ih.1 fun hm => h (by simp [hm])
      simp only [List.map_cons, setK, if_neg (key hx), ih1, List.cons_append, hne x hx]
    · have hn' := List.nodup_cons.1 hn
      by_cases hx : x = s
      · subst hx
        have e : r.map (fun y => i64V (updO o x v y)) = r.map fun y => i64V (o y) := List.map_congr_left fun y hy => by rw [hne y (fun e => hn'.1 (e ▸ hy))]
        simp only [List.map_cons, setK, if_true, hs, e]
      · have ih2 := ih.2 ((List.mem_cons.1 h).resolve_left fun e => hx e.symm) hn'.2
        simp only [List.map_cons, setK, if_neg (key hx), ih2, hne x hx]
theorem out_new {ks : List W32} {o : W32 → Int} {s : W32} {v : Int} (h : s ∉ ks) : msetB .u32 (ks.map toI) (ks.map fun s => i64V (o s)) (toI s) (.int .i64 v) = outB (ks ++ [s]) (updO o s v) := by
  have e := (setK_map (o := o) (v := v)).1 h
  refine (msetB_eq .u32 (toI s) (i64V v) _ _ (by simp)).trans ?_
  rw [e]
  rfl
theorem out_upd {ks : List W32} {o : W32 → Int} {s : W32} {v : Int} (h : s ∈ ks) (hn : ks.Nodup) : msetB .u32 (ks.map toI) (ks.map fun s => i64V (o s)) (toI s) (.int .i64 v) = outB ks (updO o s v) := by
  have e := (setK_map (o := o) (v := v)).2 h hn
  refine (msetB_eq .u32 (toI s) (i64V v) _ _ (by simp)).trans ?_
  rw [e]
  rfl
structure CI (σ : Store) (c : CD) : Prop where
  h5 : σ n5 = .box (.mp nB)
  bk : ∃ F, MP (σ nB) F ∧ BkF c.A F c.bl
  ho : σ nO = outB c.ks c.o
  hq : QIn σ c.q
  bl : ∀ v ∈ c.bl, BLok σ c.A v
  nd : c.names.Nodup
  av : n9 ∉ c.names ∧ nX ∉ c.names ∧ nY ∉ c.names
  bto : (c.bl.map BL.to).Nodup
  bll : c.bl.length ≤ c.A.length
section
variable {ns : List Nat} {σ σ' : Store} {c : CD}
theorem CD.in5 (c : CD) : n5 ∈ c.names := by simp [CD.names]
theorem CD.inB (c : CD) : nB ∈ c.names := by simp [CD.names]
theorem CD.inO (c : CD) : nO ∈ c.names := by simp [CD.names]
theorem CD.inq (c : CD) {n : Nat} (h : n ∈ c.q.names) : n ∈ c.names := by simp [CD.names, h]
theorem CD.inbl (c : CD) {v : BL} (h : v ∈ c.bl) : v.nm ∈ c.names := by
  unfold CD.names
  simp only [List.mem_cons, List.mem_append]
  exact .inr (.inr (.inr (.inr (List.mem_map.2 ⟨v, h, rfl⟩))))
theorem CI.congr (h : CI σ c) (he : ∀ n ∈ c.names, σ' n = σ n) : CI σ' c :=
  ⟨(he _ c.in5).trans h.h5, by rw [he _ c.inB]; exact h.bk, (he _ c.inO).trans h.ho, h.hq.congr fun n hn => he n (c.inq hn), fun v hv => ⟨(he _ (c.inbl hv)).trans (h.bl v hv).hs, (h.bl v hv).hl, (h.bl v hv).hle, (h.bl v hv).ht, (h.bl v hv).hp⟩, h.nd, h.av, h.bto, h.bll⟩
theorem CI.cl (h : CI σ c) (hsub : ∀ n ∈ c.names, n ∈ ns) (hx : ∀ n ∈ ns, n ∉ c.names → ∀ row, σ n = .box row → closedB ns row = true) : Cl ns σ := (closedSt_iff _ _ _).2 fun n hn row hr => by
  by_cases hm : n ∈ c.names
  · simp only [CD.names, List.mem_cons, List.mem_append] at hm
    rcases hm with rfl | rfl | rfl | hm | hm
    · rw [h.h5] at hr
      cases hr
      exact mem_closed (hsub _ c.inB)
    · obtain ⟨F, hF, _⟩ := h.bk
      exact (hF.box row hr).elim
    · rw [h.ho] at hr
      cases hr
    · exact h.hq.closed (fun n hn => hsub n (c.inq hn)) hm hr
    · obtain ⟨v, hv, rfl⟩ := List.mem_map.1 hm
      rw [(h.bl v hv).hs] at hr
      cases hr
      exact box_closed ns (h.bl v hv).hp
  · exact hx n hn hm row hr
theorem CI.nd2 (h : CI σ c) : (c.q.names ++ c.bl.map BL.nm).Nodup ∧ n5 ∉ c.q.names ++ c.bl.map BL.nm ∧ nB ∉ c.q.names ++ c.bl.map BL.nm ∧ nO ∉ c.q.names ++ c.bl.map BL.nm := by
  have h1 := List.nodup_cons.1 h.nd
  have h2 := List.nodup_cons.1 h1.2
  have h3 := List.nodup_cons.1 h2.2
  exact ⟨h3.2, fun k => h1.1 (by simp only [List.mem_cons]; exact .inr (.inr k)), fun k => h2.1 (by simp only [List.mem_cons]; exact .inr k), h3.1⟩
theorem nd_cons3 {l : List Nat} (h : l.Nodup) (h5 : n5 ∉ l) (hB : nB ∉ l) (hO : nO ∉ l) : (n5 :: nB :: nO :: l).Nodup := by
  refine List.nodup_cons.2 ⟨?_, List.nodup_cons.2 ⟨?_, List.nodup_cons.2 ⟨hO, h⟩⟩⟩
  · simp only [List.mem_cons, not_or]
    exact ⟨by decide, by decide, h5⟩
  · simp only [List.mem_cons, not_or]
    exact ⟨by decide, hB⟩
theorem CI.out (h : CI σ c) {ks : List W32} {o : W32 → Int} : CI (ups σ nO (outB ks o)) { c with ks := ks, o := o } := by
  obtain ⟨k1, k2, k3, k4⟩ := h.nd2
  have hne : ∀ n ∈ c.q.names ++ c.bl.map BL.nm, n ≠ nO := fun n hn e => k4 (e ▸ hn)
  refine ⟨(upt_ne _ _ (by decide)).trans h.h5, ?_, upt_self _ _ _, h.hq.congr fun n hn => upt_ne _ _ (hne n (List.mem_append_left _ hn)), fun v hv => ⟨(upt_ne _ _ (hne _ (List.mem_append_right _ (List.mem_map.2 ⟨v, hv, rfl⟩)))).trans (h.bl v hv).hs, (h.bl v hv).hl, (h.bl v hv).hle, (h.bl v hv).ht, (h.bl v hv).hp⟩, h.nd, h.av, h.bto, h.bll⟩
  rw [upt_ne _ _ (by decide)]
  exact h.bk
theorem CI.oext (h : CI σ c) {o : W32 → Int} (he : ∀ s ∈ c.ks, c.o s = o s) : CI σ { c with o := o } :=
  ⟨h.h5, h.bk, h.ho.trans (outB_congr he), h.hq, h.bl, h.nd, h.av, h.bto, h.bll⟩
theorem CI.queue (h : CI σ c) {f : List Nat} {q' : HS} {σq : Store} (hf : ∀ n ∈ f, n ∉ c.names ∧ n ≠ n9 ∧ n ≠ nX ∧ n ≠ nY) (hk : QOk (f ++ c.q.names) σq q') : CI (merge (f ++ c.q.names) σ σq) { c with q := q' } := by
  obtain ⟨k1, k2, k3, k4⟩ := h.nd2
  obtain ⟨m1, m2⟩ := hk.any.nd
  have hd := List.nodup_append.1 k1
  have hoff : ∀ n ∈ c.names, n ∉ c.q.names → n ∉ f ++ c.q.names := fun n hn h1 hm => by
    rcases List.mem_append.1 hm with h2 | h2
    · exact (hf n h2).1 hn
    · exact h1 h2
  have hbl : ∀ v ∈ c.bl, v.nm ∉ f ++ c.q.names := fun v hv => hoff _ (c.inbl hv) fun hm => hd.2.2 _ hm _ (List.mem_map.2 ⟨v, hv, rfl⟩) rfl
  have o5 : n5 ∉ f ++ c.q.names := hoff _ c.in5 fun hm => k2 (List.mem_append_left _ hm)
  have oB : nB ∉ f ++ c.q.names := hoff _ c.inB fun hm => k3 (List.mem_append_left _ hm)
  have oO : nO ∉ f ++ c.q.names := hoff _ c.inO fun hm => k4 (List.mem_append_left _ hm)
  have hav : ∀ n, (n = n9 ∨ n = nX ∨ n = nY) → n ∉ c.names → n ∉ CD.names { c with q := q' } := fun n he hn hm => by
    have hm : n ∈ n5 :: nB :: nO :: (q'.names ++ c.bl.map BL.nm) := hm
    simp only [List.mem_cons, List.mem_append] at hm
    have hn' : ¬ (n = n5 ∨ n = nB ∨ n = nO ∨ n ∈ c.q.names ∨ n ∈ c.bl.map BL.nm) := by
      simp only [CD.names, List.mem_cons, List.mem_append] at hn
      exact hn
    rcases hm with h1 | h1 | h1 | h1 | h1
    · exact hn' (.inl h1)
    · exact hn' (.inr (.inl h1))
    · exact hn' (.inr (.inr (.inl h1)))
    · rcases List.mem_append.1 (m2 n h1) with h2 | h2
      · obtain ⟨_, q1, q2, q3⟩ := hf n h2
        rcases he with e | e | e
        · exact q1 e
        · exact q2 e
        · exact q3 e
      · exact hn' (.inr (.inr (.inr (.inl h2))))
    · exact hn' (.inr (.inr (.inr (.inr h1))))
  refine ⟨(merge_off o5).trans h.h5, ?_, (merge_off oO).trans h.ho, QIn.of hk fun n hn => merge_at (m2 n hn), fun v hv => ⟨(merge_off (hbl v hv)).trans (h.bl v hv).hs, (h.bl v hv).hl, (h.bl v hv).hle, (h.bl v hv).ht, (h.bl v hv).hp⟩, nd_cons3 ?_ ?_ ?_ ?_, ⟨hav _ (.inl rfl) h.av.1, hav _ (.inr (.inl rfl)) h.av.2.1, hav _ (.inr (.inr rfl)) h.av.2.2⟩, h.bto, h.bll⟩
  · rw [merge_off oB]
    exact h.bk
  · refine List.nodup_append.2 ⟨m1, hd.2.1, fun a ha b hb e => ?_⟩
    obtain ⟨v, hv, rfl⟩ := List.mem_map.1 hb
    exact hbl v hv (e ▸ m2 a ha)
  · intro hm
    rcases List.mem_append.1 hm with h1 | h1
    · exact o5 (m2 _ h1)
    · exact k2 (List.mem_append_right _ h1)
  · intro hm
    rcases List.mem_append.1 hm with h1 | h1
    · exact oB (m2 _ h1)
    · exact k3 (List.mem_append_right _ h1)
  · intro hm
    rcases List.mem_append.1 hm with h1 | h1
    · exact oO (m2 _ h1)
    · exact k4 (List.mem_append_right _ h1)
theorem CI.arc (h : CI σ c) {F : Int → Option V} (hF : MP (σ nB) F) (hB : BkF c.A F c.bl) (t u : W32) (k : Int) (v' : BL) (hto : v'.to = t) (hnm : v'.nm ∉ n5 :: nB :: nO :: (c.q.names ++ (c.bl.filter fun v => v.to != t).map BL.nm)) (hav : v'.nm ≠ n9 ∧ v'.nm ≠ nX ∧ v'.nm ≠ nY)
    (hl : v'.box.length = v'.c * 2) (hle : (bkOf c.A t).length + 1 ≤ v'.c) (ht : v'.box.take ((bkOf c.A t).length * 2) = flatC ((bkOf c.A t).map arcV)) (hr : (v'.box.drop ((bkOf c.A t).length * 2)).take 2 = (arcV (u, k)).cells) (hp : ∀ u ∈ v'.box, pureB u = true)
    {bB : Blk} (hbB : MP bB fun m => if m = t.toNat then some (.rsl v'.b ((bkOf c.A t).length + 1) v'.c) else F m) (hσ : ∀ n, σ' n = if n = nB then bB else if n = v'.nm then .box (.tag v'.b v'.box) else σ n) :
    CI σ' { c with bl := v' :: c.bl.filter fun v => v.to != t, A := c.A ++ [(t, u, k)] } := by
  obtain ⟨k1, k2, k3, k4⟩ := h.nd2
  have hd := List.nodup_append.1 k1
  simp only [List.mem_cons, List.mem_append, not_or] at hnm
  obtain ⟨q5, qB, qO, qq, qb⟩ := hnm
  have e1 : bkOf (c.A ++ [(t, u, k)]) t = bkOf c.A t ++ [(u, k)] := by rw [bkOf_snoc, if_pos rfl]
  have e2 : ∀ s, s ≠ t → bkOf (c.A ++ [(t, u, k)]) s = bkOf c.A s := fun s hs => by rw [bkOf_snoc, if_neg (fun e => hs e.symm), List.append_nil]
  have hfl : ∀ v ∈ c.bl.filter (fun v => v.to != t), v ∈ c.bl ∧ v.to ≠ t := fun v hv => by
    obtain ⟨h1, h2⟩ := List.mem_filter.1 hv
    exact ⟨h1, by simpa using h2⟩
  have hsl : ((c.bl.filter fun v => v.to != t).map BL.nm).Sublist (c.bl.map BL.nm) := List.filter_sublist.map _
  refine ⟨?_, ⟨fun m => if m = t.toNat then some (.rsl v'.b ((bkOf c.A t).length + 1) v'.c) else F m, ?_, ?_⟩, ?_, ?_, fun v hv => ?_, nd_cons3 ?_ ?_ ?_ ?_, ?_, ?_, ?_⟩
  · rw [hσ, if_neg (by decide), if_neg (fun e => q5 e.symm)]
    exact h.h5
  · rw [hσ, if_pos rfl]
    exact hbB
  · refine ⟨fun v hv => ?_, fun s hs => ?_⟩
    · rcases List.mem_cons.1 hv with rfl | hv
      · show (if (v.to.toNat : Int) = t.toNat then _ else _) = _
        rw [hto, if_pos rfl, e1, List.length_append]
        rfl
      · obtain ⟨h1, h2⟩ := hfl v hv
        show (if (v.to.toNat : Int) = t.toNat then _ else _) = _
        rw [if_neg (fun e => h2 (toNat_eq e)), e2 _ h2]
        exact hB.here v h1
    · have hst : s ≠ t := fun e => hs v' (by simp) (hto.trans e.symm)
      obtain ⟨h1, h2⟩ := hB.gone s fun v hv e => hs v (List.mem_cons_of_mem _ (List.mem_filter.2 ⟨hv, by simpa using fun e2 : v.to = t => hst (e.symm.trans e2)⟩)) e
      refine ⟨(if_neg fun e => hst (toNat_eq e)).trans h1, ?_⟩
      show bkOf (c.A ++ [(t, u, k)]) s = []
      rw [e2 s hst]
      exact h2
  · rw [hσ, if_neg (by decide), if_neg (fun e => qO e.symm)]
    exact h.ho
  · refine h.hq.congr fun n hn => ?_
    rw [hσ, if_neg (fun (e : n = nB) => k3 (e ▸ List.mem_append_left _ hn)), if_neg (fun (e : n = v'.nm) => qq (e ▸ hn))]
  · rcases List.mem_cons.1 hv with rfl | hv
    · refine ⟨?_, hl, ?_, ?_, hp⟩
      · rw [hσ, if_neg qB, if_pos rfl]
      · show (bkOf (c.A ++ [(t, u, k)]) v.to).length ≤ _
        rw [hto, e1, List.length_append]
        exact hle
      · show v.box.take ((bkOf (c.A ++ [(t, u, k)]) v.to).length * 2) = flatC ((bkOf (c.A ++ [(t, u, k)]) v.to).map arcV)
        rw [hto, e1, List.length_append, List.map_append, flatC_append, ← ht]
        have e3 : flatC ([(u, k)].map arcV) = (arcV (u, k)).cells := List.append_nil _
        rw [e3, ← hr, List.length_singleton, Nat.add_mul, Nat.one_mul]
        exact List.take_add
    · obtain ⟨h1, h2⟩ := hfl v hv
      have hb := h.bl v h1
      have hbk : bkOf (c.A ++ [(t, u, k)]) v.to = bkOf c.A v.to := e2 _ h2
      have hm : v.nm ∈ c.bl.map BL.nm := List.mem_map.2 ⟨v, h1, rfl⟩
      refine ⟨?_, hb.hl, by show (bkOf (c.A ++ [(t, u, k)]) v.to).length ≤ _; rw [hbk]; exact hb.hle, by show v.box.take ((bkOf (c.A ++ [(t, u, k)]) v.to).length * 2) = _; rw [hbk]; exact hb.ht, hb.hp⟩
      rw [hσ, if_neg (fun (e : v.nm = nB) => k3 (e ▸ List.mem_append_right _ hm)), if_neg (fun (e : v.nm = v'.nm) => qb (e ▸ List.mem_map.2 ⟨v, hv, rfl⟩))]
      exact hb.hs
  · show (c.q.names ++ (v'.nm :: (c.bl.filter fun v => v.to != t).map BL.nm)).Nodup
    refine List.nodup_append.2 ⟨hd.1, List.nodup_cons.2 ⟨qb, hsl.nodup hd.2.1⟩, fun a ha b hb e => ?_⟩
    rcases List.mem_cons.1 hb with rfl | hb
    · exact qq (e ▸ ha)
    · exact hd.2.2 a ha b (hsl.subset hb) e
  · show n5 ∉ c.q.names ++ (v'.nm :: (c.bl.filter fun v => v.to != t).map BL.nm)
    intro hm
    rcases List.mem_append.1 hm with h1 | h1
    · exact k2 (List.mem_append_left _ h1)
    · rcases List.mem_cons.1 h1 with h1 | h1
      · exact q5 h1.symm
      · exact k2 (List.mem_append_right _ (hsl.subset h1))
  · show nB ∉ c.q.names ++ (v'.nm :: (c.bl.filter fun v => v.to != t).map BL.nm)
    intro hm
    rcases List.mem_append.1 hm with h1 | h1
    · exact k3 (List.mem_append_left _ h1)
    · rcases List.mem_cons.1 h1 with h1 | h1
      · exact qB h1.symm
      · exact k3 (List.mem_append_right _ (hsl.subset h1))
  · show nO ∉ c.q.names ++ (v'.nm :: (c.bl.filter fun v => v.to != t).map BL.nm)
    intro hm
    rcases List.mem_append.1 hm with h1 | h1
    · exact k4 (List.mem_append_left _ h1)
    · rcases List.mem_cons.1 h1 with h1 | h1
      · exact qO h1.symm
      · exact k4 (List.mem_append_right _ (hsl.subset h1))
  · have key : ∀ n, v'.nm ≠ n → n ∉ c.names → n ∉ n5 :: nB :: nO :: (c.q.names ++ (v'.nm :: (c.bl.filter fun v => v.to != t).map BL.nm)) := fun n hn h1 hm => by
      simp only [CD.names, List.mem_cons, List.mem_append, not_or] at h1
      simp only [List.mem_cons, List.mem_append] at hm
      rcases hm with h2 | h2 | h2 | h2 | h2 | h2
      · exact h1.1 h2
      · exact h1.2.1 h2
      · exact h1.2.2.1 h2
      · exact h1.2.2.2.1 h2
      · exact hn h2.symm
      · exact h1.2.2.2.2 (hsl.subset h2)
    exact ⟨key _ hav.1 h.av.1, key _ hav.2.1 h.av.2.1, key _ hav.2.2 h.av.2.2⟩
  · show (v'.to :: (c.bl.filter fun v => v.to != t).map BL.to).Nodup
    refine List.nodup_cons.2 ⟨fun hm => ?_, (List.filter_sublist.map BL.to).nodup h.bto⟩
    obtain ⟨v, hv, e⟩ := List.mem_map.1 hm
    exact (hfl v hv).2 (e.trans hto)
  · show (v' :: c.bl.filter fun v => v.to != t).length ≤ (c.A ++ [(t, u, k)]).length
    rw [List.length_cons, List.length_append, List.length_singleton]
    have := List.length_filter_le (fun v : BL => v.to != t) c.bl
    have := h.bll
    omega
end
end Hm
end
section
namespace Hm
open Go
set_option maxRecDepth 100000
set_option maxHeartbeats 8000000
section
variable {G : Type} {P : Program} {H : HT G} {pn : List Nat} {Q : Exit → Env → Store → G → Prop} {fs : List (Frm G)} {ρ : Env} {σ : Store} {g : G} {r : List GItem} {a : Cmd}
theorem wi_at (n : Nat) (b : Blk) (h : σ n = b) (k : WI P H pn Q fs r ρ (ups σ n b) g) : WI P H pn Q fs r ρ σ g := by
  have e : ups σ n b = σ := by
    funext m
    rw [upt_if]
    by_cases c : m = n
    · rw [if_pos c, c, h]
    · rw [if_neg c]
  rw [e] at k
  exact k
theorem wc_at (n : Nat) (b : Blk) (h : σ n = b) (k : WC P H pn Q fs a ρ (ups σ n b) g) : WC P H pn Q fs a ρ σ g := by
  have e : ups σ n b = σ := by
    funext m
    rw [upt_if]
    by_cases c : m = n
    · rw [if_pos c, c, h]
    · rw [if_neg c]
  rw [e] at k
  exact k
theorem ups_at {n : Nat} {b : Blk} (h : σ n = b) : ups σ n b = σ := by
  funext m
  rw [upt_if]
  by_cases c : m = n
  · rw [if_pos c, c, h]
  · rw [if_neg c]
theorem wi_un {n : Nat} {b : Blk} (h : σ n = b) (k : WI P H pn Q fs r ρ σ g) : WI P H pn Q fs r ρ (ups σ n b) g := by rw [ups_at h]; exact k
theorem wc_un {n : Nat} {b : Blk} (h : σ n = b) (k : WC P H pn Q fs a ρ σ g) : WC P H pn Q fs a ρ (ups σ n b) g := by rw [ups_at h]; exact k
theorem c_if2 (hM : MonoH H) (R : Env → Store → Prop) (h : WC P H pn (fun e ρ' σ' g' => e = .normal ∧ R ρ' σ' ∧ g' = g) [] a ρ σ g) (k : ∀ ρ' σ', R ρ' σ' → WE P H pn Q fs .normal ρ' σ' g) : WC P H pn Q fs a ρ σ g := c_join hM _ h fun e ρ' σ' g' h => by
  obtain ⟨rfl, h2, rfl⟩ := h
  exact k _ _ h2
theorem c_gen (h : ∀ σ', σ' = σ → WC P H pn Q fs a ρ σ' g) : WC P H pn Q fs a ρ σ g := h σ rfl
end
theorem merge_restr (ns : List Nat) (σ : Store) : merge ns σ (restr ns σ) = σ := by
  funext n
  by_cases h : n ∈ ns
  · rw [merge_at h, restr_at h]
  · rw [merge_off h]
theorem unused_of {ns : List Nat} {σ : Store} (h : ∀ nm, σ nm ≠ .unused → nm ∈ ns) {n : Nat} (hn : n ∉ ns) : σ n = .unused := by
  cases hk : σ n with
  | unused => rfl
  | _ => exact absurd (h n (by rw [hk]; intro e; cases e)) hn
theorem arcsL_len {w : Wd} : ∀ l : List W32, (arcsL w l).length ≤ l.length * w.ops.length
  | [] => by simp [arcsL]
  | s :: r => by
    have := arcsL_len (w := w) r
    have h2 : (arcsOf w s).length ≤ w.ops.length := by unfold arcsOf; rw [List.length_map]; exact stepsFrom_len _ _ _
    rw [arcsL, List.length_append, List.length_cons, Nat.succ_mul]
    omega
theorem bkOf_len (A : List Arc) (t : W32) : (bkOf A t).length ≤ A.length := by
  unfold bkOf
  rw [List.length_map]
  exact List.length_filter_le _ _
theorem qbox0_closed {ns : List Nat} {b nF : Nat} {t : Int} (h : nF ∈ ns) : closedB ns (.tag b [.sl .nil [], .mp nF, .int .i64 t]) = true := by
  show (true && (closedB ns (.mp nF) && (true && true))) = true
  rw [mem_closed h]
  rfl
abbrev nQ0 : Nat := 2176195
abbrev nF0 : Nat := 2176064
structure L1 (w : Wd) (l : List W32) (u : Store × CD × Nat) : Prop where
  ci : CI u.1 u.2.1
  ks : u.2.1.ks = l.take u.2.2
  o : u.2.1.o = o0 w
  A : u.2.1.A = arcsL w (l.take u.2.2)
  kv : u.2.1.q.kv.Perm (kv0 w (l.take u.2.2))
  le : u.2.2 ≤ l.length
  out : ∀ nm, u.1 nm ≠ .unused → nm ∈ u.2.1.names
structure LM (w : Wd) (l : List W32) (k : Nat) (s : W32) (σ : Store) (c : CD) : Prop where
  ci : CI σ c
  ks : c.ks = l.take (k + 1)
  o : c.o = o0 w
  A : c.A = arcsL w (l.take k)
  kv : c.q.kv.Perm (kv0 w (l.take (k + 1)))
  h9 : σ n9 = .box (.int .u32 s.toNat)
theorem kv_len (q : HS) : q.kv.length = q.es.length := by simp [HS.kv, kvOf]
theorem kv0_len (w : Wd) (l : List W32) : (kv0 w l).length ≤ l.length := by
  unfold kv0
  rw [List.length_map]
  exact List.length_filter_le _ _
theorem kv0_snoc (w : Wd) (l : List W32) (s : W32) : kv0 w (l ++ [s]) = kv0 w l ++ (if w.isGoal s = true then [(s, 0)] else []) := by
  unfold kv0
  rw [List.filter_append, List.map_append]
  congr 1
  by_cases c : w.isGoal s = true
  · rw [if_pos c, List.filter_cons, if_pos c]; rfl
  · rw [if_neg c, List.filter_cons, if_neg c]; rfl
theorem names_len {σ : Store} {c : CD} (h : CI σ c) (hq : c.q.es.length ≤ 1000000) (hA : c.A.length ≤ 2000000000) : c.names.length ≤ 2001000006 := by
  have := h.bll
  simp only [CD.names, HS.names, List.length_cons, List.length_append, List.length_map]
  omega
theorem spare2 (av : List Nat) (h : av.length < 900000000000) : ∃ f1 f2 : Nat, f1 ≠ f2 ∧ f1 < 1000000000000 ∧ f2 < 1000000000000 ∧ f1 ∉ av ∧ f2 ∉ av := by
  obtain ⟨f1, h1, h2⟩ := fresh_name av (by omega)
  obtain ⟨f2, h3, h4⟩ := fresh_name (f1 :: av) (by simp; omega)
  exact ⟨f1, f2, fun e => h3 (by simp [e]), h2, h4, h1, fun h => h3 (by simp [h])⟩
theorem QIn.call {σ : Store} {q : HS} (h : QIn σ q) (f : List Nat) (hf : ∀ n ∈ f, σ n = .unused) : closedSt (f ++ q.names) σ (f ++ q.names) = true ∧ QOk (f ++ q.names) (restr (f ++ q.names) σ) q := by
  have k : QOk (f ++ q.names) (restr (f ++ q.names) σ) q := h.to (fun n hn => List.mem_append_right _ hn) fun n hn h1 => by
    rcases List.mem_append.1 hn with h2 | h2
    · exact hf n h2
    · exact absurd h2 h1
  exact ⟨Cl.of (σ := restr (f ++ q.names) σ) k.any.base.cl fun n hn => (restr_at hn).symm, k⟩
theorem CI.nmf {c : CD} (t : W32) {f : Nat} (hf : f ∉ c.names) : f ∉ n5 :: nB :: nO :: (c.q.names ++ (c.bl.filter fun v => v.to != t).map BL.nm) := fun hm => hf (by
  simp only [CD.names, List.mem_cons, List.mem_append] at hm ⊢
  rcases hm with h | h | h | h | h
  · exact .inl h
  · exact .inr (.inl h)
  · exact .inr (.inr (.inl h))
  · exact .inr (.inr (.inr (.inl h)))
  · exact .inr (.inr (.inr (.inr ((List.filter_sublist.map BL.nm).subset h)))))
theorem nd_inj {α β : Type} {f : α → β} : ∀ {l : List α} {a b : α}, (l.map f).Nodup → a ∈ l → b ∈ l → f a = f b → a = b
  | x :: r, a, b, h, ha, hb, e => by
    have h' := List.nodup_cons.1 h
    rcases List.mem_cons.1 ha with e1 | ha1
    · rcases List.mem_cons.1 hb with e2 | hb1
      · exact e1.trans e2.symm
      · exact (h'.1 (List.mem_map.2 ⟨b, hb1, by rw [← e1]; exact e.symm⟩)).elim
    · rcases List.mem_cons.1 hb with e2 | hb1
      · exact (h'.1 (List.mem_map.2 ⟨a, ha1, by rw [← e2]; exact e⟩)).elim
      · exact nd_inj h'.2 ha1 hb1 e
theorem CI.nmv {σ : Store} {c : CD} (h : CI σ c) {v : BL} (hv : v ∈ c.bl) : v.nm ∉ n5 :: nB :: nO :: (c.q.names ++ (c.bl.filter fun u => u.to != v.to).map BL.nm) := fun hm => by
  obtain ⟨k1, k2, k3, k4⟩ := h.nd2
  have hd := List.nodup_append.1 k1
  have hvm : v.nm ∈ c.bl.map BL.nm := List.mem_map.2 ⟨v, hv, rfl⟩
  simp only [List.mem_cons, List.mem_append] at hm
  rcases hm with e | e | e | e | e
  · exact k2 (e ▸ List.mem_append_right _ hvm)
  · exact k3 (e ▸ List.mem_append_right _ hvm)
  · exact k4 (e ▸ List.mem_append_right _ hvm)
  · exact hd.2.2 _ e _ hvm rfl
  · obtain ⟨u, hu, e2⟩ := List.mem_map.1 e
    obtain ⟨h1, h2⟩ := List.mem_filter.1 hu
    have := nd_inj hd.2.1 h1 hv e2
    rw [this] at h2
    simp at h2
section
variable {G : Type} {P : Program} {H : HT G} {pn : List Nat} {Q : Exit → Env → Store → G → Prop} {fs : List (Frm G)} {ρ : Env} {σ : Store} {g : G} {r : List GItem} {d : Nat}
theorem i_mgO {ks : List W32} {o : W32 → Int} {s : W32} {nm : Nat} {zero : V} {x i : Opd} (hx : ev ρ x = .mp nm) (hm : σ nm = outB ks o) (hi : ev ρ i = .int .u32 s.toNat) (hs : s ∈ ks) (h : WI P H pn Q fs r (upd ρ d (.int .i64 (o s))) σ g) : WI P H pn Q fs (.op (some d) none (.mget false zero x i) :: r) ρ σ g :=
  i_mg (k := .u32) (ns := ks.map toI) (vs := ks.map fun s => i64V (o s)) (by rw [hx]; simp only [mapOf, hm, outB]) hi rfl (by
    have : mgetv (ks.map toI) (ks.map fun s => i64V (o s)) (s.toNat : Int) = some (i64V (o s)) := out_get hs
    rw [this]
    rfl) h
end
theorem RInv.mono {w : Wd} {l : List W32} {o : W32 → Int} {kv : List (W32 × Int)} {W W' : W32 → W32 → Int → Prop} (h : RInv w l o kv W) (hW : ∀ t u c, W t u c → W' t u c) : RInv w l o kv W' :=
  ⟨h.nn, h.le, h.att, h.goal, h.key, h.nd, fun t u c ha => (h.arcs t u c ha).imp id fun h => h.imp id (hW t u c)⟩
theorem RInv.len {w : Wd} {l : List W32} {o : W32 → Int} {kv : List (W32 × Int)} {W : W32 → W32 → Int → Prop} (h : RInv w l o kv W) : kv.length ≤ l.length := by
  have := List.Nodup.length_le_of_subset h.nd (l₂ := l) fun x hx => by
    obtain ⟨p, hp, rfl⟩ := List.mem_map.1 hx
    exact (h.key p hp).1
  simpa using this
structure L2 (w : Wd) (l : List W32) (u : Store × CD) : Prop where
  ci : CI u.1 u.2
  ks : u.2.ks = l
  A : u.2.A = arcsL w l
  inv : RInv w l u.2.o u.2.q.kv fun _ _ _ => False
  out : ∀ nm, u.1 nm ≠ .unused → nm ∈ u.2.names
structure L3 (w : Wd) (l : List W32) (c0 : CD) (s : W32) (d : Int) (M : Nat) (u : Store × CD × Nat) : Prop where
  ci : CI u.1 u.2.1
  ks : u.2.1.ks = l
  A : u.2.1.A = arcsL w l
  bl : u.2.1.bl = c0.bl
  inv : RInv w l u.2.1.o u.2.1.q.kv fun t x k => t = s ∧ (x, k) ∈ (bkOf (arcsL w l) s).drop u.2.2
  os : u.2.1.o s = d
  le : u.2.2 ≤ (bkOf (arcsL w l) s).length
  out : ∀ nm, u.1 nm ≠ .unused → nm ∈ u.2.1.names
  mu : sumO u.2.1.o l * (l.length + 1) + u.2.1.q.es.length < M
structure RI (w : Wd) (s : W32) (ns : List Nat) (c1 : CD) (rem : List (Nat × Int × W32)) (σ : Store) (c : CD) (sp : List Nat) : Prop where
  ci : CI σ c
  q : c.q = c1.q
  ks : c.ks = c1.ks
  o : c.o = c1.o
  A : c.A ++ rem.map (fun e => (e.2.2, s, e.2.1)) = c1.A ++ arcsOf w s
  h9 : σ n9 = .box (.int .u32 s.toNat)
  len : rem.length ≤ sp.length
  nd : sp.Nodup
  sp : ∀ n ∈ sp, n ∈ ns ∧ n ∉ c.names ∧ (n ≠ n9 ∧ n ≠ nX ∧ n ≠ nY) ∧ n < 1000000000000 ∧ σ n = .unused
  sub : ∀ n ∈ c.names, n ∈ ns
  out : ∀ nm, σ nm ≠ .unused → nm ∈ ns
  cl : Cl ns σ
theorem f_space_Costs (w : Wd) (hc : CostOk w) (hol : w.ops.length ≤ 1000000) (l : List W32) (hnd : l.Nodup) (hll : l.length ≤ 2000) (hcl : ∀ s ∈ l, ∀ e ∈ w.steps s, e.2.2 ∈ l) (D : W32 → Int) (hD : ∀ s, Least w s (D s)) :
    Fc Go.Proofs.Try.prog 14 [.cptr .p (wdR w) 0, .sl .p (l.map u32V)] (.mps .u32 (l.map toI) (l.map fun s => i64V (D s))) := by
  have hAl : ∀ k, (arcsL w (l.take k)).length ≤ 2000000000 := fun k => by
    refine Nat.le_trans (arcsL_len _) ?_
    have h1 : (l.take k).length ≤ 2000 := by rw [List.length_take]; omega
    exact Nat.le_trans (Nat.mul_le_mul h1 hol) (by decide)
  refine Fn.step mixed k_space_Costs ?_
  repeat (first | refine i_s rfl ?_ | refine sw ?_)
  refine i_mkm rfl ?_
  repeat (first | refine sw ?_ | refine i_stb rfl ?_ | refine i_alloc rfl ?_)
  refine i_mkm rfl ?_
  repeat (first | refine i_s rfl ?_ | refine sw ?_)
  refine i_cd [nF0, nQ0] rfl rfl rfl (ct_New (by simp) (by simp) fun nm => by
    by_cases h : nm ∈ [nF0, nQ0]
    · rw [restr_at h]
      simp only [List.mem_cons, List.not_mem_nil, or_false] at h
      rcases h with rfl | rfl <;> rfl
    · exact restr_off h) ?_
  rintro v σ' g' ⟨rfl, rfl, rfl⟩
  repeat (first | refine i_s rfl ?_ | refine sw ?_)
  refine c_tag rfl rfl fun b => ?_
  refine c_gen fun σa hσa => ?_
  obtain ⟨c0, hc0⟩ : ∃ c0 : CD, c0 = ⟨⟨nQ0, b, 1, 0, 0, [], nF0, 0, []⟩, [], [], [], o0 w⟩ := ⟨_, rfl⟩
  have a5 : σa n5 = .box (.mp nB) := by rw [hσa]; rfl
  have aB : σa nB = .mp .u32 [] [] := by rw [hσa]; rfl
  have aO : σa nO = .mp .u32 [] [] := by rw [hσa]; rfl
  have aQ : σa nQ0 = .box (.tag b [.sl .nil [], .mp nF0, .int .i64 0]) := by rw [hσa]; rfl
  have aF : σa nF0 = .mp .u32 [] [] := by rw [hσa]; rfl
  have a1 : σa 1 = .unused := by rw [hσa]; rfl
  clear hσa
  have hq0 : QIn σa c0.q := by
    subst hc0
    refine ⟨.inr ⟨(restr_at (by simp [HS.names])).trans aQ, rfl, ⟨(by show (1 : Nat) ≠ nQ0; decide), (by show (1 : Nat) ≠ nF0; decide), by simp [HS.names]⟩, (restr_at (by simp [HS.names])).trans a1, (by show nQ0 ≠ nF0; decide), by simp [HS.names], by simp [HS.names], ?_, fun nm h => restr_mem nm h⟩, fun _ => none, ?_, FMc.nil⟩
    · refine (closedSt_iff _ _ _).2 fun n hn row hr => ?_
      rw [restr_at hn] at hr
      simp only [HS.names, List.map_nil, List.mem_cons, List.not_mem_nil, or_false] at hn
      rcases hn with rfl | rfl | rfl
      · rw [aQ] at hr
        cases hr
        exact qbox0_closed (by simp [HS.names])
      · rw [a1] at hr; cases hr
      · rw [aF] at hr; cases hr
    · show MP (restr _ σa nF0) _
      rw [restr_at (by simp [HS.names]), aF]
      exact MP.nil
  have hI0 : CI σa c0 := by
    refine ⟨a5, ⟨fun _ => none, by rw [aB]; exact MP.nil, ?_⟩, by rw [aO, hc0]; rfl, hq0, (fun v hv => by rw [hc0] at hv; cases hv), ?_, ?_, by rw [hc0]; exact List.nodup_nil, by rw [hc0]; exact Nat.le_refl _⟩
    · rw [hc0]
      exact ⟨fun v hv => (by cases hv), fun _ _ => ⟨rfl, rfl⟩⟩
    · rw [hc0]; simp only [CD.names, HS.names, List.map_nil, List.append_nil]; decide
    · rw [hc0]; simp only [CD.names, HS.names, List.map_nil, List.append_nil]; decide
  have hE1 : ∀ (c : CD) (k : Int), closedE c.names [(0, .cptr .p (wdR w) 0), (5, .bptr n5 0), (6, .mp nO), (7, .raw c.q.bq 0), (19, .sl .p (l.map u32V)), (20, .int .i64 l.length), (21, .int .i64 k)] = true := fun c k => by
    simp only [closedE, closedB, (memB_iff n5 c.names).2 c.in5, (memB_iff nO c.names).2 c.inO, Bool.and_self]
  repeat (first | refine i_len rfl ?_ | refine i_s rfl ?_ | refine sw ?_)
  refine c_lp (fun u : Store × CD × Nat => [(0, .cptr .p (wdR w) 0), (5, .bptr n5 0), (6, .mp nO), (7, .raw u.2.1.q.bq 0), (19, .sl .p (l.map u32V)), (20, .int .i64 l.length), (21, .int .i64 u.2.2)]) (fun u => lsn u.2.1.names u.1) (L1 w l) (fun u => l.length - u.2.2) (restr c0.names σa, c0, 0)
    ⟨hI0.congr fun n hn => restr_at hn, by rw [hc0]; rfl, by rw [hc0], by rw [hc0]; rfl, by rw [hc0]; exact List.Perm.refl _, Nat.zero_le _, fun nm h => restr_mem nm h⟩
    (fit_ns ⟨rfl, rfl, rfl, by rw [hc0]; rfl, rfl, rfl, rfl, trivial⟩ (fun n hn => (restr_at hn).symm) (hE1 _ _) ((hI0.congr fun n hn => restr_at hn).cl (fun n hn => hn) fun n hn hm => absurd hn hm) (fun n hn => by cases hn)) fun u hu => ?_
  clear hI0 hq0 a5 aB aO aQ aF a1 hc0
  obtain ⟨σ, c, k⟩ := u
  obtain ⟨hI, hks, ho, hA, hkv, hk, hout⟩ := hu
  dsimp only at hI hks ho hA hkv hk hout
  show WC _ _ _ _ _ _ _ (stOf (lsn c.names σ)) _
  rw [stOf_lsn, restr_all hout]
  repeat (first | refine i_s rfl ?_ | refine sw ?_)
  refine c_cond rfl (fun h => ?_) (fun h => ?_)
  · have hlt : k < l.length := by simpa using h
    obtain ⟨s, hs⟩ := get_some hlt
    clear h
    have hsl : s ∈ l := mem_get hs
    have htk : l.take (k + 1) = l.take k ++ [s] := take_succ_get hs
    have hsn : s ∉ c.ks := by
      rw [hks]
      have := hnd
      rw [← List.take_append_drop (k + 1) l, htk, List.append_assoc] at this
      exact fun hm => (List.nodup_append.1 this).2.2 s hm s (by simp) rfl
    repeat (first | refine i_s rfl ?_ | refine sw ?_ | refine jd rfl rfl ?_)
    refine i_alloc (unused_of hout hI.av.1) ?_
    repeat (first | refine i_s rfl ?_ | refine sw ?_ | refine i_stb rfl ?_)
    refine i_mput (k := .u32) (ns := c.ks.map toI) (vs := c.ks.map fun s => i64V (c.o s)) rfl rfl ((upt_ne _ _ (by decide)).trans ((upt_ne _ _ (by decide)).trans hI.ho)) rfl rfl (out_new (s := s) (v := INF) hsn) ?_
    repeat (first | refine i_s rfl ?_ | refine sw ?_)
    refine i_f rfl rfl (f_space_Words_Goal w s) rfl ?_
    repeat refine sw ?_
    refine c_gen fun σb hσb => ?_
    have hb9 : σb n9 = .box (.int .u32 s.toNat) := by rw [hσb]; rfl
    have hIb : CI σb { c with ks := c.ks ++ [s], o := updO c.o s INF } := by
      rw [hσb]
      exact (hI.congr fun n hn => by rw [upt_ne _ _ (fun (e : n = n9) => hI.av.1 (e ▸ hn)), upt_ne _ _ (fun (e : n = n9) => hI.av.1 (e ▸ hn))]).out
    have hbu : ∀ n, n ≠ n9 → n ∉ c.names → σb n = .unused := fun n h1 h2 => by
      rw [hσb, upt_ne _ _ (fun (e : n = nO) => h2 (e ▸ c.inO)), upt_ne _ _ h1, upt_ne _ _ h1]
      exact unused_of hout h2
    clear hσb
    have hks' : c.ks ++ [s] = l.take (k + 1) := by rw [htk, hks]
    have hkl : c.q.es.length ≤ 2000 := by
      rw [← kv_len, hkv.length_eq]
      refine Nat.le_trans (kv0_len _ _) ?_
      rw [List.length_take]
      omega
    refine c_if2 noH_mono (fun ρ' σ' => FitsE [(0, .cptr .p (wdR w) 0), (5, .bptr n5 0), (6, .mp nO), (7, .raw c.q.bq 0), (9, .bptr n9 0), (19, .sl .p (l.map u32V)), (20, .int .i64 l.length), (21, .int .i64 k)] ρ' ∧ ∃ c', LM w l k s σ' c' ∧ c'.q.bq = c.q.bq) ?_ ?_
    · by_cases hg : w.isGoal s = true
      · rw [hg]
        refine wc_at n9 _ hb9 ?_
        repeat (first | refine i_s rfl ?_ | refine sw ?_ | refine c_t rfl ?_)
        refine i_mput (k := .u32) (ns := (c.ks ++ [s]).map toI) (vs := (c.ks ++ [s]).map fun x => i64V (updO c.o s INF x)) rfl rfl ((upt_ne _ _ (by decide)).trans hIb.ho) rfl rfl (out_upd (s := s) (v := 0) (by simp) (by rw [hks']; exact (List.take_sublist _ _).nodup hnd)) ?_
        repeat (first | refine i_s rfl ?_ | refine sw ?_)
        obtain ⟨f1, f2, fne, fl1, fl2, fn1, fn2⟩ := spare2 (n9 :: nX :: nY :: c.names) (by
          have := names_len hI (by omega) (by rw [hA]; exact hAl k)
          simp only [List.length_cons]
          omega)
        simp only [List.mem_cons, not_or] at fn1 fn2
        have hIc : CI (ups (ups σb n9 (.box (.int .u32 s.toNat))) nO (outB (c.ks ++ [s]) (updO (updO c.o s INF) s 0))) { c with ks := c.ks ++ [s], o := updO (updO c.o s INF) s 0 } :=
          CI.out (hIb.congr fun n hn => upt_ne _ _ fun (e : n = n9) => hIb.av.1 (e ▸ hn))
        have hfu : ∀ n ∈ [f1, f2], ups (ups σb n9 (.box (.int .u32 s.toNat))) nO (outB (c.ks ++ [s]) (updO (updO c.o s INF) s 0)) n = .unused := fun n hn => by
          simp only [List.mem_cons, List.not_mem_nil, or_false] at hn
          rcases hn with rfl | rfl
          · rw [upt_ne _ _ (fun (e : n = nO) => fn1.2.2.2 (e ▸ c.inO)), upt_ne _ _ fn1.1]
            exact hbu n fn1.1 fn1.2.2.2
          · rw [upt_ne _ _ (fun (e : n = nO) => fn2.2.2.2 (e ▸ c.inO)), upt_ne _ _ fn2.1]
            exact hbu n fn2.1 fn2.2.2.2
        obtain ⟨hq1, hq2⟩ := hIc.hq.call [f1, f2] hfu
        have hi1 : f1 ∈ [f1, f2] ++ c.q.names := by simp
        have hi2 : f2 ∈ [f1, f2] ++ c.q.names := by simp
        refine i_cd ([f1, f2] ++ c.q.names) rfl rfl hq1 (ct_Set hq2 (by show c.q.es.length < 1000000; omega) s 0 hi1 hi2 ((restr_at hi1).trans (hfu f1 (by simp))) ((restr_at hi2).trans (hfu f2 (by simp))) fne fl1 fl2 (fun hm => fn1.2.2.2 (c.inq hm))) ?_
        rintro v σ' g' ⟨⟨q', hn', hp'⟩, rfl⟩
        repeat refine sw ?_
        have hI2 := hIc.queue (f := [f1, f2]) (fun n hn => by
          simp only [List.mem_cons, List.not_mem_nil, or_false] at hn
          rcases hn with rfl | rfl
          · exact ⟨fn1.2.2.2, fn1.1, fn1.2.1, fn1.2.2.1⟩
          · exact ⟨fn2.2.2.2, fn2.1, fn2.2.1, fn2.2.2.1⟩) hn'.ok
        have hI3 := hI2.oext (o := o0 w) fun x hx => by
          show updO (updO c.o s INF) s 0 x = o0 w x
          unfold updO
          by_cases e : x = s
          · rw [if_pos e, e]
            unfold o0
            rw [if_pos hg]
          · rw [if_neg e, if_neg e, ho]
        have h9 : n9 ∉ [f1, f2] ++ c.q.names := by
          intro hm
          simp only [List.mem_append, List.mem_cons, List.not_mem_nil, or_false] at hm
          rcases hm with (h1 | h1) | h1
          · exact fn1.1 h1.symm
          · exact fn2.1 h1.symm
          · exact hI.av.1 (c.inq h1)
        refine e_end ⟨rfl, ⟨⟨rfl, rfl, rfl, rfl, rfl, rfl, rfl, rfl, trivial⟩, _, ⟨hI3, hks', rfl, hA, ?_, ?_⟩, hn'.bq⟩, rfl⟩
        · show q'.kv.Perm _
          have hfil : (c.q.kv.filter fun p => p.1 != s) = c.q.kv := by
            rw [List.filter_eq_self]
            intro p hp
            have h1 := hkv.mem_iff.1 hp
            obtain ⟨x, h2, rfl⟩ := List.mem_map.1 h1
            have h3 : x ∈ l.take k := (List.mem_filter.1 h2).1
            rw [← hks] at h3
            simpa using fun e : x = s => hsn (e ▸ h3)
          have hp2 : q'.kv.Perm ((s, 0) :: c.q.kv.filter fun p => p.1 != s) := hp'
          rw [hfil] at hp2
          rw [htk, kv0_snoc, if_pos hg]
          exact hp2.trans ((hkv.cons _).trans (List.perm_append_comm (l₁ := [(s, 0)])))
        · rw [merge_off h9, upt_ne _ _ (by decide), upt_self]
      · rw [Bool.eq_false_iff.2 hg]
        repeat (first | refine sw ?_ | refine c_f rfl ?_)
        have hI3 := hIb.oext (o := o0 w) fun x hx => by
          show updO c.o s INF x = o0 w x
          unfold updO
          by_cases e : x = s
          · rw [if_pos e, e]
            unfold o0
            rw [if_neg hg]
          · rw [if_neg e, ho]
        refine e_end ⟨rfl, ⟨⟨rfl, rfl, rfl, rfl, rfl, rfl, rfl, rfl, trivial⟩, _, ⟨hI3, hks', rfl, hA, ?_, hb9⟩, rfl⟩, rfl⟩
        rw [htk, kv0_snoc, if_neg hg, List.append_nil]
        exact hkv
    intro ρ' σ1 ⟨hE, c1, hL, hbq⟩
    clear hIb hbu hb9
    refine e_seq ?_
    rw [← hbq] at hE
    have hkl1 : c1.q.es.length ≤ 2000 := by
      rw [← kv_len, hL.kv.length_eq]
      refine Nat.le_trans (kv0_len _ _) ?_
      rw [List.length_take]
      omega
    have hcl1 : ∀ ns : List Nat, (∀ n ∈ c1.names, n ∈ ns) → (∀ n ∈ ns, n ∉ n9 :: c1.names → σ1 n = .unused) → Cl ns σ1 := fun ns h1 h2 => hL.ci.cl h1 fun n hn hm row hr => by
      by_cases e : n = n9
      · rw [e, hL.h9] at hr; cases hr; rfl
      · rw [h2 n hn (by simp only [List.mem_cons, not_or]; exact ⟨e, hm⟩)] at hr; cases hr
    have hE9 : ∀ (ns : List Nat), (∀ n ∈ c1.names, n ∈ ns) → n9 ∈ ns → closedE ns [(0, .cptr .p (wdR w) 0), (5, .bptr n5 0), (6, .mp nO), (7, .raw c1.q.bq 0), (9, .bptr n9 0), (19, .sl .p (l.map u32V)), (20, .int .i64 l.length), (21, .int .i64 k)] = true := fun ns h1 h2 => by
      simp only [closedE, closedB, (memB_iff n5 ns).2 (h1 _ c1.in5), (memB_iff nO ns).2 (h1 _ c1.inO), (memB_iff n9 ns).2 h2, Bool.and_self]
    refine c_cut [(0, .cptr .p (wdR w) 0), (5, .bptr n5 0), (6, .mp nO), (7, .raw c1.q.bq 0), (9, .bptr n9 0), (19, .sl .p (l.map u32V)), (20, .int .i64 l.length), (21, .int .i64 k)] (lsn (n9 :: c1.names) σ1)
      (fit_ns hE (fun _ _ => rfl) (hE9 _ (fun n hn => List.mem_cons_of_mem _ hn) (by simp)) (hcl1 _ (fun n hn => List.mem_cons_of_mem _ hn) fun n hn hm => absurd hn hm) (fun n hn => by cases hn)) ?_
    rw [stOf_lsn]
    refine c_gen fun σ2 hσ2 => ?_
    have h29 : σ2 n9 = .box (.int .u32 s.toNat) := by rw [hσ2, restr_at (by simp)]; exact hL.h9
    have hI2 : CI σ2 c1 := by
      rw [hσ2]
      exact hL.ci.congr fun n hn => restr_at (List.mem_cons_of_mem _ hn)
    have hout2 : ∀ nm, σ2 nm ≠ .unused → nm ∈ n9 :: c1.names := fun nm h => by
      rw [hσ2] at h
      exact restr_mem nm h
    have hks2 := hL.ks
    have ho2 := hL.o
    have hA2 := hL.A
    have hkv2 := hL.kv
    clear hσ2 hL hcl1 hE
    refine wc_at n9 _ h29 ?_
    repeat (first | refine i_s rfl ?_ | refine sw ?_)
    refine i_f rfl rfl (f_space_Words_Steps w s) rfl ?_
    repeat refine sw ?_
    refine wc_un h29 ?_
    obtain ⟨sp, hsp1, hsp2, hsp3⟩ := fresh_list (n9 :: nX :: nY :: c1.names) (w.steps s).length (by
      have h1 := names_len hI2 (by omega) (by rw [hA2]; exact hAl k)
      have h2 : (w.steps s).length ≤ w.ops.length := stepsFrom_len _ _ _
      simp only [List.length_cons]
      omega)
    have hsub : ∀ n ∈ c1.names, n ∈ sp ++ n9 :: c1.names := fun n hn => List.mem_append_right _ (List.mem_cons_of_mem _ hn)
    have hn9 : n9 ∈ sp ++ n9 :: c1.names := List.mem_append_right _ (by simp)
    have hnX : nX ∉ sp ++ n9 :: c1.names := fun hm => by
      rcases List.mem_append.1 hm with h1 | h1
      · exact (hsp3 _ h1).1 (by simp)
      · rcases List.mem_cons.1 h1 with h1 | h1
        · exact absurd h1 (by decide)
        · exact hI2.av.2.1 h1
    have hcl2 : Cl (sp ++ n9 :: c1.names) σ2 := hI2.cl hsub fun n hn hm row hr => by
      by_cases e : n = n9
      · rw [e, h29] at hr; cases hr; rfl
      · have hu : σ2 n = .unused := unused_of hout2 (by simp only [List.mem_cons, not_or]; exact ⟨e, hm⟩)
        rw [hu] at hr; cases hr
    refine c_range0 (sp ++ n9 :: c1.names) [(0, .cptr .p (wdR w) 0), (5, .bptr n5 0), (6, .mp nO), (7, .raw c1.q.bq 0), (9, .bptr n9 0), (19, .sl .p (l.map u32V)), (20, .int .i64 l.length), (21, .int .i64 k)] rfl ⟨rfl, rfl, rfl, rfl, rfl, rfl, rfl, rfl, trivial⟩ hcl2 (fun nm h => List.mem_append_right _ (hout2 nm h)) (fun n hn => by cases hn) (hE9 _ hsub hn9) rfl ?_
    refine Cc_mono ?_ (ct_Steps_1 w s (by omega) _ (fun x : RG Unit => x.2.2 = none ∧ ∃ c sp', RI w s (sp ++ n9 :: c1.names) c1 [] x.1 c sp') (YL_inv (fun rem (x : RG Unit) => x.2.2 = none ∧ ∃ c sp', RI w s (sp ++ n9 :: c1.names) c1 rem x.1 c sp') ?_ (fun s h => h) (w.steps s) _
      ⟨rfl, c1, sp, hI2, rfl, rfl, rfl, rfl, h29, by rw [hsp1]; exact Nat.le_refl _, hsp2, fun n hn => ?_, hsub, fun nm h => List.mem_append_right _ (hout2 nm h), hcl2⟩))
    · rintro v σ' x ⟨rfl, hx, c3, sp3, hR⟩
      obtain ⟨σx, gx, ox⟩ := x
      simp only at hx hR
      subst hx
      show WE _ _ _ _ _ .normal _ _ _
      repeat (first | refine i_s rfl ?_ | refine sw ?_ | refine ja rfl rfl ?_)
      have hA3 := hR.A
      rw [List.map_nil, List.append_nil, hA2] at hA3
      have hI3 : CI (restr c3.names σx) c3 := hR.ci.congr fun n hn => restr_at hn
      exact e_lp (restr c3.names σx, c3, k + 1) ⟨hI3, hR.ks.trans hks2, hR.o.trans ho2, by show c3.A = arcsL w (l.take (k + 1)); rw [hA3, htk, arcsL_append]; simp [arcsL], by show c3.q.kv.Perm _; rw [hR.q]; exact hkv2, hlt, fun nm h => restr_mem nm h⟩ (by show l.length - (k + 1) < l.length - k; omega)
        (fit_ns ⟨rfl, rfl, rfl, by rw [hR.q]; rfl, rfl, rfl, rfl, trivial⟩ (fun n hn => (restr_at hn).symm) (hE1 c3 _) (hI3.cl (fun n hn => hn) fun n hn hm => absurd hn hm) (fun n hn => by cases hn))
    · intro e r x hx K hk
      obtain ⟨σx, gx, ox⟩ := x
      obtain ⟨hx0, cx, sp', hR⟩ := hx
      simp only at hx0 hR
      subst hx0
      obtain ⟨f, sp2, rfl⟩ : ∃ f sp2, sp' = f :: sp2 := by
        cases hsp : sp' with
        | nil => have := hR.len; rw [hsp] at this; simp at this
        | cons a b => exact ⟨a, b, rfl⟩
      obtain ⟨hf1, hf2, ⟨hf3, hf4, hf5⟩, hf6, hf7⟩ := hR.sp f (by simp)
      refine rh_intro noH_mono rfl ?_
      refine wc_at n5 _ hR.ci.h5 ?_
      refine wc_at n9 _ ((upt_ne _ _ (by decide)).trans hR.h9) ?_
      repeat refine sw ?_
      refine i_alloc (by rw [upt_ne _ _ (by decide), upt_ne _ _ (by decide)]; exact unused_of hR.out hnX) ?_
      repeat (first | refine sw ?_ | refine i_stb rfl ?_)
      refine e_end ?_
      show WC _ _ _ _ [] _ _ _ _
      refine c_gen fun σy hσy => ?_
      have hyn : ∀ n, n ≠ nX → σy n = σx n := fun n hn => by
        rw [hσy, upt_ne _ _ hn, upt_ne _ _ hn]
        rw [ups_at (show ups σx n5 (.box (.mp nB)) n9 = .box (.int .u32 s.toNat) from (upt_ne _ _ (by decide)).trans hR.h9), ups_at hR.ci.h5]
      have yX : σy nX = .box (stV e) := by rw [hσy]; exact upt_self _ _ _
      have hIy : CI σy cx := hR.ci.congr fun n hn => hyn n fun (e : n = nX) => hR.ci.av.2.1 (e ▸ hn)
      have y9 : σy n9 = .box (.int .u32 s.toNat) := (hyn _ (by decide)).trans hR.h9
      have yf : σy f = .unused := (hyn f hf4).trans hf7
      clear hσy
      obtain ⟨F, hF, hB⟩ := hIy.bk
      have hfB : f ≠ nB := fun h => hf2 (h ▸ cx.inB)
      have hfn5 : f ≠ n5 := fun h => hf2 (h ▸ cx.in5)
      have hS : ups (ups (ups σy n5 (.box (.mp nB))) n9 (.box (.int .u32 s.toNat))) nX (.box (stV e)) = σy := by
        rw [ups_at (show ups (ups σy n5 (.box (.mp nB))) n9 (.box (.int .u32 s.toNat)) nX = .box (stV e) from (upt_ne _ _ (by decide)).trans ((upt_ne _ _ (by decide)).trans yX)), ups_at (show ups σy n5 (.box (.mp nB)) n9 = .box (.int .u32 s.toNat) from (upt_ne _ _ (by decide)).trans y9), ups_at hIy.h5]
      have hAr : cx.A ++ [(e.2.2, s, e.2.1)] ++ r.map (fun e => (e.2.2, s, e.2.1)) = c1.A ++ arcsOf w s := by
        have := hR.A
        rw [List.map_cons] at this
        rw [← this, List.append_assoc]
        rfl
      have hbl : (bkOf cx.A e.2.2).length ≤ 100000000000 := by
        have h1 := bkOf_len cx.A e.2.2
        have h2 := congrArg List.length hR.A
        have h3 : (arcsOf w s).length ≤ w.ops.length := by unfold arcsOf; rw [List.length_map]; exact stepsFrom_len _ _ _
        have h4 := hAl k
        rw [← hA2] at h4
        simp only [List.length_append, List.length_map] at h2
        omega
      have fin : ∀ (v' : BL) (bB : Blk), v'.to = e.2.2 → (v'.nm = f ∨ ∃ v ∈ cx.bl, v.to = e.2.2 ∧ v'.nm = v.nm) → v'.box.length = v'.c * 2 → (bkOf cx.A e.2.2).length + 1 ≤ v'.c → v'.box.take ((bkOf cx.A e.2.2).length * 2) = flatC ((bkOf cx.A e.2.2).map arcV) → (v'.box.drop ((bkOf cx.A e.2.2).length * 2)).take 2 = (arcV (s, e.2.1)).cells → (∀ u ∈ v'.box, pureB u = true) →
          (MP bB fun m => if m = e.2.2.toNat then some (.rsl v'.b ((bkOf cx.A e.2.2).length + 1) v'.c) else F m) →
          Cl (sp ++ n9 :: c1.names) (ups (ups σy v'.nm (.box (.tag v'.b v'.box))) nB bB) ∧ K (.bool true) (restr (sp ++ n9 :: c1.names) (ups (ups σy v'.nm (.box (.tag v'.b v'.box))) nB bB), gx, none) := by
        intro v' bB k1 k2 k3 k4 k5 k6 k7 k8
        have hnm : v'.nm ∉ n5 :: nB :: nO :: (cx.q.names ++ (cx.bl.filter fun v => v.to != e.2.2).map BL.nm) ∧ (v'.nm ≠ n9 ∧ v'.nm ≠ nX ∧ v'.nm ≠ nY) ∧ v'.nm ∈ sp ++ n9 :: c1.names := by
          rcases k2 with k2 | ⟨v, hv, ht, k2⟩
          · rw [k2]
            exact ⟨CI.nmf _ hf2, ⟨hf3, hf4, hf5⟩, hf1⟩
          · rw [k2, ← ht]
            have hvn := cx.inbl hv
            exact ⟨hIy.nmv hv, ⟨fun e => hIy.av.1 (e ▸ hvn), fun e => hIy.av.2.1 (e ▸ hvn), fun e => hIy.av.2.2 (e ▸ hvn)⟩, hR.sub _ hvn⟩
        have hI4 := hIy.arc hF hB e.2.2 s e.2.1 v' k1 hnm.1 hnm.2.1 k3 k4 k5 k6 k7 k8 (σ' := ups (ups σy v'.nm (.box (.tag v'.b v'.box))) nB bB) (fun n => by simp only [upt_if])
        have hcl4 : Cl (sp ++ n9 :: c1.names) (ups (ups σy v'.nm (.box (.tag v'.b v'.box))) nB bB) := by
          refine Cl.ups (Cl.ups (hR.cl.of fun nm hm => hyn nm fun (e : nm = nX) => hnX (e ▸ hm)) fun row hr => ?_) fun row hr => (k8.box row hr).elim
          cases hr
          exact box_closed _ k7
        refine ⟨hcl4, hk _ ⟨rfl, { cx with bl := v' :: cx.bl.filter fun v => v.to != e.2.2, A := cx.A ++ [(e.2.2, s, e.2.1)] }, sp2, ?_⟩⟩
        have hnames : ∀ n ∈ CD.names { cx with bl := v' :: cx.bl.filter fun v => v.to != e.2.2, A := cx.A ++ [(e.2.2, s, e.2.1)] }, n = v'.nm ∨ n ∈ cx.names := fun n hn => by
          have hn : n ∈ n5 :: nB :: nO :: (cx.q.names ++ (v'.nm :: (cx.bl.filter fun v => v.to != e.2.2).map BL.nm)) := hn
          simp only [List.mem_cons, List.mem_append] at hn
          simp only [CD.names, List.mem_cons, List.mem_append]
          rcases hn with h | h | h | h | h | h
          · exact .inr (.inl h)
          · exact .inr (.inr (.inl h))
          · exact .inr (.inr (.inr (.inl h)))
          · exact .inr (.inr (.inr (.inr (.inl h))))
          · exact .inl h
          · exact .inr (.inr (.inr (.inr (.inr ((List.filter_sublist.map BL.nm).subset h)))))
        have hsub4 : ∀ n ∈ CD.names { cx with bl := v' :: cx.bl.filter fun v => v.to != e.2.2, A := cx.A ++ [(e.2.2, s, e.2.1)] }, n ∈ sp ++ n9 :: c1.names := fun n hn => by
          rcases hnames n hn with h | h
          · rw [h]; exact hnm.2.2
          · exact hR.sub n h
        have hnd := List.nodup_cons.1 hR.nd
        refine ⟨hI4.congr fun n hn => restr_at (hsub4 n hn), hR.q, hR.ks, hR.o, hAr, ?_, ?_, hnd.2, fun n hn => ?_, hsub4, fun nm h => restr_mem nm h, hcl4.restr⟩
        · refine (restr_at hn9).trans ?_
          rw [upt_ne _ _ (by decide), upt_ne _ _ (fun e => hnm.2.1.1 e.symm)]
          exact y9
        · have := hR.len
          simp at this
          exact this
        · obtain ⟨q1, q2, q3, q4, q5⟩ := hR.sp n (List.mem_cons_of_mem _ hn)
          have hnv : n ≠ v'.nm := fun h => by
            rcases k2 with k2 | ⟨v, hv, _, k2⟩
            · rw [h, k2] at hn
              exact hnd.1 hn
            · exact q2 (h ▸ k2 ▸ cx.inbl hv)
          refine ⟨q1, fun hm => ?_, q3, q4, ?_⟩
          · rcases hnames n hm with h | h
            · exact hnv h
            · exact q2 h
          · refine (restr_at q1).trans ?_
            rw [upt_ne _ _ (fun (e : n = nB) => q2 (e ▸ cx.inB)), upt_ne _ _ hnv]
            exact (hyn n q3.2.1).trans q5
      refine wc_at n5 _ hIy.h5 ?_
      refine wc_at n9 _ ((upt_ne _ _ (by decide)).trans y9) ?_
      refine wc_at nX _ ((upt_ne _ _ (by decide)).trans ((upt_ne _ _ (by decide)).trans yX)) ?_
      by_cases ht : ∃ v ∈ cx.bl, v.to = e.2.2
      · obtain ⟨v, hv, hvt⟩ := ht
        have hFt := hB.here v hv
        have hvb := hIy.bl v hv
        rw [hvt] at hFt
        have hle := hvb.hle
        rw [hvt] at hle
        have hvn5 : v.nm ≠ n5 := fun h => hIy.nmv hv (by rw [h]; simp)
        have hvn : v.nm ≠ n9 ∧ v.nm ≠ nX := ⟨fun e => hIy.av.1 (e ▸ cx.inbl hv), fun e => hIy.av.2.1 (e ▸ cx.inbl hv)⟩
        repeat' (first | refine i_s rfl ?_ | refine sw ?_ | refine c_node ?_ ?_ | refine i_mgF (v := .rsl v.b (bkOf cx.A e.2.2).length v.c) rfl hF rfl rfl (by rw [hFt]; rfl) ?_)
        all_goals
          rw [hS]
          refine i_ap1 v.nm f rfl rfl ⟨rfl, rfl⟩ (by decide) hbl hvb.hs hvb.hl hle yf hf6 (fun nm2 b2 c2 l2 k0 k1 k2 k3 k4 k5 => ?_)
          have hn2 : nm2 ≠ n5 ∧ nm2 ≠ n9 ∧ nm2 ≠ nX ∧ nm2 ≠ nB := by
            rcases k0 with rfl | rfl
            · exact ⟨hvn5, hvn.1, hvn.2, fun h => hIy.nmv hv (by rw [h]; simp)⟩
            · exact ⟨hfn5, hf3, hf4, hfB⟩
          have g5 : ups σy nm2 (.box (.tag b2 l2)) n5 = .box (.mp nB) := (upt_ne _ _ (fun e => hn2.1 e.symm)).trans hIy.h5
          have gX : ups (ups σy nm2 (.box (.tag b2 l2))) n5 (.box (.mp nB)) nX = .box (stV e) := (upt_ne _ _ (by decide)).trans ((upt_ne _ _ (fun e => hn2.2.2.1 e.symm)).trans yX)
          refine wi_at n5 _ g5 ?_
          refine wi_at nX _ gX ?_
          repeat refine i_s rfl ?_
          refine wi_un gX ?_
          refine wi_un g5 ?_
          refine i_mputF (nm := nB) rfl rfl (hF.is (upt_ne _ _ (fun e => hn2.2.2.2 e.symm)).symm) rfl rfl rfl (fun bB hbB => ?_)
          repeat refine sw ?_
          obtain ⟨z1, z2⟩ := fin ⟨e.2.2, nm2, b2, c2, l2⟩ bB rfl (by
              rcases k0 with k0 | k0
              · exact .inr ⟨v, hv, hvt, k0⟩
              · exact .inl k0) k1 k2 (by rw [← hvt]; rw [← hvt] at k3; exact k3.trans hvb.ht) k4 (k5 hvb.hp (fun u hu => by
                simp only [V.cells, List.mem_cons, List.not_mem_nil, or_false] at hu
                rcases hu with rfl | rfl <;> rfl)) hbB
          refine e_end ?_
          exact rhq_ns z1 z2
      · have hnt : ∀ v ∈ cx.bl, v.to ≠ e.2.2 := fun v hv h => ht ⟨v, hv, h⟩
        obtain ⟨hFt, hnil⟩ := hB.gone _ hnt
        repeat' (first | refine i_s rfl ?_ | refine sw ?_ | refine c_node ?_ ?_ | refine i_mgF (v := .sl .nil []) rfl hF rfl rfl (by rw [hFt]; rfl) ?_)
        all_goals
          rw [hS]
          refine i_ap0 f rfl rfl ⟨rfl, rfl⟩ (by decide) yf hf6 (fun b2 c2 l2 k1 k2 k3 k5 => ?_)
          have g5 : ups σy f (.box (.tag b2 l2)) n5 = .box (.mp nB) := (upt_ne _ _ (fun e => hfn5 e.symm)).trans hIy.h5
          have gX : ups (ups σy f (.box (.tag b2 l2))) n5 (.box (.mp nB)) nX = .box (stV e) := (upt_ne _ _ (by decide)).trans ((upt_ne _ _ (fun e => hf4 e.symm)).trans yX)
          refine wi_at n5 _ g5 ?_
          refine wi_at nX _ gX ?_
          repeat refine i_s rfl ?_
          refine wi_un gX ?_
          refine wi_un g5 ?_
          refine i_mputF (nm := nB) rfl rfl (hF.is (upt_ne _ _ (fun e => hfB e.symm)).symm) rfl rfl rfl (fun bB hbB => ?_)
          repeat refine sw ?_
          obtain ⟨z1, z2⟩ := fin ⟨e.2.2, f, b2, c2, l2⟩ bB rfl (.inl rfl) k1 (by rw [hnil]; exact k2) (by rw [hnil]; simp [flatC]) (by rw [hnil]; exact k3) (k5 (fun u hu => by
                simp only [V.cells, List.mem_cons, List.not_mem_nil, or_false] at hu
                rcases hu with rfl | rfl <;> rfl)) (by rw [hnil]; exact hbB)
          refine e_end ?_
          exact rhq_ns z1 z2
    · have h1 := hsp3 n hn
      simp only [List.mem_cons, not_or] at h1
      refine ⟨List.mem_append_left _ hn, h1.1.2.2.2, ⟨h1.1.1, h1.1.2.1, h1.1.2.2.1⟩, h1.2, unused_of hout2 ?_⟩
      simp only [List.mem_cons, not_or]
      exact ⟨h1.1.1, h1.1.2.2.2⟩
  · have hge : k = l.length := by have : ¬ k < l.length := by simpa using h
                                  omega
    subst hge
    rw [List.take_length] at hks hA hkv
    have hR0 : RInv w l c.o c.q.kv fun _ _ _ => False := by rw [ho]; exact RInv.start hc hnd hcl hkv
    clear h hkv ho hE1 hk
    have hAn : (arcsL w l).length ≤ 2000000000 := by have := hAl l.length; rw [List.take_length] at this; exact this
    have hE2 : ∀ c : CD, closedE c.names [(5, .bptr n5 0), (6, .mp nO), (7, .raw c.q.bq 0)] = true := fun c => by
      simp only [closedE, closedB, (memB_iff n5 c.names).2 c.in5, (memB_iff nO c.names).2 c.inO, Bool.and_self]
    repeat refine sw ?_
    refine c_lp (fun u : Store × CD => [(5, .bptr n5 0), (6, .mp nO), (7, .raw u.2.q.bq 0)]) (fun u => lsn u.2.names u.1) (L2 w l) (fun u => sumO u.2.o l * (l.length + 1) + u.2.q.es.length) (σ, c) ⟨hI, hks, hA, hR0, hout⟩
      (fit_ns ⟨rfl, rfl, rfl, trivial⟩ (fun _ _ => rfl) (hE2 c) (hI.cl (fun n hn => hn) fun n hn hm => absurd hn hm) (fun n hn => by cases hn)) fun u hu => ?_
    clear hI hks hA hR0 hout
    obtain ⟨σ, c⟩ := u
    obtain ⟨hI, hks, hA, hinv, hout⟩ := hu
    dsimp only at hI hks hA hinv hout
    show WC _ _ _ _ _ _ _ (stOf (lsn c.names σ)) _
    rw [stOf_lsn, restr_all hout]
    have hel : c.q.es.length ≤ l.length := by rw [← kv_len]; exact hinv.len
    obtain ⟨hq1, hq2⟩ := hI.hq.call [] (fun n hn => by cases hn)
    repeat (first | refine i_s rfl ?_ | refine sw ?_)
    refine i_cd ([] ++ c.q.names) rfl rfl hq1 (ct_QLen hq2.any) ?_
    rintro v σ' g' ⟨rfl, rfl, rfl⟩
    rw [merge_restr]
    repeat (first | refine i_s rfl ?_ | refine sw ?_)
    refine c_cond rfl (fun h => ?_) (fun h => ?_)
    · have hne : c.q.es ≠ [] := fun e => by rw [e] at h; simp at h
      clear h
      repeat (first | refine i_s rfl ?_ | refine sw ?_)
      refine i_cd ([] ++ c.q.names) rfl rfl hq1 (ct_Take hq2 hne) ?_
      rintro v σ' g' ⟨⟨q', s, d, hn', hp', rfl⟩, rfl⟩
      have hI2 := hI.queue (f := []) (fun n hn => by cases hn) hn'.ok
      obtain ⟨hin2, hsl, hds, hdI⟩ := (hinv.perm hp').take
      have hel2 : q'.es.length + 1 = c.q.es.length := by
        have h1 : c.q.kv.length = _ := hp'.length_eq
        rw [List.length_cons] at h1
        have h2 := kv_len c.q
        have h3 := kv_len q'
        omega
      generalize merge ([] ++ c.q.names) σ σ' = σ2 at hI2 ⊢
      have hd0 : 0 ≤ d := by rw [hds]; exact hinv.nn s hsl
      have hd1 : d < 1000000000 := hdI
      obtain ⟨F, hF, hB⟩ := hI2.bk
      change BkF c.A F c.bl at hB
      rw [hA] at hB
      obtain ⟨vv, hvv, hcase⟩ : ∃ vv, mres false (.sl .nil []) (F (s.toNat : Int)) = vv ∧ ((vv = .sl .nil [] ∧ bkOf (arcsL w l) s = []) ∨ ∃ b0 ∈ c.bl, b0.to = s ∧ vv = .rsl b0.b (bkOf (arcsL w l) s).length b0.c) := by
        by_cases ht : ∃ v ∈ c.bl, v.to = s
        · obtain ⟨v, hv, rfl⟩ := ht
          exact ⟨_, rfl, .inr ⟨v, hv, rfl, by rw [hB.here v hv]; rfl⟩⟩
        · obtain ⟨h1, h2⟩ := hB.gone s fun v hv e => ht ⟨v, hv, e⟩
          exact ⟨_, rfl, .inl ⟨by rw [h1]; rfl, h2⟩⟩
      have hvc : ∀ ns, closedB ns vv = true := fun ns => by rcases hcase with ⟨rfl, _⟩ | ⟨_, _, _, rfl⟩ <;> rfl
      have hE3 : ∀ (c : CD) (j : Int), closedE c.names [(5, .bptr n5 0), (6, .mp nO), (7, .raw c.q.bq 0), (12, .int .i64 d), (64, vv), (65, .int .i64 (bkOf (arcsL w l) s).length), (66, .int .i64 j)] = true := fun c j => by
        simp only [closedE, closedB, (memB_iff n5 c.names).2 c.in5, (memB_iff nO c.names).2 c.inO, hvc, Bool.and_self]
      repeat (first | refine i_s rfl ?_ | refine sw ?_)
      refine wi_at n5 _ hI2.h5 ?_
      repeat refine i_s rfl ?_
      refine i_mgF rfl hF rfl rfl hvv ?_
      refine wi_un hI2.h5 ?_
      skip
      refine i_lenR (n := (bkOf (arcsL w l) s).length) rfl (by
        rcases hcase with ⟨h1, h2⟩ | ⟨b0, _, _, h1⟩
        · exact .inl ⟨h1, by rw [h2]; rfl⟩
        · exact .inr ⟨_, _, h1⟩) ?_
      repeat (first | refine i_s rfl ?_ | refine sw ?_)
      obtain ⟨M, hM⟩ : ∃ M, M = sumO c.o l * (l.length + 1) + c.q.es.length := ⟨_, rfl⟩
      have hI2r : CI (restr (CD.names { c with q := q' }) σ2) { c with q := q' } := hI2.congr fun n hn => restr_at hn
      refine c_lp (fun u : Store × CD × Nat => [(5, .bptr n5 0), (6, .mp nO), (7, .raw u.2.1.q.bq 0), (12, .int .i64 d), (64, vv), (65, .int .i64 (bkOf (arcsL w l) s).length), (66, .int .i64 u.2.2)]) (fun u => lsn u.2.1.names u.1) (L3 w l c s d M) (fun u => (bkOf (arcsL w l) s).length - u.2.2) (restr (CD.names { c with q := q' }) σ2, { c with q := q' }, 0)
        ⟨hI2r, hks, hA, rfl, hin2, hds.symm, Nat.zero_le _, fun nm h => restr_mem nm h, by show sumO c.o l * (l.length + 1) + q'.es.length < M; omega⟩
        (fit_ns ⟨rfl, rfl, by rw [← hn'.bq]; rfl, rfl, rfl, rfl, rfl, trivial⟩ (fun n hn => (restr_at hn).symm) (hE3 _ _) (hI2r.cl (fun n hn => hn) fun n hn hm => absurd hn hm) (fun n hn => by cases hn)) fun u hu => ?_
      clear hI hI2 hI2r hF hB hin2 hds hel2 hinv hq1 hq2 hn' hp' hne hout hvv hks hA hel
      obtain ⟨σ3, c3, j⟩ := u
      obtain ⟨hI, hks, hA, hbl, hinv, hos, hj, hout, hmu⟩ := hu
      dsimp only at hI hks hA hbl hinv hos hj hout hmu
      show WC _ _ _ _ _ _ _ (stOf (lsn c3.names σ3)) _
      rw [stOf_lsn, restr_all hout]
      have hel : c3.q.es.length ≤ l.length := by rw [← kv_len]; exact hinv.len
      have hbkl := bkOf_len (arcsL w l) s
      repeat (first | refine i_s rfl ?_ | refine sw ?_)
      refine c_cond rfl (fun h => ?_) (fun h => ?_)
      · have hjl : j < (bkOf (arcsL w l) s).length := by simpa using h
        clear h
        obtain ⟨⟨x, kk⟩, hjx⟩ := get_some hjl
        obtain ⟨b0, hb0, hto, hvr⟩ : ∃ b0 ∈ c.bl, b0.to = s ∧ vv = .rsl b0.b (bkOf (arcsL w l) s).length b0.c := by
          rcases hcase with ⟨_, h2⟩ | h2
          · rw [h2] at hjl; simp at hjl
          · exact h2
        have hbk := hI.bl b0 (by rw [hbl]; exact hb0)
        rw [hA] at hbk
        have hxA : (s, x, kk) ∈ arcsL w l := mem_bkOf.1 (mem_get hjx)
        obtain ⟨hxl, i0, hst⟩ := mem_arcsL.1 hxA
        have hkk := step_cost hc hst
        simp only at hkk
        have hdrop : (bkOf (arcsL w l) s).drop j = (x, kk) :: (bkOf (arcsL w l) s).drop (j + 1) := by
          rw [List.drop_eq_getElem_cons hjl]
          congr 1
          exact (List.getElem?_eq_some_iff.1 hjx).2
        rw [hdrop] at hinv
        have hxk : x ∈ c3.ks := by rw [hks]; exact hxl
        subst hvr
        have hO2 : ups (ups σ3 nY (.box (.agg [.int .u32 0, .int .i64 0]))) nY (.box (arcV (x, kk))) nO = outB c3.ks c3.o := (upt_ne _ _ (by decide)).trans ((upt_ne _ _ (by decide)).trans hI.ho)
        have nx : ∀ i, i ≤ (bkOf (arcsL w l) s).length → ((i : Nat) : Int) = i := fun _ _ => rfl
        repeat refine sw ?_
        refine i_irs (n := (j : Int)) rfl rfl (by omega) (by omega) ?_
        refine i_ldr b0.nm rfl hbk.hs (arc_at hbk (by rw [hto]; exact hjx)) ?_
        refine i_alloc (unused_of hout hI.av.2.2) ?_
        repeat (first | refine i_s rfl ?_ | refine sw ?_ | refine ja rfl rfl ?_ | refine i_stb rfl ?_)
        refine i_mgO rfl hO2 rfl hxk ?_
        repeat (first | refine i_s rfl ?_ | refine sw ?_)
        refine c_cond rfl (fun h => ?_) (fun h => ?_)
        · have hlt : c3.o s + kk < c3.o x := by rw [hos]; simpa using h
          clear h
          repeat (first | refine i_s rfl ?_ | refine sw ?_ | refine ja rfl rfl ?_)
          refine i_mput (k := .u32) (ns := c3.ks.map toI) (vs := c3.ks.map fun x => i64V (c3.o x)) rfl rfl hO2 rfl rfl (out_upd (s := x) (v := d + kk) hxk (by rw [hks]; exact hnd)) ?_
          repeat (first | refine i_s rfl ?_ | refine sw ?_ | refine ja rfl rfl ?_)
          obtain ⟨f1, f2, fne, fl1, fl2, fn1, fn2⟩ := spare2 (n9 :: nX :: nY :: c3.names) (by
            have := names_len hI (by omega) (by rw [hA]; exact hAn)
            simp only [List.length_cons]
            omega)
          simp only [List.mem_cons, not_or] at fn1 fn2
          have hIy : CI (ups (ups σ3 nY (.box (.agg [.int .u32 0, .int .i64 0]))) nY (.box (arcV (x, kk)))) c3 := hI.congr fun n hn => by
            rw [upt_ne _ _ (fun (e : n = nY) => hI.av.2.2 (e ▸ hn)), upt_ne _ _ (fun (e : n = nY) => hI.av.2.2 (e ▸ hn))]
          have hIc := hIy.out (ks := c3.ks) (o := updO c3.o x (d + kk))
          have hfu : ∀ n ∈ [f1, f2], ups (ups (ups σ3 nY (.box (.agg [.int .u32 0, .int .i64 0]))) nY (.box (arcV (x, kk)))) nO (outB c3.ks (updO c3.o x (d + kk))) n = .unused := fun n hn => by
            simp only [List.mem_cons, List.not_mem_nil, or_false] at hn
            rcases hn with rfl | rfl
            · rw [upt_ne _ _ (fun (e : n = nO) => fn1.2.2.2 (e ▸ c3.inO)), upt_ne _ _ fn1.2.2.1, upt_ne _ _ fn1.2.2.1]
              exact unused_of hout fn1.2.2.2
            · rw [upt_ne _ _ (fun (e : n = nO) => fn2.2.2.2 (e ▸ c3.inO)), upt_ne _ _ fn2.2.2.1, upt_ne _ _ fn2.2.2.1]
              exact unused_of hout fn2.2.2.2
          obtain ⟨hq1, hq2⟩ := hIc.hq.call [f1, f2] hfu
          have hi1 : f1 ∈ [f1, f2] ++ c3.q.names := by simp
          have hi2 : f2 ∈ [f1, f2] ++ c3.q.names := by simp
          refine i_cd ([f1, f2] ++ c3.q.names) rfl rfl hq1 (ct_Set hq2 (by show c3.q.es.length < 1000000; omega) x (d + kk) hi1 hi2 ((restr_at hi1).trans (hfu f1 (by simp))) ((restr_at hi2).trans (hfu f2 (by simp))) fne fl1 fl2 (fun hm => fn1.2.2.2 (c3.inq hm))) ?_
          rintro v σ' g' ⟨⟨q', hn', hp'⟩, rfl⟩
          have hI2 := hIc.queue (f := [f1, f2]) (fun n hn => by
            simp only [List.mem_cons, List.not_mem_nil, or_false] at hn
            rcases hn with rfl | rfl
            · exact ⟨fn1.2.2.2, fn1.1, fn1.2.1, fn1.2.2.1⟩
            · exact ⟨fn2.2.2.2, fn2.1, fn2.2.1, fn2.2.2.1⟩) hn'.ok
          rw [← hos] at hp'
          obtain ⟨r1, r2, r3, r4⟩ := hinv.relax hc hsl hxA hlt hp'
          have hs1 := (sumO_upd r4 hlt (l := l)).2 hxl
          rw [hos] at r1 r2 hs1
          have hel2 : q'.es.length ≤ l.length := by rw [← kv_len]; exact r1.len
          have hmu2 : sumO (updO c3.o x (d + kk)) l * (l.length + 1) + q'.es.length < M := by
            have h1 : (sumO (updO c3.o x (d + kk)) l + 1) * (l.length + 1) ≤ sumO c3.o l * (l.length + 1) := Nat.mul_le_mul_right _ hs1
            rw [Nat.add_mul, Nat.one_mul] at h1
            omega
          have hI2r : CI (restr (CD.names { c3 with q := q', ks := c3.ks, o := updO c3.o x (d + kk) }) (merge ([f1, f2] ++ c3.q.names) (ups (ups (ups σ3 nY (.box (.agg [.int .u32 0, .int .i64 0]))) nY (.box (arcV (x, kk)))) nO (outB c3.ks (updO c3.o x (d + kk)))) σ')) { c3 with q := q', ks := c3.ks, o := updO c3.o x (d + kk) } := hI2.congr fun n hn => restr_at hn
          repeat (first | refine i_s rfl ?_ | refine sw ?_ | refine ja rfl rfl ?_)
          exact e_lp (_, { c3 with q := q', ks := c3.ks, o := updO c3.o x (d + kk) }, j + 1) ⟨hI2r, hks, hA, hbl, r1, r2, hjl, fun nm h => restr_mem nm h, hmu2⟩ (by show (bkOf (arcsL w l) s).length - (j + 1) < (bkOf (arcsL w l) s).length - j; omega)
            (fit_ns ⟨rfl, rfl, by rw [← hn'.bq]; rfl, rfl, rfl, rfl, rfl, trivial⟩ (fun n hn => (restr_at hn).symm) (hE3 _ _) (hI2r.cl (fun n hn => hn) fun n hn hm => absurd hn hm) (fun n hn => by cases hn))
        · have hge : ¬ c3.o s + kk < c3.o x := by rw [hos]; simpa using h
          clear h
          repeat (first | refine i_s rfl ?_ | refine sw ?_ | refine ja rfl rfl ?_)
          exact e_lp (σ3, c3, j + 1) ⟨hI, hks, hA, hbl, hinv.skip hge, hos, hjl, hout, hmu⟩ (by show (bkOf (arcsL w l) s).length - (j + 1) < (bkOf (arcsL w l) s).length - j; omega)
            (fit_ns ⟨rfl, rfl, rfl, rfl, rfl, rfl, rfl, trivial⟩ (fun n hn => by rw [upt_ne _ _ (fun (e : n = nY) => hI.av.2.2 (e ▸ hn)), upt_ne _ _ (fun (e : n = nY) => hI.av.2.2 (e ▸ hn))]) (hE3 _ _) (hI.cl (fun n hn => hn) fun n hn hm => absurd hn hm) (fun n hn => by cases hn))
      · have hje : j = (bkOf (arcsL w l) s).length := by have : ¬ j < (bkOf (arcsL w l) s).length := by simpa using h
                                                         omega
        clear h
        subst hje
        rw [List.drop_length] at hinv
        repeat refine sw ?_
        exact e_lp (σ3, c3) ⟨hI, hks, hA, hinv.mono fun t u k h => by simp at h, hout⟩ (by rw [← hM]; exact hmu) (fit_ns ⟨rfl, rfl, rfl, trivial⟩ (fun _ _ => rfl) (hE2 c3) (hI.cl (fun n hn => hn) fun n hn hm => absurd hn hm) (fun n hn => by cases hn))
    · have he : c.q.es = [] := by
        have : ¬ ((c.q.es.length : Nat) : Int) > 0 := by simpa using h
        exact List.eq_nil_of_length_eq_zero (by omega)
      have hkv0 : c.q.kv = [] := by unfold HS.kv; rw [he]; rfl
      rw [hkv0] at hinv
      have hls := hinv.least hcl
      have hO := hI.ho
      rw [hks, outB_congr (o' := D) fun s hs => (hls s hs).uniq (hD s)] at hO
      repeat (first | refine i_s rfl ?_ | refine sw ?_)
      refine e_ret ⟨rfl, _, rfl, ?_⟩
      show _ = er σ 6 (.mp nO)
      unfold outB at hO
      simp only [er, hO]
end Hm
end
section
namespace Hm
open Go
set_option maxRecDepth 100000
set_option maxHeartbeats 1000000
def c_strips_IsSet : Cmd :=
 (qS [qb 4 false]
 (qT (qS [qm 7 0, qn 8 7, qc 9 0]
 (.block 0 (.loop (qS [qu 10 .lss [] 9 8]
 (qT (.cond (.t 10) .skip (.exit 0))
 (qT (.block 1 (qS [qm 11 9, qi 12 1 7 9, ql 13 1 12, qm 5 11, qm 6 13]
 (qS [qm 14 6, qv 15 .lss [] 14 0, qm 16 15, qg 17 16 false (.mov (.t 6)), qg 18 16 false (.mov (.t 1)), qg 19 16 false (.bin .geq false [] (.t 17) (.t 18)), qq 20 (.pick (.t 16) (.c (.bool true)) (.t 19)), qm 21 20, qg 22 21 false (.mov (.t 5)), qg 23 21 false (.bin .gtr false [] (.t 22) (.c (.int .i64 0))), qg 24 21 false (.mov (.t 23)), qg 25 24 true (.mov (.t 6)), qg 26 24 true (.mov (.t 0)), qg 27 24 true (.mov (.t 5)), qg 28 24 true (.bin .sub false [] (.t 27) (.c (.int .i64 1))), qg 29 24 true (.iaddr 1 (.t 26) (.t 28)), qg 30 24 true (.load false 1 (.t 29)), qg 31 24 true (.bin .leq false [] (.t 25) (.t 30)), qg 32 21 false (.pick (.t 24) (.t 31) (.c (.bool false))), qq 33 (.pick (.t 21) (.c (.bool true)) (.t 32))]
 (.cond (.t 33) (.seq (.ops [qb 4 false]) .ret) .skip))))
 (.ops [qv 34 .add [] 9 1, qm 9 34])))))))
 (.seq (.ops [qb 4 true]) .ret)))
def r_strips_IsSet : List RVar := [.tmp 4]
def n_strips_IsSet : Nat := 35
theorem k_strips_IsSet : chkFn Go.Proofs.Try.prog 40 n_strips_IsSet r_strips_IsSet c_strips_IsSet = true := by kernel_rfl
theorem f_strips_IsSet (l : List Int) (n : Int) (hl : l.length ≤ 140737488355328) : Fc Go.Proofs.Try.prog 40 [.sl .p (l.map i64V), .int .i64 n] (.bool (isSetB n l)) := by
  refine Fn.step mixed k_strips_IsSet ?_
  repeat (first | refine i_len rfl ?_ | refine i_s rfl ?_ | refine i_lenm rfl rfl rfl ?_ | refine sw ?_ | refine i_s0 rfl ?_ | refine i_gt rfl ?_ | refine i_gf rfl ?_ | refine i_gd rfl ?_ | refine c_t rfl ?_ | refine c_f rfl ?_ | refine jc rfl ?_ | refine ja rfl rfl ?_ | refine jb rfl rfl ?_ | refine jg rfl rfl ?_ | refine jf rfl rfl ?_ | refine jd rfl rfl ?_ | refine je rfl rfl ?_ | refine jh rfl rfl ?_ | refine i_stb rfl ?_ | refine i_alloc rfl ?_ | refine i_box rfl rfl ?_ | refine i_nv rfl ?_)
  refine c_for l.length (fun k => [(0, .sl .p (l.map i64V)), (1, .int .i64 n), (7, .sl .p (l.map i64V)), (8, .int .i64 l.length), (9, .int .i64 k)]) (fun _ => []) (fun k => ∀ j, j < k → setAt n l j = true) all_zero ft fun k hk hi => ?_
  repeat (first | refine i_len rfl ?_ | refine i_s rfl ?_ | refine i_lenm rfl rfl rfl ?_ | refine sw ?_ | refine i_s0 rfl ?_ | refine i_gt rfl ?_ | refine i_gf rfl ?_ | refine i_gd rfl ?_ | refine c_t rfl ?_ | refine c_f rfl ?_ | refine jc rfl ?_ | refine ja rfl rfl ?_ | refine jb rfl rfl ?_ | refine jg rfl rfl ?_ | refine jf rfl rfl ?_ | refine jd rfl rfl ?_ | refine je rfl rfl ?_ | refine jh rfl rfl ?_ | refine i_stb rfl ?_ | refine i_alloc rfl ?_ | refine i_box rfl rfl ?_ | refine i_nv rfl ?_)
  refine c_cond rfl (fun h => ?_) (fun h => ?_)
  · have hlt : k < l.length := by simpa using h
    obtain ⟨x, hx⟩ := get_some hlt
    clear h
    by_cases h0 : k = 0
    · have hat : setAt n l k = (decide (0 ≤ x) && decide (x < n)) := by subst h0; simp [setAt, hx]
      subst h0
      repeat' (first | refine i_len rfl ?_ | refine i_s rfl ?_ | refine i_lenm rfl rfl rfl ?_ | refine sw ?_ | refine i_s0 rfl ?_ | refine i_gt rfl ?_ | refine i_gf rfl ?_ | refine i_gd rfl ?_ | refine c_t rfl ?_ | refine c_f rfl ?_ | refine jc rfl ?_ | refine ja rfl rfl ?_ | refine jb rfl rfl ?_ | refine jg rfl rfl ?_ | refine jf rfl rfl ?_ | refine jd rfl rfl ?_ | refine je rfl rfl ?_ | refine jh rfl rfl ?_ | refine i_stb rfl ?_ | refine i_alloc rfl ?_ | refine i_box rfl rfl ?_ | refine i_nv rfl ?_ | (refine sp ?_ ?_ <;> try intro h) | fail)
      all_goals first
        | (refine e_for hlt (all_succ hi (by rw [hat]; clear hi hat hx; simp at *; try omega)) ft)
        | (refine e_ret ⟨rfl, _, rfl, congrArg V.bool ?_⟩
           have : setAt n l 0 = false := by rw [hat]; clear hi hat hx; simp at *; try omega
           simp [isSetB, allN_bad hlt this])
        | (exfalso; clear hi hat; simp at *; omega)
    · obtain ⟨y, hy⟩ := get_some (l := l) (k := k - 1) (by omega)
      have hat : setAt n l k = (decide (0 ≤ x) && decide (x < n) && decide (y < x)) := by simp [setAt, hx, h0, hy]
      have h1 : 0 < k := by omega
      have hy' : l[((k : Int) - 1).toNat]? = some y := by rw [show ((k : Int) - 1).toNat = k - 1 from by omega]; exact hy
      repeat' (first | refine i_len rfl ?_ | refine i_s rfl ?_ | refine i_lenm rfl rfl rfl ?_ | refine sw ?_ | refine i_s0 rfl ?_ | refine i_gt rfl ?_ | refine i_gf rfl ?_ | refine i_gd rfl ?_ | refine c_t rfl ?_ | refine c_f rfl ?_ | refine jc rfl ?_ | refine ja rfl rfl ?_ | refine jb rfl rfl ?_ | refine jg rfl rfl ?_ | refine jf rfl rfl ?_ | refine jd rfl rfl ?_ | refine je rfl rfl ?_ | refine jh rfl rfl ?_ | refine i_stb rfl ?_ | refine i_alloc rfl ?_ | refine i_box rfl rfl ?_ | refine i_nv rfl ?_ | (refine sp ?_ ?_ <;> try intro h) | fail)
      all_goals first
        | (refine e_for hlt (all_succ hi (by rw [hat]; clear hi hat hx; simp at *; try omega)) ft)
        | (refine e_ret ⟨rfl, _, rfl, congrArg V.bool ?_⟩
           have : setAt n l k = false := by rw [hat]; clear hi hat hx; simp at *; try omega
           simp [isSetB, allN_bad hlt this])
        | (exfalso; clear hi hat; simp at *; omega)
  · have hge : ¬ k < l.length := by simpa using h
    repeat' (first | refine i_len rfl ?_ | refine i_s rfl ?_ | refine i_lenm rfl rfl rfl ?_ | refine sw ?_ | refine i_s0 rfl ?_ | refine i_gt rfl ?_ | refine i_gf rfl ?_ | refine i_gd rfl ?_ | refine c_t rfl ?_ | refine c_f rfl ?_ | refine jc rfl ?_ | refine ja rfl rfl ?_ | refine jb rfl rfl ?_ | refine jg rfl rfl ?_ | refine jf rfl rfl ?_ | refine jd rfl rfl ?_ | refine je rfl rfl ?_ | refine jh rfl rfl ?_ | refine i_stb rfl ?_ | refine i_alloc rfl ?_ | refine i_box rfl rfl ?_ | refine i_nv rfl ?_ | (refine sp ?_ ?_ <;> try intro h) | fail)
    exact e_ret ⟨rfl, _, rfl, congrArg V.bool (by simp [isSetB]; exact allN_ok fun j hj => hi j (by omega))⟩
def c_slices_isNaN_int : Cmd :=
 (qS [qb 2 false]
 (.seq (.ops [qm 3 0, qm 4 0, qu 5 .neq [.i] 3 4, qm 2 5]) .ret))
def r_slices_isNaN_int : List RVar := [.tmp 2]
def n_slices_isNaN_int : Nat := 6
theorem k_slices_isNaN_int : chkFn Go.Proofs.Try.prog 74 n_slices_isNaN_int r_slices_isNaN_int c_slices_isNaN_int = true := by kernel_rfl
theorem f_slices_isNaN_int (x : Int) : Fc Go.Proofs.Try.prog 74 [.int .i64 x] (.bool false) := by
  refine Fn.step mixed k_slices_isNaN_int ?_
  repeat' (first | refine i_len rfl ?_ | refine i_s rfl ?_ | refine i_lenm rfl rfl rfl ?_ | refine sw ?_ | refine i_s0 rfl ?_ | refine i_gt rfl ?_ | refine i_gf rfl ?_ | refine i_gd rfl ?_ | refine c_t rfl ?_ | refine c_f rfl ?_ | refine jc rfl ?_ | refine ja rfl rfl ?_ | refine jb rfl rfl ?_ | refine jg rfl rfl ?_ | refine jf rfl rfl ?_ | refine jd rfl rfl ?_ | refine je rfl rfl ?_ | refine jh rfl rfl ?_ | refine i_stb rfl ?_ | refine i_alloc rfl ?_ | refine i_box rfl rfl ?_ | refine i_nv rfl ?_ | (refine sp ?_ ?_ <;> try intro h) | fail)
  exact e_ret ⟨rfl, _, rfl, congrArg V.bool (by simp)⟩
def c_cmp_isNaN_int : Cmd :=
 (qS [qb 2 false]
 (.seq (.ops [qm 3 0, qm 4 0, qu 5 .neq [.i] 3 4, qm 2 5]) .ret))
def r_cmp_isNaN_int : List RVar := [.tmp 2]
def n_cmp_isNaN_int : Nat := 6
theorem k_cmp_isNaN_int : chkFn Go.Proofs.Try.prog 70 n_cmp_isNaN_int r_cmp_isNaN_int c_cmp_isNaN_int = true := by kernel_rfl
theorem f_cmp_isNaN_int (x : Int) : Fc Go.Proofs.Try.prog 70 [.int .i64 x] (.bool false) := by
  refine Fn.step mixed k_cmp_isNaN_int ?_
  repeat' (first | refine i_len rfl ?_ | refine i_s rfl ?_ | refine i_lenm rfl rfl rfl ?_ | refine sw ?_ | refine i_s0 rfl ?_ | refine i_gt rfl ?_ | refine i_gf rfl ?_ | refine i_gd rfl ?_ | refine c_t rfl ?_ | refine c_f rfl ?_ | refine jc rfl ?_ | refine ja rfl rfl ?_ | refine jb rfl rfl ?_ | refine jg rfl rfl ?_ | refine jf rfl rfl ?_ | refine jd rfl rfl ?_ | refine je rfl rfl ?_ | refine jh rfl rfl ?_ | refine i_stb rfl ?_ | refine i_alloc rfl ?_ | refine i_box rfl rfl ?_ | refine i_nv rfl ?_ | (refine sp ?_ ?_ <;> try intro h) | fail)
  exact e_ret ⟨rfl, _, rfl, congrArg V.bool (by simp)⟩
def c_cmp_Less_int : Cmd :=
 (qS [qb 4 false]
 (.seq (.ops [qm 5 0, qk 6 70 [5], qm 7 6, qg 8 7 true (.mov (.t 1)), qg 9 7 true (.call .f (.c (.fn 70 [])) [.t 8]), qg 10 7 true (.not (.t 9)), qq 11 (.pick (.t 7) (.t 10) (.c (.bool false))), qm 12 11, qg 13 12 false (.mov (.t 0)), qg 14 12 false (.mov (.t 1)), qg 15 12 false (.bin .lss false [] (.t 13) (.t 14)), qq 16 (.pick (.t 12) (.c (.bool true)) (.t 15)), qm 4 16]) .ret))
def r_cmp_Less_int : List RVar := [.tmp 4]
def n_cmp_Less_int : Nat := 17
theorem k_cmp_Less_int : chkFn Go.Proofs.Try.prog 73 n_cmp_Less_int r_cmp_Less_int c_cmp_Less_int = true := by kernel_rfl
theorem f_cmp_Less_int (x y : Int) : Fc Go.Proofs.Try.prog 73 [.int .i64 x, .int .i64 y] (.bool (decide (x < y))) := by
  refine Fn.step mixed k_cmp_Less_int ?_
  repeat' (first | refine i_len rfl ?_ | refine i_s rfl ?_ | refine i_lenm rfl rfl rfl ?_ | refine sw ?_ | refine i_s0 rfl ?_ | refine i_gt rfl ?_ | refine i_gf rfl ?_ | refine i_gd rfl ?_ | refine c_t rfl ?_ | refine c_f rfl ?_ | refine jc rfl ?_ | refine ja rfl rfl ?_ | refine jb rfl rfl ?_ | refine jg rfl rfl ?_ | refine jf rfl rfl ?_ | refine jd rfl rfl ?_ | refine je rfl rfl ?_ | refine jh rfl rfl ?_ | refine i_stb rfl ?_ | refine i_alloc rfl ?_ | refine i_box rfl rfl ?_ | refine i_nv rfl ?_ | (refine sp ?_ ?_ <;> try intro h) | refine sf rfl rfl (f_cmp_isNaN_int _) ?_ | fail)
  exact e_ret ⟨rfl, _, rfl, rfl⟩
end Hm
end
section
namespace Hm
open Go
set_option maxRecDepth 100000
set_option maxHeartbeats 4000000
theorem f_isNaN_int (a : Int) : Fc Go.Proofs.Try.prog 70 [.int .i64 a] (.bool false) := by
  refine Fn.step mixed k_cmp_isNaN_int ?_
  repeat' (first | refine i_s rfl ?_ | refine sw ?_ | fail)
  all_goals first
    | exact e_ret ⟨rfl, _, rfl, congrArg V.bool (by simp)⟩
def c_cmp_Compare_int : Cmd :=
 (qS [qc 4 0]
 (qS [qm 7 0, qk 8 70 [7], qm 5 8]
 (qS [qm 9 1, qk 10 70 [9], qm 6 10]
 (qT (qS [qm 11 5]
 (.cond (.t 11) (qT (qS [qm 12 6]
 (.cond (.t 12) (.seq (.ops [qc 4 0]) .ret) .skip))
 (.seq (.ops [qc 4 (-1)]) .ret)) .skip))
 (qT (qS [qm 13 6]
 (.cond (.t 13) (.seq (.ops [qc 4 1]) .ret) .skip))
 (qT (qS [qm 14 0, qm 15 1, qu 16 .lss [] 14 15]
 (.cond (.t 16) (.seq (.ops [qc 4 (-1)]) .ret) .skip))
 (qT (qS [qm 17 0, qm 18 1, qu 19 .gtr [] 17 18]
 (.cond (.t 19) (.seq (.ops [qc 4 1]) .ret) .skip))
 (.seq (.ops [qc 4 0]) .ret))))))))
def r_cmp_Compare_int : List RVar := [.tmp 4]
def n_cmp_Compare_int : Nat := 20
theorem k_cmp_Compare_int : chkFn Go.Proofs.Try.prog 50 n_cmp_Compare_int r_cmp_Compare_int c_cmp_Compare_int = true := by kernel_rfl
theorem f_Compare_int (a b : Int) : Fc Go.Proofs.Try.prog 50 [.int .i64 a, .int .i64 b] (.int .i64 (signI a b)) := by
  refine Fn.step mixed k_cmp_Compare_int ?_
  repeat' (first | refine i_s rfl ?_ | refine sw ?_ | refine c_f rfl ?_ | refine c_cond rfl (fun h => ?_) (fun h => ?_) | refine sf rfl rfl (f_isNaN_int a) ?_ | refine sf rfl rfl (f_isNaN_int b) ?_ | fail)
  all_goals first
    | (exfalso; simp at *; done)
    | (refine e_ret ⟨rfl, _, rfl, congrArg (V.int .i64) ?_⟩; unfold signI; simp at *; (repeat' split) <;> omega)
def c_slices_Compare_int : Cmd :=
 (qS [qc 4 0]
 (qT (qS [qm 9 0, qn 10 9, qc 11 0]
 (.block 0 (.loop (qS [qu 12 .lss [] 11 10]
 (qT (.cond (.t 12) .skip (.exit 0))
 (qT (.block 1 (qS [qm 13 11, qi 14 1 9 11, ql 15 1 14, qm 5 13, qm 6 15]
 (qT (qS [qm 16 5, qm 17 1, qn 18 17, qu 19 .geq [] 16 18]
 (.cond (.t 19) (.seq (.ops [qc 4 1]) .ret) .skip))
 (qS [qm 20 1, qm 21 5, qi 22 1 20 21, ql 23 1 22, qm 7 23]
 (qS [qm 24 6, qm 25 7, qk 26 50 [24, 25], qm 8 26]
 (qS [qm 27 8, qv 28 .neq [.i] 27 0]
 (.cond (.t 28) (.seq (.ops [qm 29 8, qm 4 29]) .ret) .skip)))))))
 (.ops [qv 30 .add [] 11 1, qm 11 30])))))))
 (qT (qS [qm 31 0, qn 32 31, qm 33 1, qn 34 33, qu 35 .lss [] 32 34]
 (.cond (.t 35) (.seq (.ops [qc 4 (-1)]) .ret) .skip))
 (.seq (.ops [qc 4 0]) .ret))))
def r_slices_Compare_int : List RVar := [.tmp 4]
def n_slices_Compare_int : Nat := 36
theorem k_slices_Compare_int : chkFn Go.Proofs.Try.prog 33 n_slices_Compare_int r_slices_Compare_int c_slices_Compare_int = true := by kernel_rfl
theorem f_slices_Compare (a b : List Int) (ha : a.length ≤ 140737488355328) (hb : b.length ≤ 140737488355328) : Fc Go.Proofs.Try.prog 33 [.sl .p (a.map i64V), .sl .p (b.map i64V)] (.int .i64 (cmpL a b)) := by
  refine Fn.step mixed k_slices_Compare_int ?_
  repeat (first | refine i_len rfl ?_ | refine i_s rfl ?_ | refine sw ?_)
  refine c_for a.length (fun k => [(0, .sl .p (a.map i64V)), (1, .sl .p (b.map i64V)), (9, .sl .p (a.map i64V)), (10, .int .i64 a.length), (11, .int .i64 k)]) (fun _ => []) (fun k => k ≤ b.length ∧ a.take k = b.take k) (by simp) ft fun k hk hi => ?_
  obtain ⟨hkb, hi⟩ := hi
  repeat (first | refine i_s rfl ?_ | refine sw ?_)
  refine c_cond rfl (fun h => ?_) (fun h => ?_)
  · have hlt : k < a.length := by simpa using h
    obtain ⟨x, hx⟩ := get_some hlt
    clear h
    by_cases hk2 : k < b.length
    · obtain ⟨y, hy⟩ := get_some hk2
      by_cases hxy : x = y
      · have hz : signI x y = 0 := signI_zero.2 hxy
        have hs := f_Compare_int x y
        rw [hz] at hs
        repeat' (first | refine i_len rfl ?_ | refine i_s rfl ?_ | refine sw ?_ | refine c_f rfl ?_ | refine ja rfl rfl ?_ | refine jd rfl rfl ?_ | refine c_cond rfl (fun h => ?_) (fun h => ?_) | refine sf rfl rfl hs ?_ | fail)
        all_goals first
          | (exact e_for hlt ⟨hk2, by rw [take_succ_get hx, take_succ_get hy, hi, hxy]⟩ ft)
          | (exfalso; clear hs; simp at *; omega)
      · have hz : signI x y ≠ 0 := fun h => hxy (signI_zero.1 h)
        rw [cmpL_at hi hx hy hxy]
        have hs := f_Compare_int x y
        generalize signI x y = z at *
        repeat' (first | refine i_len rfl ?_ | refine i_s rfl ?_ | refine sw ?_ | refine ja rfl rfl ?_ | refine jd rfl rfl ?_ | refine c_cond rfl (fun h => ?_) (fun h => ?_) | refine sf rfl rfl hs ?_ | fail)
        all_goals first
          | exact e_ret ⟨rfl, _, rfl, rfl⟩
          | (exfalso; clear hs; simp at *; omega)
    · rw [cmpL_end hi (by omega) hkb (.inr (by omega))]
      have hz : signI a.length b.length = 1 := by unfold signI; rw [if_neg (by omega), if_pos (by omega)]
      rw [hz]
      repeat' (first | refine i_len rfl ?_ | refine i_s rfl ?_ | refine sw ?_ | refine jd rfl rfl ?_ | refine c_cond rfl (fun h => ?_) (fun h => ?_))
      all_goals first
        | exact e_ret ⟨rfl, _, rfl, rfl⟩
        | (exfalso; simp at *; omega)
  · have hge : ¬ k < a.length := by simpa using h
    clear h
    rw [cmpL_end hi (by omega) hkb (.inl (by omega))]
    repeat' (first | refine i_len rfl ?_ | refine i_s rfl ?_ | refine sw ?_ | refine c_cond rfl (fun h => ?_) (fun h => ?_))
    all_goals first
      | (refine e_ret ⟨rfl, _, rfl, congrArg (V.int .i64) ?_⟩; unfold signI; simp at *; (repeat' split) <;> omega)
theorem facts_len (w : W32) : (facts w).length ≤ 32 := factsTo_len w 32
def c_space_Checked_1 : Cmd :=
 (qS [qc 4 0]
 (.seq (.ops [qm 5 0, qk 6 15 [5], qm 7 1, qk 8 15 [7], qk 9 33 [6, 8], qm 4 9]) .ret))
def r_space_Checked_1 : List RVar := [.tmp 4]
def n_space_Checked_1 : Nat := 10
theorem k_space_Checked_1 : chkFn Go.Proofs.Try.prog 32 n_space_Checked_1 r_space_Checked_1 c_space_Checked_1 = true := by kernel_rfl
theorem f_space_Checked_1 (a b : W32) : Fc Go.Proofs.Try.prog 32 [u32V a, u32V b] (.int .i64 (cmpL (facts a) (facts b))) := by
  have la := facts_len a
  have lb := facts_len b
  have h1 := f_space_Facts a
  have h2 := f_space_Facts b
  have h3 := f_slices_Compare (facts a) (facts b) (by omega) (by omega)
  refine Fn.step mixed k_space_Checked_1 ?_
  repeat' (first | refine i_s rfl ?_ | refine sw ?_ | refine sf rfl rfl h1 ?_ | refine sf rfl rfl h2 ?_ | refine sf rfl rfl h3 ?_ | fail)
  exact e_ret ⟨rfl, _, rfl, rfl⟩
end Hm
end
section
namespace Hm
open Go
def wOrd (x y : W32) : Int := cmpL (facts x) (facts y)
theorem wOrd_neg (x y : W32) : wOrd y x = -wOrd x y := by
  unfold wOrd
  exact cmpL_neg _ _
theorem wOrd_zero {x y : W32} : wOrd x y = 0 ↔ x = y := by
  unfold wOrd
  exact ⟨fun h => facts_inj (cmpL_zero.1 h), fun h => by rw [h]; exact cmpL_zero.2 rfl⟩
theorem wOrd_trans {x y z : W32} (h1 : wOrd x y < 0) (h2 : wOrd y z < 0) : wOrd x z < 0 := by
  unfold wOrd at *
  exact cmpL_trans h1 h2
theorem w_sorted {a b : List W32} (p : a.Perm b) (ha : a.Pairwise fun x y => ¬ wOrd y x < 0) (hb : b.Pairwise fun x y => ¬ wOrd y x < 0) : a = b :=
  List.Perm.eq_of_pairwise (le := fun x y => ¬ wOrd y x < 0) (fun x y _ _ h1 h2 => by
    have := wOrd_neg x y
    exact wOrd_zero.1 (by omega)) ha hb p
def IsStates (w : Wd) (l : List W32) : Prop := l.Nodup ∧ l.length ≤ 2000 ∧ (∀ s, s ∈ l ↔ Reach w s) ∧ l.Pairwise fun x y => ¬ wOrd y x < 0
theorem IsStates.uniq {w : Wd} {a b : List W32} (ha : IsStates w a) (hb : IsStates w b) : a = b :=
  w_sorted ((List.perm_ext_iff_of_nodup ha.1 hb.1).2 fun s => (ha.2.2.1 s).trans (hb.2.2.1 s).symm) ha.2.2.2 hb.2.2.2
def srtW (l : List W32) : List W32 := l.mergeSort fun x y => decide (¬ wOrd y x < 0)
theorem srtW_ok {w : Wd} {l : List W32} (h : allF w = some l) : IsStates w (srtW l) := by
  obtain ⟨h1, h2, h3⟩ := (allF_spec w).1 l h
  have p : (srtW l).Perm l := List.mergeSort_perm l _
  refine ⟨p.nodup_iff.2 h1, by rw [p.length_eq]; exact h2, fun s => by rw [p.mem_iff]; exact h3 s, ?_⟩
  have hs := List.pairwise_mergeSort (le := fun x y => decide (¬ wOrd y x < 0)) (fun a b c h1 h2 => by
    simp only [decide_eq_true_eq] at *
    intro h3
    have n1 := wOrd_neg a b
    have n2 := wOrd_neg b c
    rcases Int.lt_or_eq_of_le (show wOrd a b ≤ 0 by omega) with e | e
    · exact h2 (wOrd_trans h3 e)
    · rw [wOrd_zero.1 e] at h3
      exact h2 h3) (fun a b => by
    have n1 := wOrd_neg a b
    simp only [Bool.or_eq_true, decide_eq_true_eq]
    omega) l
  exact hs.imp fun h => by simpa using h
theorem IsStates.closed {w : Wd} {l : List W32} (h : IsStates w l) : ∀ s ∈ l, ∀ e ∈ w.steps s, e.2.2 ∈ l := fun s hs e he => (h.2.2.1 _).2 (.step ((h.2.2.1 s).1 hs) he)
theorem wdOf_cost {t : STask} (h : SV t) : CostOk (wdOf t) := fun m hm => by
  obtain ⟨o, ho, rfl⟩ := List.mem_map.1 hm
  have := h.op o ho
  exact ⟨this.c0, this.c1⟩
def statesF (t : STask) : Option (List W32) := (allF (wdOf t)).map srtW
end Hm
end
