/- Part VPA of the proof. -/
import Derived.Test.YtojbakjdbodidaaGreatVC
import Derived.Test.YtojbakjdbodidaaGreatProg
import Derived.ProofKit
set_option linter.unusedVariables false
set_option linter.unusedSimpArgs false
section
namespace Hm
open Go
noncomputable abbrev PG : Program := Go.Proofs.Tryz.prog
theorem mixed : Go.Proofs.Tryz.prog.follows .mixedOrders = true := by kernel_rfl
end Hm
end
section
namespace Hm
open Go
set_option maxRecDepth 100000
set_option maxHeartbeats 1000000
def c_R1_At : Cmd :=
 (qS [qq 4 (.alloc 576258 (.agg [.int .i64 0, .int .i64 0]))]
 (.seq (.ops [qm 5 0, qm 6 1, qq 7 (.build [.int .i64 0, .int .i64 0] [(0 , 1 , .t 5), (1 , 1 , .t 6)]), qs 2 4 7]) .ret))
def r_R1_At : List RVar := [.cell true 2 4]
def n_R1_At : Nat := 8
theorem k_R1_At : chkFn PG 9 n_R1_At r_R1_At c_R1_At = true := by kernel_rfl
theorem f_R1_At (c i : Int) : Fc PG 9 [.int .i64 c, .int .i64 i] (.agg [.int .i64 c, .int .i64 i]) := by
 refine Fn.step mixed k_R1_At ?_
 repeat' (first | refine i_s rfl ?_ | refine sw ?_ | refine i_stb rfl ?_ | refine i_alloc rfl ?_)
 exact e_ret ⟨rfl, _, rfl, rfl⟩
end Hm
end
section
namespace Hm
open Go
def allN (p : Nat → Bool) (n : Nat) : Bool := (List.range n).all p
theorem allN_bad {p : Nat → Bool} {n k : Nat} (hk : k < n) (h : p k = false) : allN p n = false := by
 unfold allN
 rw [List.all_eq_false]
 exact ⟨k, List.mem_range.2 hk, by simp [h]⟩
theorem allN_ok {p : Nat → Bool} {n : Nat} (h : ∀ j, j < n → p j = true) : allN p n = true := by
 unfold allN
 rw [List.all_eq_true]
 exact fun j hj => h j (List.mem_range.1 hj)
theorem allN_get {p : Nat → Bool} {n : Nat} (h : allN p n = true) {j : Nat} (hj : j < n) : p j = true := (List.all_eq_true.1 h) j (List.mem_range.2 hj)
def setAt (n : Int) (l : List Int) (i : Nat) : Bool := match l[i]? with
 | some x => decide (0 ≤ x) && decide (x < n) && (decide (i = 0) || (match l[i - 1]? with
   | some y => decide (y < x)
   | none => true))
 | none => false
def isSetB (n : Int) (l : List Int) : Bool := allN (setAt n l) l.length
def SS (l : List Int) : Prop := l.Pairwise (· < ·)
theorem ss_of_adj : ∀ l : List Int, (∀ i x y, l[i]? = some x → l[i + 1]? = some y → x < y) → SS l
 | [], _ => List.Pairwise.nil
 | [x], _ => List.pairwise_singleton _ _
 | x :: y :: r, h => by
  have ih : SS (y :: r) := ss_of_adj (y :: r) fun i a b h1 h2 => h (i + 1) a b h1 h2
  have hxy : x < y := h 0 x y rfl rfl
  refine List.Pairwise.cons (fun z hz => ?_) ih
  rcases List.mem_cons.1 hz with rfl | hz
  · exact hxy
  · exact Int.lt_trans hxy ((List.pairwise_cons.1 ih).1 z hz)
theorem ss_idx {l : List Int} (h : SS l) {i j : Nat} {x y : Int} (hi : l[i]? = some x) (hj : l[j]? = some y) (hij : i < j) : x < y := by
 obtain ⟨h1, e1⟩ := List.getElem?_eq_some_iff.1 hi
 obtain ⟨h2, e2⟩ := List.getElem?_eq_some_iff.1 hj
 have := List.pairwise_iff_getElem.1 h i j h1 h2 hij
 rw [e1, e2] at this
 exact this
structure IsSet (n : Int) (l : List Int) : Prop where
 ss : SS l
 rng : ∀ x ∈ l, 0 ≤ x ∧ x < n
theorem isSet_of {n : Int} {l : List Int} (h : isSetB n l = true) : IsSet n l := by
 refine ⟨ss_of_adj l fun i x y h1 h2 => ?_, fun x hx => ?_⟩
 · have := allN_get h (get_lt h2)
   unfold setAt at this
   rw [h2] at this
   simp only [Nat.add_sub_cancel, h1, Bool.and_eq_true, Bool.or_eq_true, decide_eq_true_eq] at this
   rcases this.2 with e | e
   · omega
   · exact e
 · obtain ⟨i, hi, e⟩ := List.getElem_of_mem hx
   have hg : l[i]? = some x := by rw [← e]; exact List.getElem?_eq_getElem hi
   have := allN_get h hi
   unfold setAt at this
   rw [hg] at this
   simp only [Bool.and_eq_true, decide_eq_true_eq] at this
   exact this.1
theorem isSet_to {n : Int} {l : List Int} (h : IsSet n l) : isSetB n l = true := by
 refine allN_ok fun i hi => ?_
 obtain ⟨x, hx⟩ := get_some hi
 obtain ⟨h0, h1⟩ := h.rng x (mem_get hx)
 unfold setAt
 rw [hx]
 simp only [Bool.and_eq_true, Bool.or_eq_true, decide_eq_true_eq]
 refine ⟨⟨h0, h1⟩, ?_⟩
 by_cases e : i = 0
 · exact .inl e
 · refine .inr ?_
   obtain ⟨y, hy⟩ := get_some (l := l) (k := i - 1) (by omega)
   rw [hy]
   simpa using ss_idx h.ss hy hx (by omega)
theorem ss_nodup {l : List Int} (h : SS l) : l.Nodup := List.Pairwise.imp (fun h => by omega) h
theorem ss_ext : ∀ {a b : List Int}, SS a → SS b → (∀ x, x ∈ a ↔ x ∈ b) → a = b
 | [], [], _, _, _ => rfl
 | [], y :: b, _, _, h => by have := (h y).2 (by simp); simp at this
 | x :: a, [], _, _, h => by have := (h x).1 (by simp); simp at this
 | x :: a, y :: b, ha, hb, h => by
  have ha' := List.pairwise_cons.1 ha
  have hb' := List.pairwise_cons.1 hb
  have e : x = y := by
   have h1 := (h x).1 (by simp)
   have h2 := (h y).2 (by simp)
   rcases List.mem_cons.1 h1 with e | h1
   · exact e
   · rcases List.mem_cons.1 h2 with e | h2
     · exact e.symm
     · have := ha'.1 y h2; have := hb'.1 x h1; omega
  subst e
  rw [ss_ext ha'.2 hb'.2 fun z => ?_]
  have := h z
  simp only [List.mem_cons] at this
  constructor
  · intro hz
    rcases this.1 (.inr hz) with e | q
    · have := ha'.1 z hz; omega
    · exact q
  · intro hz
    rcases this.2 (.inr hz) with e | q
    · have := hb'.1 z hz; omega
    · exact q
theorem ss_len : ∀ (l : List Int) (m n : Int), SS l → (∀ x ∈ l, m ≤ x ∧ x < n) → m ≤ n → (l.length : Int) ≤ n - m
 | [], m, n, _, _, h => by simp; omega
 | x :: l, m, n, hs, hr, h => by
  have hs' := List.pairwise_cons.1 hs
  have hx := hr x (by simp)
  have := ss_len l (x + 1) n hs'.2 (fun y hy => ⟨by have := hs'.1 y hy; omega, (hr y (by simp [hy])).2⟩) (by omega)
  simp only [List.length_cons]
  omega
theorem isSet_len {n : Int} {l : List Int} (h : IsSet n l) (hn : 0 ≤ n) : (l.length : Int) ≤ n := by
 have := ss_len l 0 n h.ss h.rng hn
 omega
def inclB (part l : List Int) : Bool := part.all fun x => decide (x ∈ l)
def disjB (a b : List Int) : Bool := a.all fun x => decide (x ∉ b)
def meetB (a b : List Int) : Bool := a.any fun x => decide (x ∈ b)
theorem meet_disj (a b : List Int) : meetB a b = !disjB a b := by
 unfold meetB disjB
 induction a with
 | nil => rfl
 | cons x a ih =>
  simp only [List.any_cons, List.all_cons, ih]
  by_cases h : x ∈ b <;> simp [h]
def sopBad (n : Int) (ops : List SOp) (i : Nat) : Option Flt := match ops[i]? with
 | none => none
 | some o => if isSetB n o.pre = false ∨ isSetB n o.add = false ∨ isSetB n o.del = false ∨ disjB o.add o.del = false then some ⟨5, i⟩ else if o.cost < 0 ∨ o.cost > 100 then some ⟨3, i⟩ else none
def sFault (t : STask) : Flt := if t.facts < 0 ∨ t.facts > 24 then ⟨3, -1⟩ else if isSetB t.facts t.init = false then ⟨5, -2⟩ else if isSetB t.facts t.goal = false then ⟨5, -3⟩
 else if t.ops.length > 40 then ⟨2, -1⟩ else (scan (sopBad t.facts t.ops) 0 t.ops.length).getD okF
structure SOv (n : Int) (o : SOp) : Prop where
 pre : IsSet n o.pre
 add : IsSet n o.add
 del : IsSet n o.del
 dis : ∀ x ∈ o.add, x ∉ o.del
 c0 : 0 ≤ o.cost
 c1 : o.cost ≤ 100
structure SV (t : STask) : Prop where
 f0 : 0 ≤ t.facts
 f1 : t.facts ≤ 24
 init : IsSet t.facts t.init
 goal : IsSet t.facts t.goal
 opl : t.ops.length ≤ 40
 op : ∀ o ∈ t.ops, SOv t.facts o
theorem scan_codeS {bad : Nat → Option Flt} (hb : ∀ i f, bad i = some f → f.code ≠ 0) : ∀ n i f, scan bad i n = some f → f.code ≠ 0
 | 0, _, _, h => by cases h
 | n + 1, i, f, h => by
  simp only [scan] at h
  split at h
  · rename_i g e; cases h; exact hb _ _ e
  · exact scan_codeS hb n (i + 1) f h
theorem getD_codeS {o : Option Flt} (hc : ∀ f, o = some f → f.code ≠ 0) (h : (o.getD okF).code = 0) : o = none := by
 cases o with
 | none => rfl
 | some f => exact absurd h (hc f rfl)
theorem sopBad_code (n : Int) (ops : List SOp) (i : Nat) : ∀ f, sopBad n ops i = some f → f.code ≠ 0 := by
 intro f h
 unfold sopBad at h
 split at h
 · cases h
 · repeat' split at h
   all_goals cases h
   all_goals simp
theorem sFault_code (t : STask) : (sFault t).code = 0 → SV t ∧ sFault t = okF := by
 intro h
 have h0 := h
 unfold sFault at h
 split at h
 · cases h
 · rename_i h1
   split at h
   · cases h
   · rename_i h2
     split at h
     · cases h
     · rename_i h3
       split at h
       · cases h
       · rename_i h4
         have hs := getD_codeS (scan_codeS (sopBad_code t.facts t.ops) _ _) h
         refine ⟨⟨by omega, by omega, isSet_of (by simpa using h2), isSet_of (by simpa using h3), by omega, fun o ho => ?_⟩, ?_⟩
         · obtain ⟨i, hi, e⟩ := List.getElem_of_mem ho
           have hg : t.ops[i]? = some o := by rw [← e]; exact List.getElem?_eq_getElem hi
           have := scan_all _ _ hs i (Nat.zero_le _) (by omega)
           unfold sopBad at this
           rw [hg] at this
           simp only at this
           split at this
           · cases this
           · rename_i q1
             split at this
             · cases this
             · rename_i q2
               simp only [not_or, Bool.not_eq_false] at q1
               refine ⟨isSet_of q1.1, isSet_of q1.2.1, isSet_of q1.2.2.1, fun x hx => ?_, by omega, by omega⟩
               have := List.all_eq_true.1 q1.2.2.2 x hx
               simpa using this
         · unfold sFault
           rw [if_neg h1, if_neg h2, if_neg h3, if_neg h4, hs]
           rfl
theorem sFault_ok {t : STask} (h : sFault t = okF) : SV t := (sFault_code t (by rw [h]; rfl)).1
theorem sFault_iff (t : STask) : (sFault t).code = 0 ↔ sFault t = okF := ⟨fun h => (sFault_code t h).2, fun h => by rw [h]; rfl⟩
theorem sFault_of {t : STask} (h : SV t) : sFault t = okF := by
 unfold sFault
 rw [if_neg (by have := h.f0; have := h.f1; omega), if_neg (by simp [isSet_to h.init]), if_neg (by simp [isSet_to h.goal]), if_neg (by have := h.opl; omega), scan0_none fun j hj => ?_]
 · rfl
 · obtain ⟨o, ho⟩ := get_some hj
   have hv := h.op o (mem_get ho)
   unfold sopBad
   rw [ho]
   simp only [isSet_to hv.pre, isSet_to hv.add, isSet_to hv.del]
   rw [if_neg, if_neg (by have := hv.c0; have := hv.c1; omega)]
   simp only [Bool.true_eq_false, false_or, Bool.not_eq_false]
   exact List.all_eq_true.2 fun x hx => by simpa using hv.dis x hx
def selK (p : Nat → Bool) (k : Nat) : List Int := ((List.range k).filter p).map Int.ofNat
theorem selK_succ (p : Nat → Bool) (k : Nat) : selK p (k + 1) = selK p k ++ (if p k = true then [(k : Int)] else []) := by
 unfold selK
 rw [List.range_succ, List.filter_append, List.map_append]
 congr 1
 simp only [List.filter]
 cases p k <;> rfl
def keepAt (l : List Int) (i : Nat) : Option Int := match l[i]? with
 | some x => if i = 0 ∨ l[i - 1]? ≠ some x then some x else none
 | none => none
def ddK (l : List Int) (k : Nat) : List Int := (List.range k).filterMap (keepAt l)
theorem ddK_succ (l : List Int) (k : Nat) : ddK l (k + 1) = ddK l k ++ (keepAt l k).toList := by
 unfold ddK
 rw [List.range_succ, List.filterMap_append]
 congr 1
def compL (l : List Int) : List Int := ddK l l.length
theorem ddK_len (l : List Int) (k : Nat) : (ddK l k).length ≤ k := by
 have := List.length_filterMap_le (keepAt l) (List.range k)
 simpa [ddK] using this
theorem ddK_keep {l : List Int} {k : Nat} {x : Int} (hx : l[k]? = some x) (h : k = 0 ∨ l[k - 1]? ≠ some x) : ddK l (k + 1) = ddK l k ++ [x] := by
 rw [ddK_succ, keepAt, hx]; simp only [if_pos h, Option.toList]
theorem ddK_skip {l : List Int} {k : Nat} {x : Int} (hx : l[k]? = some x) (h0 : k ≠ 0) (h : l[k - 1]? = some x) : ddK l (k + 1) = ddK l k := by
 rw [ddK_succ, keepAt, hx]; simp [h0, h]
theorem ddK_all {l : List Int} : ∀ k, k ≤ l.length → (∀ j, 0 < j → j < k → l[j]? ≠ l[j - 1]?) → ddK l k = l.take k
 | 0, _, _ => by simp [ddK]
 | k + 1, h, hn => by
  obtain ⟨x, hx⟩ := get_some (l := l) (k := k) (by omega)
  rw [ddK_keep hx, ddK_all k (by omega) fun j h1 h2 => hn j h1 (by omega), take_succ_get hx]
  by_cases e : k = 0
  · exact .inl e
  · refine .inr fun e2 => hn k (by omega) (by omega) ?_
    rw [hx, e2]
theorem ddK_mem {l : List Int} {x : Int} : ∀ k, k ≤ l.length → (x ∈ ddK l k ↔ x ∈ l.take k)
 | 0, _ => by simp [ddK]
 | k + 1, h => by
  obtain ⟨y, hy⟩ := get_some (l := l) (k := k) (by omega)
  have ih := ddK_mem (l := l) (x := x) k (by omega)
  rw [take_succ_get hy]
  by_cases c : k = 0 ∨ l[k - 1]? ≠ some y
  · rw [ddK_keep hy c]; simp [ih]
  · simp only [not_or, Decidable.not_not] at c
    rw [ddK_skip hy c.1 c.2]
    simp only [List.mem_append, List.mem_singleton, ih]
    constructor
    · exact .inl
    · rintro (e | rfl)
      · exact e
      · obtain ⟨h1, h2⟩ := List.getElem?_eq_some_iff.1 c.2
        exact List.mem_take_iff_getElem.2 ⟨k - 1, by omega, h2⟩
theorem compL_mem {l : List Int} {x : Int} : x ∈ compL l ↔ x ∈ l := by
 unfold compL
 rw [ddK_mem l.length (Nat.le_refl _), List.take_length]
theorem ddK_ss {l : List Int} (hs : l.Pairwise (· ≤ ·)) : ∀ k, k ≤ l.length → SS (ddK l k)
 | 0, _ => by simp [ddK, SS]
 | k + 1, h => by
  obtain ⟨y, hy⟩ := get_some (l := l) (k := k) (by omega)
  have ih := ddK_ss (l := l) hs k (by omega)
  by_cases c : k = 0 ∨ l[k - 1]? ≠ some y
  · rw [ddK_keep hy c]
    refine List.pairwise_append.2 ⟨ih, List.pairwise_singleton _ _, fun a ha b hb => ?_⟩
    simp at hb
    subst hb
    have ha' := (ddK_mem k (by omega)).1 ha
    obtain ⟨i, hi, e⟩ := List.mem_take_iff_getElem.1 ha'
    obtain ⟨h1, e1⟩ := List.getElem?_eq_some_iff.1 hy
    have h2 : a ≤ b := by
     have := List.pairwise_iff_getElem.1 hs i k (by omega) h1 (by omega)
     rw [e, e1] at this; exact this
    rcases c with c | c
    · omega
    · have h3 : l[k - 1]? = some l[k - 1] := List.getElem?_eq_getElem (by omega)
      have h4 : l[k - 1] ≤ b := by
       by_cases hk : k = 0
       · omega
       · have := List.pairwise_iff_getElem.1 hs (k - 1) k (by omega) h1 (by omega)
         rw [e1] at this; exact this
      have h5 : l[k - 1] ≠ b := fun e => c (by rw [h3, e])
      have h6 : a ≤ l[k - 1] := by
       by_cases hik : i = k - 1
       · subst hik; omega
       · have := List.pairwise_iff_getElem.1 hs i (k - 1) (by omega) (by omega) (by omega)
         rw [e] at this; exact this
      omega
  · simp only [not_or, Decidable.not_not] at c
    rw [ddK_skip hy c.1 c.2]; exact ih
def srtL (l : List Int) : List Int := l.mergeSort fun x y => decide (x ≤ y)
theorem srtL_mem {l : List Int} {x : Int} : x ∈ srtL l ↔ x ∈ l := (List.mergeSort_perm l _).mem_iff
theorem srtL_len (l : List Int) : (srtL l).length = l.length := (List.mergeSort_perm l _).length_eq
theorem srtL_pw (l : List Int) : (srtL l).Pairwise (· ≤ ·) := by
 have := List.pairwise_mergeSort (le := fun x y : Int => decide (x ≤ y)) (fun a b c h1 h2 => by simp at *; omega) (fun a b => by simp; omega) l
 exact List.Pairwise.imp (fun h => by simpa using h) this
def updL (s add del : List Int) : List Int := compL (srtL (s.filter (fun x => decide (x ∉ del)) ++ add))
theorem updL_mem {s add del : List Int} {x : Int} : x ∈ updL s add del ↔ (x ∈ s ∧ x ∉ del) ∨ x ∈ add := by
 unfold updL
 rw [compL_mem, srtL_mem]; simp
theorem updL_ss (s add del : List Int) : SS (updL s add del) := ddK_ss (srtL_pw _) _ (Nat.le_refl _)
theorem updL_set {n : Int} {s add del : List Int} (hs : IsSet n s) (ha : IsSet n add) : IsSet n (updL s add del) :=
 ⟨updL_ss _ _ _, fun x hx => by
  rcases updL_mem.1 hx with h | h
  · exact hs.rng x h.1
  · exact ha.rng x h⟩
def badStep (n : Nat) (x : Int) : Bool := decide (x < 0) || decide (x ≥ n)
def stepsF (n : Nat) (plan : List Int) : Flt := if plan.length > 60 then ⟨2, -5⟩ else if plan.any (badStep n) = true then ⟨3, -6⟩ else okF
theorem stepsF_ok {n : Nat} {plan : List Int} (h : stepsF n plan = okF) : plan.length ≤ 60 ∧ ∀ x ∈ plan, 0 ≤ x ∧ x < n := by
 unfold stepsF at h
 split at h
 · cases h
 · split at h
   · cases h
   · rename_i h1 h2
     refine ⟨by omega, fun x hx => ?_⟩
     rw [Bool.not_eq_true, List.any_eq_false] at h2
     have := h2 x hx
     simp [badStep] at this
     omega
def comL (a b : List Int) : List Int := a.filter fun x => decide (x ∈ b)
theorem comL_mem {a b : List Int} {x : Int} : x ∈ comL a b ↔ x ∈ a ∧ x ∈ b := by simp [comL]
theorem comL_len (a b : List Int) : (comL a b).length ≤ a.length := List.length_filter_le _ _
def keepB (o : SOp) (g : List Int) : Bool :=
 if 1 < (comL o.pre g).length ∨ (comL o.add g).length = 0 then true
 else if 1 < (comL o.add g).length then false
 else match comL o.pre g, comL o.add g with
  | [p], a :: _ => decide (p = a) || decide (p ∈ o.del)
  | _, _ => inclB g (updL o.del (comL o.add g) [])
def holdB (t : STask) (g : List Int) : Bool := decide ((comL t.init g).length ≤ 1) && !t.ops.any fun o => !keepB o g
def AM1 (g s : List Int) : Prop := ∀ x y, x ∈ s → y ∈ s → x ∈ g → y ∈ g → x = y
theorem am1_len {g s : List Int} (h : (comL s g).length ≤ 1) : AM1 g s := by
 intro x y hx hy hxg hyg
 have h1 : x ∈ comL s g := comL_mem.2 ⟨hx, hxg⟩
 have h2 : y ∈ comL s g := comL_mem.2 ⟨hy, hyg⟩
 match e : comL s g, h with
 | [], _ => rw [e] at h1; cases h1
 | [z], _ => rw [e] at h1 h2; simp at h1 h2; rw [h1, h2]
 | _ :: _ :: _, h => simp at h
theorem am1_of_len {g s : List Int} (hs : SS s) (h : AM1 g s) : (comL s g).length ≤ 1 := by
 have hn : SS (comL s g) := List.Pairwise.filter _ hs
 match e : comL s g with
 | [] => simp
 | [_] => simp
 | x :: y :: r =>
  exfalso
  rw [e] at hn
  have hxy : x < y := (List.pairwise_cons.1 hn).1 y (by simp)
  have hx : x ∈ comL s g := by rw [e]; simp
  have hy : y ∈ comL s g := by rw [e]; simp
  have := h x y (comL_mem.1 hx).1 (comL_mem.1 hy).1 (comL_mem.1 hx).2 (comL_mem.1 hy).2
  omega
theorem am1_step {o : SOp} {g s : List Int} (hp : SS o.pre) (hk : keepB o g = true) (hi : ∀ x ∈ o.pre, x ∈ s) (h : AM1 g s) : AM1 g (updL s o.add o.del) := by
 have hpl : (comL o.pre g).length ≤ 1 := am1_of_len hp fun x y hx hy => h x y (hi x hx) (hi y hy)
 intro x y hx hy hxg hyg
 rw [updL_mem] at hx hy
 unfold keepB at hk
 by_cases h0 : (comL o.add g).length = 0
 · have hn : ∀ z, z ∈ o.add → z ∈ g → False := fun z hz hzg => by
    have : z ∈ comL o.add g := comL_mem.2 ⟨hz, hzg⟩
    rw [List.length_eq_zero_iff.1 h0] at this; cases this
   rcases hx with hx | hx
   · rcases hy with hy | hy
     · exact h x y hx.1 hy.1 hxg hyg
     · exact (hn y hy hyg).elim
   · exact (hn x hx hxg).elim
 rw [if_neg (by omega)] at hk
 by_cases h2 : 1 < (comL o.add g).length
 · rw [if_pos h2] at hk; cases hk
 rw [if_neg h2] at hk
 obtain ⟨a, ha⟩ : ∃ a, comL o.add g = [a] := by
  match e : comL o.add g, h0, h2 with
  | [], h0, _ => simp at h0
  | [a], _, _ => exact ⟨a, rfl⟩
  | _ :: _ :: _, _, h2 => simp at h2
 have hA : ∀ z, z ∈ o.add → z ∈ g → z = a := fun z hz hzg => by
  have : z ∈ comL o.add g := comL_mem.2 ⟨hz, hzg⟩
  rw [ha] at this; simpa using this
 have hag : a ∈ g := (comL_mem.1 (by rw [ha]; simp : a ∈ comL o.add g)).2
 have key : ∀ z, (z ∈ s ∧ z ∉ o.del) → z ∈ g → z = a := by
  intro z hz hzg
  match e : comL o.pre g, hpl with
  | [p], _ =>
   rw [e, ha] at hk
   have hpm : p ∈ comL o.pre g := by rw [e]; simp
   have hzp := h z p hz.1 (hi p (comL_mem.1 hpm).1) hzg (comL_mem.1 hpm).2
   simp at hk
   rcases hk with hk | hk
   · rw [hzp, hk]
   · exact absurd (hzp ▸ hk) hz.2
  | [], _ =>
   rw [e, ha] at hk
   unfold inclB at hk
   rw [List.all_eq_true] at hk
   have := of_decide_eq_true (hk z hzg)
   rw [updL_mem] at this
   rcases this with this | this
   · exact absurd this.1 hz.2
   · simpa using this
 have hx' : x = a := by
  rcases hx with hx | hx
  · exact key x hx hxg
  · exact hA x hx hxg
 have hy' : y = a := by
  rcases hy with hy | hy
  · exact key y hy hyg
  · exact hA y hy hyg
 rw [hx', hy']
theorem holdB_init {t : STask} {g : List Int} (h : holdB t g = true) : AM1 g t.init := by
 unfold holdB at h
 simp only [Bool.and_eq_true, decide_eq_true_eq] at h
 exact am1_len h.1
theorem holdB_op {t : STask} {g : List Int} (h : holdB t g = true) {o : SOp} (ho : o ∈ t.ops) : keepB o g = true := by
 unfold holdB at h
 simp only [Bool.and_eq_true, Bool.not_eq_true', List.any_eq_false] at h
 simpa using h.2 o ho
end Hm
end
section
namespace Hm
open Go
set_option maxRecDepth 100000
set_option maxHeartbeats 1000000
def c_strips_IsSet : Cmd :=
 (qS [qb 4 false]
 (qT (qS [qm 7 0, qn 8 7, qc 9 0]
 (.block 0 (.loop (qS [qu 10 .lss [] 9 8]
 (qT (.cond (.t 10) .skip (.exit 0))
 (qT (.block 1 (qS [qm 11 9, qi 12 1 7 9, ql 13 1 12, qm 5 11, qm 6 13]
 (qS [qm 14 6, qv 15 .lss [] 14 0, qm 16 15, qg 17 16 false (.mov (.t 6)), qg 18 16 false (.mov (.t 1)), qg 19 16 false (.bin .geq false [] (.t 17) (.t 18)), qq 20 (.pick (.t 16) (.c (.bool true)) (.t 19)), qm 21 20, qg 22 21 false (.mov (.t 5)), qg 23 21 false (.bin .gtr false [] (.t 22) (.c (.int .i64 0))), qg 24 21 false (.mov (.t 23)), qg 25 24 true (.mov (.t 6)), qg 26 24 true (.mov (.t 0)), qg 27 24 true (.mov (.t 5)), qg 28 24 true (.bin .sub false [] (.t 27) (.c (.int .i64 1))), qg 29 24 true (.iaddr 1 (.t 26) (.t 28)), qg 30 24 true (.load false 1 (.t 29)), qg 31 24 true (.bin .leq false [] (.t 25) (.t 30)), qg 32 21 false (.pick (.t 24) (.t 31) (.c (.bool false))), qq 33 (.pick (.t 21) (.c (.bool true)) (.t 32))]
 (.cond (.t 33) (.seq (.ops [qb 4 false]) .ret) .skip))))
 (.ops [qv 34 .add [] 9 1, qm 9 34])))))))
 (.seq (.ops [qb 4 true]) .ret)))
def r_strips_IsSet : List RVar := [.tmp 4]
def n_strips_IsSet : Nat := 35
theorem k_strips_IsSet : chkFn PG 45 n_strips_IsSet r_strips_IsSet c_strips_IsSet = true := by kernel_rfl
theorem f_strips_IsSet (l : List Int) (n : Int) (hl : l.length ≤ 140737488355328) : Fc PG 45 [.sl .p (l.map i64V), .int .i64 n] (.bool (isSetB n l)) := by
 refine Fn.step mixed k_strips_IsSet ?_
 repeat (first | refine i_len rfl ?_ | refine i_s rfl ?_ | refine sw ?_)
 refine c_for l.length (fun k => [(0, .sl .p (l.map i64V)), (1, .int .i64 n), (7, .sl .p (l.map i64V)), (8, .int .i64 l.length), (9, .int .i64 k)]) (fun _ => []) (fun k => ∀ j, j < k → setAt n l j = true) all_zero ft fun k hk hi => ?_
 repeat (first | refine i_s rfl ?_ | refine sw ?_)
 refine c_cond rfl (fun h => ?_) (fun h => ?_)
 · have hlt : k < l.length := by simpa using h
   obtain ⟨x, hx⟩ := get_some hlt
   clear h
   by_cases h0 : k = 0
   · have hat : setAt n l k = (decide (0 ≤ x) && decide (x < n)) := by subst h0; simp [setAt, hx]
     subst h0
     repeat' (first | refine i_s rfl ?_ | refine sw ?_ | refine i_gt rfl ?_ | refine i_gf rfl ?_ | refine i_gd rfl ?_ | refine c_t rfl ?_ | refine c_f rfl ?_ | refine ja rfl rfl ?_ | refine jd rfl rfl ?_ | refine i_g rfl (fun h => ?_) (fun h => ?_))
     all_goals first
      | (refine e_for hlt (all_succ hi (by rw [hat]; clear hi hat hx; simp at *; try omega)) ft)
      | (refine e_ret ⟨rfl, _, rfl, congrArg V.bool ?_⟩
         have : setAt n l 0 = false := by rw [hat]; clear hi hat hx; simp at *; try omega
         simp [isSetB, allN_bad hlt this])
      | (exfalso; clear hi hat; simp at *; omega)
   · obtain ⟨y, hy⟩ := get_some (l := l) (k := k - 1) (by omega)
     have hat : setAt n l k = (decide (0 ≤ x) && decide (x < n) && decide (y < x)) := by simp [setAt, hx, h0, hy]
     have h1 : 0 < k := by omega
     have hy' : l[((k : Int) - 1).toNat]? = some y := by rw [show ((k : Int) - 1).toNat = k - 1 from by omega]; exact hy
     repeat' (first | refine i_s rfl ?_ | refine sw ?_ | refine i_gt rfl ?_ | refine i_gf rfl ?_ | refine i_gd rfl ?_ | refine c_t rfl ?_ | refine c_f rfl ?_ | refine ja rfl rfl ?_ | refine jb rfl rfl ?_ | refine jd rfl rfl ?_ | (refine sp ?_ ?_ <;> try intro h) | fail)
     all_goals first
      | (refine e_for hlt (all_succ hi (by rw [hat]; clear hi hat hx; simp at *; try omega)) ft)
      | (refine e_ret ⟨rfl, _, rfl, congrArg V.bool ?_⟩
         have : setAt n l k = false := by rw [hat]; clear hi hat hx; simp at *; try omega
         simp [isSetB, allN_bad hlt this])
      | (exfalso; clear hi hat; simp at *; omega)
 · have hge : ¬ k < l.length := by simpa using h
   repeat' (first | refine i_s rfl ?_ | refine sw ?_ | fail)
   exact e_ret ⟨rfl, _, rfl, congrArg V.bool (by simp [isSetB]; exact allN_ok fun j hj => hi j (by omega))⟩
def c_slices_isNaN_int : Cmd :=
 (qS [qb 2 false]
 (.seq (.ops [qm 3 0, qm 4 0, qu 5 .neq [.i] 3 4, qm 2 5]) .ret))
def r_slices_isNaN_int : List RVar := [.tmp 2]
def n_slices_isNaN_int : Nat := 6
theorem k_slices_isNaN_int : chkFn PG 109 n_slices_isNaN_int r_slices_isNaN_int c_slices_isNaN_int = true := by kernel_rfl
theorem f_slices_isNaN_int (x : Int) : Fc PG 109 [.int .i64 x] (.bool false) := by
 refine Fn.step mixed k_slices_isNaN_int ?_
 repeat' (first | refine i_s rfl ?_ | refine sw ?_ | fail)
 exact e_ret ⟨rfl, _, rfl, congrArg V.bool (by simp)⟩
def c_cmp_isNaN_int : Cmd :=
 (qS [qb 2 false]
 (.seq (.ops [qm 3 0, qm 4 0, qu 5 .neq [.i] 3 4, qm 2 5]) .ret))
def r_cmp_isNaN_int : List RVar := [.tmp 2]
def n_cmp_isNaN_int : Nat := 6
theorem k_cmp_isNaN_int : chkFn PG 105 n_cmp_isNaN_int r_cmp_isNaN_int c_cmp_isNaN_int = true := by kernel_rfl
theorem f_cmp_isNaN_int (x : Int) : Fc PG 105 [.int .i64 x] (.bool false) := by
 refine Fn.step mixed k_cmp_isNaN_int ?_
 repeat' (first | refine i_s rfl ?_ | refine sw ?_ | fail)
 exact e_ret ⟨rfl, _, rfl, congrArg V.bool (by simp)⟩
def c_cmp_Less_int : Cmd :=
 (qS [qb 4 false]
 (.seq (.ops [qm 5 0, qk 6 105 [5], qm 7 6, qg 8 7 true (.mov (.t 1)), qg 9 7 true (.call .f (.c (.fn 105 [])) [.t 8]), qg 10 7 true (.not (.t 9)), qq 11 (.pick (.t 7) (.t 10) (.c (.bool false))), qm 12 11, qg 13 12 false (.mov (.t 0)), qg 14 12 false (.mov (.t 1)), qg 15 12 false (.bin .lss false [] (.t 13) (.t 14)), qq 16 (.pick (.t 12) (.c (.bool true)) (.t 15)), qm 4 16]) .ret))
def r_cmp_Less_int : List RVar := [.tmp 4]
def n_cmp_Less_int : Nat := 17
theorem k_cmp_Less_int : chkFn PG 108 n_cmp_Less_int r_cmp_Less_int c_cmp_Less_int = true := by kernel_rfl
theorem f_cmp_Less_int (x y : Int) : Fc PG 108 [.int .i64 x, .int .i64 y] (.bool (decide (x < y))) := by
 refine Fn.step mixed k_cmp_Less_int ?_
 repeat' (first | refine i_s rfl ?_ | refine sw ?_ | refine i_gt rfl ?_ | refine i_gf rfl ?_ | refine sf rfl rfl (f_cmp_isNaN_int _) ?_ | fail)
 exact e_ret ⟨rfl, _, rfl, rfl⟩
def c_slices_IndexFunc_int : Cmd :=
 (qS [qc 4 0]
 (qT (qS [qm 6 0, qn 7 6, qc 8 0]
 (.block 0 (.loop (qS [qu 9 .lss [] 8 7]
 (qT (.cond (.t 9) .skip (.exit 0))
 (qT (.block 1 (qS [qm 10 8, qm 5 10]
 (qS [qm 11 1, qm 12 0, qm 13 5, qi 14 1 12 13, ql 15 1 14, qq 16 (.call .f (.t 11) [.t 15])]
 (.cond (.t 16) (.seq (.ops [qm 17 5, qm 4 17]) .ret) .skip))))
 (.ops [qv 18 .add [] 8 1, qm 8 18])))))))
 (.seq (.ops [qc 4 (-1)]) .ret)))
def r_slices_IndexFunc_int : List RVar := [.tmp 4]
def n_slices_IndexFunc_int : Nat := 19
theorem k_slices_IndexFunc_int : chkFn PG 51 n_slices_IndexFunc_int r_slices_IndexFunc_int c_slices_IndexFunc_int = true := by kernel_rfl
theorem f_IndexFunc_int (l : List Int) (p : Int → Bool) (fid : Nat) (caps : List V) (hl : l.length ≤ 140737488355328) (he : ∀ σ n, caps.map (er σ (n + 1)) = caps) (hc : closedL [] caps = true) (hp : ∀ t ∈ l, Fc PG fid (i64V t :: caps) (.bool (p t))) :
  Fc PG 51 [.sl .p (l.map i64V), .fn fid caps] (.int .i64 (fidx p l)) := by
 refine Fn.step mixed k_slices_IndexFunc_int ?_
 repeat (first | refine i_len rfl ?_ | refine i_s rfl ?_ | refine sw ?_)
 refine c_for l.length (fun k => [(0, .sl .p (l.map i64V)), (1, .fn fid caps), (7, .int .i64 l.length), (8, .int .i64 k)]) (fun _ => []) (fun k => ∀ j, j < k → ∀ c, l[j]? = some c → p c = false) all_zero ?_ fun k hk hi => ?_
 · exact ⟨⟨rfl, rfl, rfl, rfl, trivial⟩, trivial, by simp [fitB, closedE, closedB, hc, closedSt, hasAll]⟩
 repeat (first | refine i_s rfl ?_ | refine sw ?_)
 refine c_cond rfl (fun h => ?_) (fun h => ?_)
 · have hlt : k < l.length := by simpa using h
   obtain ⟨c, hget⟩ := get_some hlt
   repeat (first | refine i_s rfl ?_ | refine sw ?_ | refine jd rfl rfl ?_)
   refine i_f rfl (congrArg (i64V c :: ·) (he _ 5)) (hp c (mem_get hget)) rfl ?_
   repeat' (first | refine i_s rfl ?_ | refine sw ?_ | refine ja rfl rfl ?_ | refine c_cond rfl (fun h => ?_) (fun h => ?_))
   · refine e_ret ⟨rfl, _, rfl, congrArg (V.int .i64) (fidx_hit hi hget h)⟩
   · refine e_for hlt (all_succ hi fun c' hc' => ?_) ⟨⟨rfl, rfl, rfl, rfl, trivial⟩, trivial, by simp [fitB, closedE, closedB, hc, closedSt, hasAll]⟩
     rw [hget] at hc'; cases hc'; exact h
 · have hge : ¬ k < l.length := by simpa using h
   repeat' (first | refine i_s rfl ?_ | refine sw ?_ | fail)
   refine e_ret ⟨rfl, _, rfl, congrArg (V.int .i64) (fidx_none fun j hj => hi j (by omega))⟩
def c_slices_ContainsFunc_int : Cmd :=
 (qS [qb 4 false]
 (.seq (.ops [qm 5 0, qm 6 1, qk 7 51 [5, 6], qv 8 .geq [] 7 0, qm 4 8]) .ret))
def r_slices_ContainsFunc_int : List RVar := [.tmp 4]
def n_slices_ContainsFunc_int : Nat := 9
theorem k_slices_ContainsFunc_int : chkFn PG 17 n_slices_ContainsFunc_int r_slices_ContainsFunc_int c_slices_ContainsFunc_int = true := by kernel_rfl
theorem f_ContainsFunc_int (l : List Int) (p : Int → Bool) (fid : Nat) (caps : List V) (hl : l.length ≤ 140737488355328) (he : ∀ σ n, caps.map (er σ (n + 1)) = caps) (hc : closedL [] caps = true) (hp : ∀ t ∈ l, Fc PG fid (i64V t :: caps) (.bool (p t))) :
  Fc PG 17 [.sl .p (l.map i64V), .fn fid caps] (.bool (l.any p)) := by
 refine Fn.step mixed k_slices_ContainsFunc_int ?_
 repeat (first | refine i_s rfl ?_ | refine sw ?_)
 refine i_f rfl (congrArg (fun x => [V.sl .p (l.map i64V), .fn fid x]) (he _ 4)) (f_IndexFunc_int l p fid caps hl he hc hp) rfl ?_
 repeat' (first | refine i_s rfl ?_ | refine sw ?_ | fail)
 refine e_ret ⟨rfl, _, rfl, congrArg V.bool (fidx_any p l).symm⟩
def ltN (l : List Int) (x : Int) : Nat := l.countP fun y => decide (y < x)
theorem ltN_eq {l : List Int} {x : Int} {i : Nat} (hi : i ≤ l.length) (h1 : ∀ j y, j < i → l[j]? = some y → y < x) (h2 : ∀ j y, i ≤ j → l[j]? = some y → x ≤ y) : ltN l x = i := by
 unfold ltN
 conv => lhs; rw [← List.take_append_drop i l, List.countP_append]
 have e1 : (l.take i).countP (fun y => decide (y < x)) = (l.take i).length := List.countP_eq_length.2 fun y hy => by
  obtain ⟨j, hj, e⟩ := List.mem_take_iff_getElem.1 hy
  simpa using h1 j y (by omega) (by rw [← e]; exact List.getElem?_eq_getElem (by omega))
 have e2 : (l.drop i).countP (fun y => decide (y < x)) = 0 := List.countP_eq_zero.2 fun y hy => by
  obtain ⟨j, hj, e⟩ := List.mem_drop_iff_getElem.1 hy
  have := h2 (i + j) y (by omega) (by rw [← e]; exact List.getElem?_eq_getElem (by omega))
  simpa using this
 rw [e1, e2, List.length_take]
 omega
def c_slices_BinarySearch_int : Cmd :=
 (qS [qc 4 0, qb 5 false]
 (qS [qm 10 0, qn 11 10, qm 6 11]
 (qS [qm 12 6, qc 7 0, qm 8 12]
 (qT (.block 0 (.loop (qT (qS [qm 13 7, qm 14 8, qu 15 .lss [] 13 14]
 (.cond (.t 15) .skip (.exit 0)))
 (.block 1 (qS [qm 16 7, qm 17 8, qu 18 .add [] 16 17, qq 19 (.conv .u64 (.t 18)), qq 20 (.bin .shr false [] (.t 19) (.c (.int .u64 1))), qq 21 (.conv .i64 (.t 20)), qm 9 21]
 (qS [qm 22 0, qm 23 9, qi 24 1 22 23, ql 25 1 24, qm 26 1, qk 27 108 [25, 26]]
 (.cond (.t 27) (.ops [qm 28 9, qv 29 .add [] 28 1, qm 7 29]) (.ops [qm 30 9, qm 8 30]))))))))
 (.seq (.ops [qm 31 7, qm 32 7, qm 33 6, qu 34 .lss [] 32 33, qm 35 34, qg 36 35 true (.mov (.t 0)), qg 37 35 true (.mov (.t 7)), qg 38 35 true (.iaddr 1 (.t 36) (.t 37)), qg 39 35 true (.load false 1 (.t 38)), qg 40 35 true (.mov (.t 1)), qg 41 35 true (.bin .eql false [.i] (.t 39) (.t 40)), qg 42 35 true (.mov (.t 41)), qg 43 42 false (.mov (.t 0)), qg 44 42 false (.mov (.t 7)), qg 45 42 false (.iaddr 1 (.t 43) (.t 44)), qg 46 42 false (.load false 1 (.t 45)), qg 47 42 false (.call .f (.c (.fn 109 [])) [.t 46]), qg 48 42 false (.mov (.t 47)), qg 49 48 true (.mov (.t 1)), qg 50 48 true (.call .f (.c (.fn 109 [])) [.t 49]), qg 51 42 false (.pick (.t 48) (.t 50) (.c (.bool false))), qg 52 35 true (.pick (.t 42) (.c (.bool true)) (.t 51)), qq 53 (.pick (.t 35) (.t 52) (.c (.bool false))), qm 4 31, qm 5 53]) .ret)))))
def r_slices_BinarySearch_int : List RVar := [.tmp 4, .tmp 5]
def n_slices_BinarySearch_int : Nat := 54
theorem k_slices_BinarySearch_int : chkFn PG 59 n_slices_BinarySearch_int r_slices_BinarySearch_int c_slices_BinarySearch_int = true := by kernel_rfl
theorem f_BinarySearch (l : List Int) (x : Int) (hl : l.length ≤ 140737488355328) (hs : SS l) : Fc PG 59 [.sl .p (l.map i64V), .int .i64 x] (.tup [.int .i64 (ltN l x), .bool (decide (x ∈ l))]) := by
 refine Fn.step mixed k_slices_BinarySearch_int ?_
 repeat' (first | refine i_len rfl ?_ | refine i_s rfl ?_ | refine sw ?_ | fail)
 refine c_lp (ι := Nat × Nat) (fun p => [(0, .sl .p (l.map i64V)), (1, .int .i64 x), (6, .int .i64 l.length), (7, .int .i64 p.1), (8, .int .i64 p.2)]) (fun _ => [])
  (fun p => p.1 ≤ p.2 ∧ p.2 ≤ l.length ∧ (∀ j y, j < p.1 → l[j]? = some y → y < x) ∧ (∀ j y, p.2 ≤ j → l[j]? = some y → x ≤ y)) (fun p => p.2 - p.1) (0, l.length) ⟨Nat.zero_le _, Nat.le_refl _, fun j y h => by omega, fun j y h1 h2 => by have := get_lt h2; omega⟩ ft fun p hi => ?_
 obtain ⟨i, j⟩ := p
 obtain ⟨h1, h2, h3, h4⟩ := hi
 simp only at h1 h2 h3 h4
 repeat (first | refine i_s rfl ?_ | refine sw ?_)
 refine c_cond rfl (fun h => ?_) (fun h => ?_)
 · have hlt : i < j := by simpa using h
   obtain ⟨y, hy⟩ := get_some (l := l) (k := (i + j) / 2) (by omega)
   clear h
   repeat (first | refine i_s rfl ?_ | refine sw ?_ | refine jc rfl ?_ | refine ja rfl rfl ?_)
   refine i_shr (q := (((i + j) / 2 : Nat) : Int)) rfl rfl (by decide) ?_ ?_
   · show Int.fdiv ((i : Int) + (j : Int)) 2 = _
     rw [Int.fdiv_eq_ediv_of_nonneg _ (by decide)]
     omega
   repeat (first | refine i_s rfl ?_ | refine sw ?_ | refine jc rfl ?_ | refine jd rfl rfl ?_ | refine sf rfl rfl (f_cmp_Less_int _ _) ?_)
   refine c_cond rfl (fun h => ?_) (fun h => ?_)
   · have hyx : y < x := by simpa using h
     repeat (first | refine i_s rfl ?_ | refine sw ?_ | refine ja rfl rfl ?_)
     refine e_lp ((i + j) / 2 + 1, j) ⟨by simp only; omega, h2, fun k z hk hz => ?_, h4⟩ (by simp only; omega) ⟨⟨rfl, rfl, rfl, ?_, rfl, trivial⟩, trivial, rfl⟩
     · by_cases e : k = (i + j) / 2
       · subst e; rw [hy] at hz; cases hz; exact hyx
       · have := ss_idx hs hz hy (by simp only at hk; omega); omega
     · rfl
   · have hyx : ¬ y < x := by simpa using h
     repeat (first | refine i_s rfl ?_ | refine sw ?_)
     refine e_lp (i, (i + j) / 2) ⟨by simp only; omega, by simp only; omega, h3, fun k z hk hz => ?_⟩ (by simp only; omega) ft
     by_cases e : k = (i + j) / 2
     · subst e; rw [hy] at hz; cases hz; omega
     · have := ss_idx hs hy hz (by simp only at hk; omega); omega
 · have he : i = j := by have : ¬ i < j := by simpa using h
                         omega
   subst he
   have hn := ltN_eq h2 h3 h4
   clear h
   by_cases hil : i < l.length
   · obtain ⟨y, hy⟩ := get_some hil
     have hil' : (i : Int) < l.length := by omega
     by_cases e : y = x
     · have hm : x ∈ l := e ▸ mem_get hy
       repeat' (first | refine i_s rfl ?_ | refine sw ?_ | refine i_gt rfl ?_ | refine i_gf rfl ?_ | refine i_gd rfl ?_ | refine jd rfl rfl ?_ | refine i_g rfl (fun h => ?_) (fun h => ?_) | refine sf rfl rfl (f_slices_isNaN_int _) ?_ | fail)
       all_goals first
        | (refine e_ret ⟨rfl, _, rfl, ?_⟩; rw [hn, decide_eq_true hm]; rfl)
        | (exfalso; simp at *; omega)
     · have hm : x ∉ l := fun hm => by
        obtain ⟨k, hk, e2⟩ := List.getElem_of_mem hm
        have hg : l[k]? = some x := by rw [← e2]; exact List.getElem?_eq_getElem hk
        by_cases hki : k < i
        · have := h3 k x hki hg; omega
        · by_cases hke : k = i
          · subst hke; rw [hy] at hg; cases hg; exact e rfl
          · have := ss_idx hs hy hg (by omega)
            have := h4 i y (Nat.le_refl _) hy
            omega
       repeat' (first | refine i_s rfl ?_ | refine sw ?_ | refine i_gt rfl ?_ | refine i_gf rfl ?_ | refine i_gd rfl ?_ | refine jd rfl rfl ?_ | refine i_g rfl (fun h => ?_) (fun h => ?_) | refine sf rfl rfl (f_slices_isNaN_int _) ?_ | fail)
       all_goals first
        | (refine e_ret ⟨rfl, _, rfl, ?_⟩; rw [hn, decide_eq_false hm]; rfl)
        | (exfalso; clear hm h3 h4 hs hn; simp at *; omega)
        | (exfalso; clear hm h3 h4 hs hn; simp at *; done)
   · have hm : x ∉ l := fun hm => by
      obtain ⟨k, hk, e2⟩ := List.getElem_of_mem hm
      have := h3 k x (by omega) (by rw [← e2]; exact List.getElem?_eq_getElem hk)
      omega
     repeat' (first | refine i_s rfl ?_ | refine sw ?_ | refine i_gt rfl ?_ | refine i_gf rfl ?_ | refine i_gd rfl ?_ | refine i_g rfl (fun h => ?_) (fun h => ?_))
     all_goals first
      | (refine e_ret ⟨rfl, _, rfl, ?_⟩; rw [hn, decide_eq_false hm]; rfl)
      | (exfalso; clear hm h3 h4 hs hn; simp at *; omega)
def c_strips_Meets_1 : Cmd :=
 (qS [qb 3 false]
 (qS [ql 7 1 1, qm 8 0, qk 9 59 [7, 8], qm 6 9, qq 10 (.extract (.t 6) 0), qq 11 (.extract (.t 6) 1), qm 4 10, qm 5 11]
 (.seq (.ops [qm 12 5, qm 3 12]) .ret)))
def r_strips_Meets_1 : List RVar := [.tmp 3]
def n_strips_Meets_1 : Nat := 13
theorem k_strips_Meets_1 : chkFn PG 133 n_strips_Meets_1 r_strips_Meets_1 c_strips_Meets_1 = true := by kernel_rfl
theorem f_strips_Meets_1 (b : List Int) (hl : b.length ≤ 140737488355328) (hs : SS b) (x : Int) : Fc PG 133 [i64V x, .cptr .p (.sl .p (b.map i64V)) 0] (.bool (decide (x ∈ b))) := by
 refine Fn.step mixed k_strips_Meets_1 ?_
 repeat' (first | refine i_s rfl ?_ | refine sw ?_ | refine sf rfl rfl (f_BinarySearch b x hl hs) ?_ | fail)
 exact e_ret ⟨rfl, _, rfl, rfl⟩
def c_strips_Meets : Cmd :=
 (qS [qx 3 5760193 1 1, qb 4 false]
 (.seq (.ops [qm 5 0, qq 6 (.mkfn 133 [.t 3]), qk 7 17 [5, 6], qm 4 7]) .ret))
def r_strips_Meets : List RVar := [.tmp 4]
def n_strips_Meets : Nat := 8
theorem k_strips_Meets : chkFn PG 90 n_strips_Meets r_strips_Meets c_strips_Meets = true := by kernel_rfl
theorem f_strips_Meets (a b : List Int) (hl : a.length ≤ 140737488355328) (hlb : b.length ≤ 140737488355328) (hs : SS b) : Fc PG 90 [.sl .p (a.map i64V), .sl .p (b.map i64V)] (.bool (meetB a b)) := by
 have hC := f_ContainsFunc_int a (fun x => decide (x ∈ b)) 133 [.cptr .p (.sl .p (b.map i64V)) 0] hl (fun _ _ => rfl) rfl (fun x _ => f_strips_Meets_1 b hlb hs x)
 refine Fn.step mixed k_strips_Meets ?_
 repeat' (first | refine i_s rfl ?_ | refine sw ?_ | refine i_box rfl rfl ?_ | refine sf rfl rfl hC ?_ | fail)
 exact e_ret ⟨rfl, _, rfl, rfl⟩
def opCode (n : Int) (o : SOp) : Int := if isSetB n o.pre = false ∨ isSetB n o.add = false ∨ isSetB n o.del = false ∨ disjB o.add o.del = false then 5 else if o.cost < 0 ∨ o.cost > 100 then 3 else 0
theorem sopBad_eq {n : Int} {ops : List SOp} {i : Nat} {o : SOp} (h : ops[i]? = some o) : sopBad n ops i = if opCode n o = 0 then none else some ⟨opCode n o, i⟩ := by
 unfold sopBad opCode
 rw [h]
 simp only
 repeat' split
 all_goals first | rfl | omega | contradiction
def SoOk (o : SOp) : Prop := o.pre.length ≤ 140737488355328 ∧ o.add.length ≤ 140737488355328 ∧ o.del.length ≤ 140737488355328
theorem opc5 {n : Int} {o : SOp} (h : isSetB n o.pre = false ∨ isSetB n o.add = false ∨ isSetB n o.del = false ∨ disjB o.add o.del = false) : opCode n o = 5 := if_pos h
theorem opc {n : Int} {o : SOp} (h1 : isSetB n o.pre = true) (h2 : isSetB n o.add = true) (h3 : isSetB n o.del = true) (h4 : disjB o.add o.del = true) : opCode n o = if o.cost < 0 ∨ o.cost > 100 then 3 else 0 := if_neg (by simp [h1, h2, h3, h4])
def c_strips_operator : Cmd :=
 (qS [qx 2 2944132 4 0, qc 4 0]
 (qT (.block 0 (qS [qf 6 0 2, ql 7 1 6, qm 8 1, qk 9 45 [7, 8], qq 10 (.not (.t 9)), qm 11 10, qg 12 11 false (.faddr 1 (.t 2)), qg 13 11 false (.load false 1 (.t 12)), qg 14 11 false (.mov (.t 1)), qg 15 11 false (.call .f (.c (.fn 45 [])) [.t 13, .t 14]), qg 16 11 false (.not (.t 15)), qq 17 (.pick (.t 11) (.c (.bool true)) (.t 16)), qm 18 17, qg 19 18 false (.faddr 2 (.t 2)), qg 20 18 false (.load false 1 (.t 19)), qg 21 18 false (.mov (.t 1)), qg 22 18 false (.call .f (.c (.fn 45 [])) [.t 20, .t 21]), qg 23 18 false (.not (.t 22)), qq 24 (.pick (.t 18) (.c (.bool true)) (.t 23)), qm 25 24, qg 26 25 false (.faddr 1 (.t 2)), qg 27 25 false (.load false 1 (.t 26)), qg 28 25 false (.faddr 2 (.t 2)), qg 29 25 false (.load false 1 (.t 28)), qg 30 25 false (.call .f (.c (.fn 90 [])) [.t 27, .t 29]), qq 31 (.pick (.t 25) (.c (.bool true)) (.t 30)), qm 5 31]
 (.cond (.t 5) (.seq (.ops [qc 4 5]) .ret) (qS [qf 33 3 2, ql 34 1 33, qv 35 .lss [] 34 0, qm 36 35, qg 37 36 false (.faddr 3 (.t 2)), qg 38 36 false (.load false 1 (.t 37)), qg 39 36 false (.bin .gtr false [] (.t 38) (.c (.int .i64 100))), qq 40 (.pick (.t 36) (.c (.bool true)) (.t 39)), qm 32 40]
 (.cond (.t 32) (.seq (.ops [qc 4 3]) .ret) .skip)))))
 (.seq (.ops [qc 4 0]) .ret)))
def r_strips_operator : List RVar := [.tmp 4]
def n_strips_operator : Nat := 41
theorem k_strips_operator : chkFn PG 46 n_strips_operator r_strips_operator c_strips_operator = true := by kernel_rfl
theorem f_strips_operator (o : SOp) (n : Int) (ho : SoOk o) : Fc PG 46 [soV o, .int .i64 n] (.int .i64 (opCode n o)) := by
 obtain ⟨l1, l2, l3⟩ := ho
 have h1 := f_strips_IsSet o.pre n l1
 have h2 := f_strips_IsSet o.add n l2
 have h3 := f_strips_IsSet o.del n l3
 cases e1 : isSetB n o.pre with
 | false =>
  rw [e1] at h1
  refine Fn.step mixed k_strips_operator ?_
  repeat' (first | refine i_s rfl ?_ | refine sw ?_ | refine i_gf rfl ?_ | refine c_t rfl ?_ | refine i_box rfl rfl ?_ | refine sf rfl rfl h1 ?_ | fail)
  exact e_ret ⟨rfl, _, rfl, congrArg (V.int .i64) (opc5 (.inl e1))⟩
 | true =>
 cases e2 : isSetB n o.add with
 | false =>
  rw [e1] at h1
  rw [e2] at h2
  refine Fn.step mixed k_strips_operator ?_
  repeat' (first | refine i_s rfl ?_ | refine sw ?_ | refine i_gt rfl ?_ | refine i_gf rfl ?_ | refine c_t rfl ?_ | refine i_box rfl rfl ?_ | refine sf rfl rfl h1 ?_ | refine sf rfl rfl h2 ?_ | fail)
  exact e_ret ⟨rfl, _, rfl, congrArg (V.int .i64) (opc5 (.inr (.inl e2)))⟩
 | true =>
 cases e3 : isSetB n o.del with
 | false =>
  rw [e1] at h1
  rw [e2] at h2
  rw [e3] at h3
  refine Fn.step mixed k_strips_operator ?_
  repeat' (first | refine i_s rfl ?_ | refine sw ?_ | refine i_gt rfl ?_ | refine i_gf rfl ?_ | refine c_t rfl ?_ | refine i_box rfl rfl ?_ | refine sf rfl rfl h1 ?_ | refine sf rfl rfl h2 ?_ | refine sf rfl rfl h3 ?_ | fail)
  exact e_ret ⟨rfl, _, rfl, congrArg (V.int .i64) (opc5 (.inr (.inr (.inl e3))))⟩
 | true =>
 have h4 := f_strips_Meets o.add o.del l2 l3 (isSet_of e3).ss
 rw [meet_disj] at h4
 rw [e1] at h1
 rw [e2] at h2
 rw [e3] at h3
 cases e4 : disjB o.add o.del with
 | false =>
  rw [e4] at h4
  refine Fn.step mixed k_strips_operator ?_
  repeat' (first | refine i_s rfl ?_ | refine sw ?_ | refine i_gt rfl ?_ | refine c_t rfl ?_ | refine i_box rfl rfl ?_ | refine sf rfl rfl h1 ?_ | refine sf rfl rfl h2 ?_ | refine sf rfl rfl h3 ?_ | refine sf rfl rfl h4 ?_ | fail)
  exact e_ret ⟨rfl, _, rfl, congrArg (V.int .i64) (opc5 (.inr (.inr (.inr e4))))⟩
 | true =>
  rw [e4] at h4
  refine Fn.step mixed k_strips_operator ?_
  repeat' (first | refine i_s rfl ?_ | refine sw ?_ | refine i_gt rfl ?_ | refine i_gf rfl ?_ | refine c_t rfl ?_ | refine c_f rfl ?_ | refine i_box rfl rfl ?_ | (refine sp ?_ ?_ <;> try intro h) | refine sf rfl rfl h1 ?_ | refine sf rfl rfl h2 ?_ | refine sf rfl rfl h3 ?_ | refine sf rfl rfl h4 ?_ | fail)
  all_goals
   refine e_ret ⟨rfl, _, rfl, congrArg (V.int .i64) ?_⟩
   rw [opc e1 e2 e3 e4]
   clear h1 h2 h3 h4
   simp at *
   omega
theorem sF1 {t : STask} (h : t.facts < 0 ∨ t.facts > 24) : sFault t = ⟨3, -1⟩ := if_pos h
theorem sF2 {t : STask} (h : ¬ (t.facts < 0 ∨ t.facts > 24)) (h2 : isSetB t.facts t.init = false) : sFault t = ⟨5, -2⟩ := by unfold sFault; rw [if_neg h, if_pos h2]
theorem sF3 {t : STask} (h : ¬ (t.facts < 0 ∨ t.facts > 24)) (h2 : isSetB t.facts t.init = true) (h3 : isSetB t.facts t.goal = false) : sFault t = ⟨5, -3⟩ := by unfold sFault; rw [if_neg h, if_neg (by simp [h2]), if_pos h3]
theorem sF4 {t : STask} (h : ¬ (t.facts < 0 ∨ t.facts > 24)) (h2 : isSetB t.facts t.init = true) (h3 : isSetB t.facts t.goal = true) (h4 : t.ops.length > 40) : sFault t = ⟨2, -1⟩ := by unfold sFault; rw [if_neg h, if_neg (by simp [h2]), if_neg (by simp [h3]), if_pos h4]
theorem sF5 {t : STask} (h : ¬ (t.facts < 0 ∨ t.facts > 24)) (h2 : isSetB t.facts t.init = true) (h3 : isSetB t.facts t.goal = true) (h4 : ¬ t.ops.length > 40) : sFault t = (scan (sopBad t.facts t.ops) 0 t.ops.length).getD okF := by unfold sFault; rw [if_neg h, if_neg (by simp [h2]), if_neg (by simp [h3]), if_neg h4]
theorem sF_hit {t : STask} (hel : sFault t = (scan (sopBad t.facts t.ops) 0 t.ops.length).getD okF) {k : Nat} {f : Flt} (hi : ∀ j, j < k → sopBad t.facts t.ops j = none) (hk : k < t.ops.length) (hf : sopBad t.facts t.ops k = some f) : sFault t = f := by
 rw [hel, scan0_hit hi hk hf]; rfl
theorem sF_none {t : STask} (hel : sFault t = (scan (sopBad t.facts t.ops) 0 t.ops.length).getD okF) (hi : ∀ j, j < t.ops.length → sopBad t.facts t.ops j = none) : sFault t = okF := by
 rw [hel, scan0_none hi]; rfl
end Hm
end
section
namespace Hm
open Go
set_option maxRecDepth 100000
set_option maxHeartbeats 2000000
def c_strips_Validate : Cmd :=
 (qS [qx 1 832068 4 0, qq 2 (.alloc 832130 (.agg [.int .i64 0, .int .i64 0]))]
 (qT (.block 0 (qS [qf 7 0 1, ql 8 1 7, qv 9 .lss [] 8 0, qm 10 9, qg 11 10 false (.faddr 0 (.t 1)), qg 12 10 false (.load false 1 (.t 11)), qg 13 10 false (.bin .gtr false [] (.t 12) (.c (.int .i64 24))), qq 14 (.pick (.t 10) (.c (.bool true)) (.t 13)), qm 6 14]
 (.cond (.t 6) (.seq (.ops [qq 15 (.build [.int .i64 0, .int .i64 0] [(0 , 1 , .c (.int .i64 3)), (1 , 1 , .c (.int .i64 (-1)))]), qs 2 2 15]) .ret) (qS [qf 17 1 1, ql 18 1 17, qf 19 0 1, ql 20 1 19, qk 21 45 [18, 20], qq 22 (.not (.t 21)), qm 16 22]
 (.cond (.t 16) (.seq (.ops [qq 23 (.build [.int .i64 0, .int .i64 0] [(0 , 1 , .c (.int .i64 5)), (1 , 1 , .c (.int .i64 (-2)))]), qs 2 2 23]) .ret) (qS [qf 25 2 1, ql 26 1 25, qf 27 0 1, ql 28 1 27, qk 29 45 [26, 28], qq 30 (.not (.t 29)), qm 24 30]
 (.cond (.t 24) (.seq (.ops [qq 31 (.build [.int .i64 0, .int .i64 0] [(0 , 1 , .c (.int .i64 5)), (1 , 1 , .c (.int .i64 (-3)))]), qs 2 2 31]) .ret) (qS [qf 33 3 1, ql 34 1 33, qn 35 34, qv 36 .gtr [] 35 40, qm 32 36]
 (.cond (.t 32) (.seq (.ops [qq 37 (.build [.int .i64 0, .int .i64 0] [(0 , 1 , .c (.int .i64 2)), (1 , 1 , .c (.int .i64 (-1)))]), qs 2 2 37]) .ret) .skip)))))))))
 (qT (qS [qf 38 3 1, ql 39 1 38, qn 40 39, qc 41 0]
 (.block 1 (.loop (qS [qu 42 .lss [] 41 40]
 (qT (.cond (.t 42) .skip (.exit 1))
 (qT (.block 2 (qS [qm 43 41, qi 44 4 39 41, qL 45 4 44, qq 4 (.alloc 832260 (.agg [.sl .nil [], .sl .nil [], .sl .nil [], .int .i64 0])), qm 3 43, qs 4 4 45]
 (qS [qL 46 4 4, qf 47 0 1, ql 48 1 47, qk 49 46 [46, 48], qm 5 49]
 (qS [qm 50 5, qv 51 .neq [.i] 50 0]
 (.cond (.t 51) (.seq (.ops [qm 52 5, qm 53 3, qq 54 (.build [.int .i64 0, .int .i64 0] [(0 , 1 , .t 52), (1 , 1 , .t 53)]), qs 2 2 54]) .ret) .skip)))))
 (.ops [qv 55 .add [] 41 1, qm 41 55])))))))
 (.seq (.ops [qq 56 (.build [.int .i64 0, .int .i64 0] []), qs 2 2 56]) .ret))))
def r_strips_Validate : List RVar := [.cell true 2 2]
def n_strips_Validate : Nat := 57
theorem k_strips_Validate : chkFn PG 13 n_strips_Validate r_strips_Validate c_strips_Validate = true := by kernel_rfl
theorem f_strips_Validate (t : STask) (ho : SkOk t) : Fc PG 13 [skV t] (ftV (sFault t)) := by
 have h1 := f_strips_IsSet t.init t.facts ho.i
 have h2 := f_strips_IsSet t.goal t.facts ho.g
 have l5 := ho.o
 have hop : ∀ o ∈ t.ops, Fc PG 46 [soV o, .int .i64 t.facts] (.int .i64 (opCode t.facts o)) := fun o h => f_strips_operator o t.facts (ho.e o h)
 by_cases hf : t.facts < 0 ∨ t.facts > 24
 · refine Fn.step mixed k_strips_Validate ?_
   repeat' (first | refine i_s rfl ?_ | refine sw ?_ | refine i_gt rfl ?_ | refine i_gf rfl ?_ | refine c_t rfl ?_ | refine i_stb rfl ?_ | refine i_alloc rfl ?_ | refine i_box rfl rfl ?_ | (refine sp ?_ ?_ <;> try intro h) | fail)
   all_goals first
    | exact e_ret ⟨rfl, _, rfl, congr_ft (sF1 hf)⟩
    | (exfalso; clear h1 h2 ho hop; simp at *; omega)
 have hf' : 0 ≤ t.facts ∧ t.facts ≤ 24 := by omega
 cases e1 : isSetB t.facts t.init with
 | false =>
  rw [e1] at h1
  refine Fn.step mixed k_strips_Validate ?_
  repeat' (first | refine i_s rfl ?_ | refine sw ?_ | refine i_gt rfl ?_ | refine i_gf rfl ?_ | refine c_t rfl ?_ | refine i_stb rfl ?_ | refine i_alloc rfl ?_ | refine i_box rfl rfl ?_ | (refine sp ?_ ?_ <;> try intro h) | refine sf rfl rfl h1 ?_ | fail)
  all_goals first
   | exact e_ret ⟨rfl, _, rfl, congr_ft (sF2 hf e1)⟩
   | (exfalso; clear h1 h2 ho hop; simp at *; omega)
 | true =>
 cases e2 : isSetB t.facts t.goal with
 | false =>
  rw [e1] at h1
  rw [e2] at h2
  refine Fn.step mixed k_strips_Validate ?_
  repeat' (first | refine i_s rfl ?_ | refine sw ?_ | refine i_gt rfl ?_ | refine i_gf rfl ?_ | refine c_t rfl ?_ | refine c_f rfl ?_ | refine i_stb rfl ?_ | refine i_alloc rfl ?_ | refine i_box rfl rfl ?_ | (refine sp ?_ ?_ <;> try intro h) | refine sf rfl rfl h1 ?_ | refine sf rfl rfl h2 ?_ | fail)
  all_goals first
   | exact e_ret ⟨rfl, _, rfl, congr_ft (sF3 hf e1 e2)⟩
   | (exfalso; clear h1 h2 ho hop; simp at *; omega)
 | true =>
 rw [e1] at h1
 rw [e2] at h2
 by_cases h4 : t.ops.length > 40
 · refine Fn.step mixed k_strips_Validate ?_
   repeat' (first | refine i_len rfl ?_ | refine i_s rfl ?_ | refine sw ?_ | refine i_gt rfl ?_ | refine i_gf rfl ?_ | refine c_t rfl ?_ | refine c_f rfl ?_ | refine i_stb rfl ?_ | refine i_alloc rfl ?_ | refine i_box rfl rfl ?_ | (refine sp ?_ ?_ <;> try intro h) | refine sf rfl rfl h1 ?_ | refine sf rfl rfl h2 ?_ | fail)
   all_goals first
    | exact e_ret ⟨rfl, _, rfl, congr_ft (sF4 hf e1 e2 h4)⟩
    | (exfalso; clear h1 h2 ho hop; simp at *; omega)
 have hel := sF5 hf e1 e2 h4
 refine Fn.step mixed k_strips_Validate ?_
 repeat' (first | refine i_len rfl ?_ | refine i_s rfl ?_ | refine sw ?_ | refine i_gt rfl ?_ | refine i_gf rfl ?_ | refine c_t rfl ?_ | refine c_f rfl ?_ | refine i_stb rfl ?_ | refine i_alloc rfl ?_ | refine i_box rfl rfl ?_ | (refine sp ?_ ?_ <;> try intro h) | refine sf rfl rfl h1 ?_ | refine sf rfl rfl h2 ?_ | fail)
 all_goals first | (exfalso; clear h1 h2 ho hop hel; simp at *; omega) | skip
 refine c_for t.ops.length (fun k => [(1, .bptr 832068 0), (2, .bptr 832130 0), (39, .sl .p (t.ops.map soV)), (40, .int .i64 t.ops.length), (41, .int .i64 k)]) (fun _ => [(832068, .box (skV t)), (832130, .box (ftV okF))]) (fun k => ∀ j, j < k → sopBad t.facts t.ops j = none) all_zero ft fun k hk hi => ?_
 clear h1 h2
 repeat (first | refine i_s rfl ?_ | refine sw ?_)
 refine c_cond rfl (fun h => ?_) (fun h => ?_)
 · have hlt : k < t.ops.length := by simpa using h
   obtain ⟨o, hx⟩ := get_some hlt
   have hc := hop o (mem_get hx)
   have hb := sopBad_eq (n := t.facts) hx
   clear h hop ho
   repeat (first | refine i_s rfl ?_ | refine sw ?_ | refine jd rfl rfl ?_ | refine i_stb rfl ?_ | refine i_alloc rfl ?_ | refine sf rfl rfl hc ?_)
   clear hc
   refine c_cond rfl (fun h => ?_) (fun h => ?_)
   · have hne : opCode t.facts o ≠ 0 := by simpa using h
     rw [if_neg hne] at hb
     repeat' (first | refine i_s rfl ?_ | refine sw ?_ | refine i_stb rfl ?_)
     exact e_ret ⟨rfl, _, rfl, congr_ft (sF_hit hel hi hlt hb)⟩
   · have hne : opCode t.facts o = 0 := by simpa using h
     rw [if_pos hne] at hb
     repeat' (first | refine i_s rfl ?_ | refine sw ?_ | refine ja rfl rfl ?_ | fail)
     exact e_for hlt (all_succ hi hb) ft
 · have hge : ¬ k < t.ops.length := by simpa using h
   repeat' (first | refine i_s rfl ?_ | refine sw ?_ | refine i_stb rfl ?_)
   exact e_ret ⟨rfl, _, rfl, congr_ft (sF_none hel fun j hj => hi j (by omega))⟩
def c_strips_Steps : Cmd :=
 (qS [qq 4 (.alloc 6784258 (.agg [.int .i64 0, .int .i64 0]))]
 (qT (qS [qm 7 1, qn 8 7, qv 9 .gtr [] 8 60]
 (.cond (.t 9) (.seq (.ops [qq 10 (.build [.int .i64 0, .int .i64 0] [(0 , 1 , .c (.int .i64 2)), (1 , 1 , .c (.int .i64 (-5)))]), qs 2 4 10]) .ret) .skip))
 (qT (qS [qm 11 1, qn 12 11, qc 13 0]
 (.block 0 (.loop (qS [qu 14 .lss [] 13 12]
 (qT (.cond (.t 14) .skip (.exit 0))
 (qT (.block 1 (qS [qi 15 1 11 13, ql 16 1 15, qm 6 16]
 (qS [qm 17 6, qv 18 .lss [] 17 0, qm 19 18, qg 20 19 false (.mov (.t 6)), qg 21 19 false (.mov (.t 0)), qg 22 19 false (.bin .geq false [] (.t 20) (.t 21)), qq 23 (.pick (.t 19) (.c (.bool true)) (.t 22))]
 (.cond (.t 23) (.seq (.ops [qq 24 (.build [.int .i64 0, .int .i64 0] [(0 , 1 , .c (.int .i64 3)), (1 , 1 , .c (.int .i64 (-6)))]), qs 2 4 24]) .ret) .skip))))
 (.ops [qv 25 .add [] 13 1, qm 13 25])))))))
 (.seq (.ops [qq 26 (.build [.int .i64 0, .int .i64 0] []), qs 2 4 26]) .ret))))
def r_strips_Steps : List RVar := [.cell true 2 4]
def n_strips_Steps : Nat := 27
theorem k_strips_Steps : chkFn PG 106 n_strips_Steps r_strips_Steps c_strips_Steps = true := by kernel_rfl
theorem f_strips_Steps (n : Nat) (plan : List Int) (hl : plan.length ≤ 140737488355328) : Fc PG 106 [.int .i64 n, .sl .p (plan.map i64V)] (ftV (stepsF n plan)) := by
 refine Fn.step mixed k_strips_Steps ?_
 repeat' (first | refine i_len rfl ?_ | refine i_s rfl ?_ | refine sw ?_ | refine i_stb rfl ?_ | refine i_alloc rfl ?_ | refine c_cond rfl (fun h => ?_) (fun h => ?_))
 · exact e_ret ⟨rfl, _, rfl, congr_ft (by rw [stepsF, if_pos (by grind)])⟩
 have h60 : ¬ plan.length > 60 := by grind
 clear h
 refine c_for plan.length (fun k => [(0, .int .i64 n), (4, .bptr 6784258 0), (11, .sl .p (plan.map i64V)), (12, .int .i64 plan.length), (13, .int .i64 k)]) (fun _ => [(6784258, .box (ftV okF))]) (fun k => (plan.take k).any (badStep n) = false) (by simp) ft fun k hk hi => ?_
 repeat (first | refine i_s rfl ?_ | refine sw ?_)
 refine c_cond rfl (fun h => ?_) (fun h => ?_)
 · have hlt : k < plan.length := by simpa using h
   obtain ⟨x, hx⟩ := get_some hlt
   clear h
   repeat' (first | refine i_s rfl ?_ | refine sw ?_ | refine i_gt rfl ?_ | refine i_gf rfl ?_ | refine c_t rfl ?_ | refine ja rfl rfl ?_ | refine jd rfl rfl ?_ | refine i_stb rfl ?_ | (refine sp ?_ ?_ <;> try intro h) | fail)
   all_goals first
    | refine e_for hlt ?_ ft
      rw [take_succ_get hx, List.any_append, hi]
      simp only [List.any_cons, List.any_nil, Bool.or_false, Bool.false_or]
      unfold badStep; clear hi; grind
    | refine e_ret ⟨rfl, _, rfl, congr_ft ?_⟩
      rw [stepsF, if_neg h60, if_pos]
      exact List.any_eq_true.2 ⟨x, mem_get hx, by unfold badStep; clear hi; grind⟩
 · have hge : ¬ k < plan.length := by simpa using h
   rw [List.take_of_length_le (by omega)] at hi
   repeat' (first | refine i_s rfl ?_ | refine sw ?_ | refine i_stb rfl ?_)
   exact e_ret ⟨rfl, _, rfl, congr_ft (by rw [stepsF, if_neg h60, hi, if_neg (by simp)]; rfl)⟩
def plFault (t : STask) (plan : List Int) : Flt := if sFault t = okF then stepsF t.ops.length plan else sFault t
theorem plFault_ok {t : STask} {plan : List Int} (h : plFault t plan = okF) : SV t ∧ plan.length ≤ 60 ∧ (∀ x ∈ plan, 0 ≤ x ∧ x < t.ops.length) ∧ sFault t = okF := by
 unfold plFault at h
 split at h
 · rename_i h1
   obtain ⟨h2, h3⟩ := stepsF_ok h
   exact ⟨sFault_ok h1, h2, h3, h1⟩
 · rename_i h1; exact absurd h h1
def c_strips_PlanFault : Cmd :=
 (qS [qx 2 3520132 4 0, qq 4 (.alloc 3520258 (.agg [.int .i64 0, .int .i64 0]))]
 (qT (qS [qL 6 4 2, qk 7 13 [6], qq 5 (.alloc 3520322 (.agg [.int .i64 0, .int .i64 0])), qs 2 5 7]
 (qS [qL 8 2 5, qq 9 (.build [.int .i64 0, .int .i64 0] []), qq 10 (.bin .neq true [.i, .i] (.t 8) (.t 9))]
 (.cond (.t 10) (.seq (.ops [qL 11 2 5, qs 2 4 11]) .ret) .skip)))
 (.seq (.ops [qf 12 3 2, ql 13 1 12, qn 14 13, qm 15 1, qk 16 106 [14, 15], qs 2 4 16]) .ret)))
def r_strips_PlanFault : List RVar := [.cell true 2 4]
def n_strips_PlanFault : Nat := 17
theorem k_strips_PlanFault : chkFn PG 55 n_strips_PlanFault r_strips_PlanFault c_strips_PlanFault = true := by kernel_rfl
theorem f_strips_PlanFault (t : STask) (ho : SkOk t) (plan : List Int) (hl : plan.length ≤ 140737488355328) : Fc PG 55 [skV t, .sl .p (plan.map i64V)] (ftV (plFault t plan)) := by
 have l5 := ho.o
 refine Fn.step mixed k_strips_PlanFault ?_
 repeat' (first | refine i_len rfl ?_ | refine i_s rfl ?_ | refine sw ?_ | refine i_stb rfl ?_ | refine i_alloc rfl ?_ | refine i_box rfl rfl ?_ | refine c_cond rfl (fun h => ?_) (fun h => ?_) | refine sf rfl rfl (f_strips_Validate t ho) ?_ | refine sf rfl rfl (f_strips_Steps t.ops.length plan hl) ?_ | fail)
 · exact e_ret ⟨rfl, _, rfl, congr_ft (by rw [plFault, if_neg (ne_ok h)])⟩
 · exact e_ret ⟨rfl, _, rfl, congr_ft (by rw [plFault, if_pos (eq_ok h)])⟩
def c_strips_Contains : Cmd :=
 (qS [qb 4 false]
 (qS [qc 5 0]
 (qT (qS [qm 8 1, qn 9 8, qc 10 0]
 (.block 0 (.loop (qS [qu 11 .lss [] 10 9]
 (qT (.cond (.t 11) .skip (.exit 0))
 (qT (.block 1 (qS [qi 12 1 8 10, ql 13 1 12, qm 7 13]
 (qT (.block 2 (.loop (qT (qS [qm 14 5, qm 15 0, qn 16 15, qu 17 .lss [] 14 16, qm 18 17, qg 19 18 true (.mov (.t 0)), qg 20 18 true (.mov (.t 5)), qg 21 18 true (.iaddr 1 (.t 19) (.t 20)), qg 22 18 true (.load false 1 (.t 21)), qg 23 18 true (.mov (.t 7)), qg 24 18 true (.bin .lss false [] (.t 22) (.t 23)), qq 25 (.pick (.t 18) (.t 24) (.c (.bool false)))]
 (.cond (.t 25) .skip (.exit 2)))
 (.block 3 (.ops [qm 26 5, qv 27 .add [] 26 1, qm 5 27])))))
 (qS [qm 28 5, qm 29 0, qn 30 29, qu 31 .eql [.i] 28 30, qm 32 31, qg 33 32 false (.mov (.t 0)), qg 34 32 false (.mov (.t 5)), qg 35 32 false (.iaddr 1 (.t 33) (.t 34)), qg 36 32 false (.load false 1 (.t 35)), qg 37 32 false (.mov (.t 7)), qg 38 32 false (.bin .neq false [.i] (.t 36) (.t 37)), qq 39 (.pick (.t 32) (.c (.bool true)) (.t 38))]
 (.cond (.t 39) (.seq (.ops [qb 4 false]) .ret) .skip)))))
 (.ops [qv 40 .add [] 10 1, qm 10 40])))))))
 (.seq (.ops [qb 4 true]) .ret))))
def r_strips_Contains : List RVar := [.tmp 4]
def n_strips_Contains : Nat := 41
theorem k_strips_Contains : chkFn PG 93 n_strips_Contains r_strips_Contains c_strips_Contains = true := by kernel_rfl
theorem f_strips_Contains (s part : List Int) (hl : s.length ≤ 140737488355328) (hl2 : part.length ≤ 140737488355328) (hs : SS s) (hp : SS part) : Fc PG 93 [.sl .p (s.map i64V), .sl .p (part.map i64V)] (.bool (inclB part s)) := by
 refine Fn.step mixed k_strips_Contains ?_
 repeat' (first | refine i_len rfl ?_ | refine i_s rfl ?_ | refine sw ?_ | fail)
 refine c_lp (ι := Nat × Nat) (fun p => [(0, .sl .p (s.map i64V)), (5, .int .i64 p.2), (8, .sl .p (part.map i64V)), (9, .int .i64 part.length), (10, .int .i64 p.1)]) (fun _ => [])
  (fun p => p.1 ≤ part.length ∧ p.2 ≤ s.length ∧ (∀ j, j < p.1 → ∀ y, part[j]? = some y → y ∈ s) ∧ (∀ j x, j < p.2 → s[j]? = some x → ∀ k' y, p.1 ≤ k' → part[k']? = some y → x < y)) (fun p => part.length - p.1) (0, 0) ⟨Nat.zero_le _, Nat.zero_le _, all_zero, fun j x h => by omega⟩ ft fun p hi => ?_
 obtain ⟨k, i⟩ := p
 obtain ⟨h1, h2, h3, h4⟩ := hi
 simp only at h1 h2 h3 h4
 repeat (first | refine i_s rfl ?_ | refine sw ?_)
 refine c_cond rfl (fun h => ?_) (fun h => ?_)
 · have hlt : k < part.length := by simpa using h
   obtain ⟨y, hy⟩ := get_some hlt
   clear h
   repeat (first | refine i_s rfl ?_ | refine sw ?_ | refine jd rfl rfl ?_)
   refine c_lp (ι := Nat) (fun i => [(0, .sl .p (s.map i64V)), (5, .int .i64 i), (7, .int .i64 y), (8, .sl .p (part.map i64V)), (9, .int .i64 part.length), (10, .int .i64 k)]) (fun _ => [])
    (fun i => i ≤ s.length ∧ (∀ j x, j < i → s[j]? = some x → ∀ k' y, k ≤ k' → part[k']? = some y → x < y)) (fun i => s.length - i) i ⟨h2, h4⟩ ft fun i hi => ?_
   clear h2 h4
   obtain ⟨h2, h4⟩ := hi
   by_cases hil : i < s.length
   · obtain ⟨x, hx⟩ := get_some hil
     have hil' : (i : Int) < s.length := by omega
     by_cases hxy : x < y
     · repeat' (first | refine i_len rfl ?_ | refine i_s rfl ?_ | refine sw ?_ | refine i_gt rfl ?_ | refine i_gf rfl ?_ | refine c_t rfl ?_ | refine c_f rfl ?_ | refine ja rfl rfl ?_ | refine jd rfl rfl ?_ | (refine sp ?_ ?_ <;> try intro h) | fail)
       all_goals first
        | (refine e_lp (i + 1) ⟨by omega, fun j x' hj hx' k' y' hk' hy' => ?_⟩ (by omega) ft
           by_cases e : j = i
           · subst e
             rw [hx] at hx'; cases hx'
             by_cases e2 : k' = k
             · subst e2; rw [hy] at hy'; cases hy'; exact hxy
             · have := ss_idx hp hy hy' (by omega); omega
           · exact h4 j x' (by omega) hx' k' y' hk' hy')
        | (exfalso; clear h3 h4 hs hp; simp at *; omega)
     · by_cases e : x = y
       · subst e
         repeat' (first | refine i_len rfl ?_ | refine i_s rfl ?_ | refine sw ?_ | refine i_gt rfl ?_ | refine i_gf rfl ?_ | refine c_t rfl ?_ | refine c_f rfl ?_ | refine ja rfl rfl ?_ | refine jd rfl rfl ?_ | (refine sp ?_ ?_ <;> try intro h) | fail)
         all_goals first
          | (refine e_lp (k + 1, i) ⟨by simp only; omega, h2, ?_, fun j x' hj hx' k' y' hk' hy' => h4 j x' hj hx' k' y' (by simp only at hk'; omega) hy'⟩ (by simp only; omega) ft
             intro j hj y' hy'
             by_cases e2 : j = k
             · subst e2; rw [hy] at hy'; cases hy'; exact mem_get hx
             · exact h3 j (by simp only at hj; omega) y' hy')
          | (exfalso; clear h3 h4 hs hp; simp at *; omega)
          | (exfalso; clear h3 h4 hs hp; simp at *; done)
       · have hnm : y ∉ s := fun hm => by
          obtain ⟨j, hj, e2⟩ := List.getElem_of_mem hm
          have hg : s[j]? = some y := by rw [← e2]; exact List.getElem?_eq_getElem hj
          by_cases c : j < i
          · have := h4 j y c hg k y (Nat.le_refl _) hy; omega
          · by_cases c2 : j = i
            · subst c2; rw [hx] at hg; cases hg; exact e rfl
            · have := ss_idx hs hx hg (by omega); omega
         repeat' (first | refine i_len rfl ?_ | refine i_s rfl ?_ | refine sw ?_ | refine i_gt rfl ?_ | refine i_gf rfl ?_ | refine c_t rfl ?_ | refine c_f rfl ?_ | refine ja rfl rfl ?_ | refine jd rfl rfl ?_ | (refine sp ?_ ?_ <;> try intro h) | fail)
         all_goals first
          | (refine e_ret ⟨rfl, _, rfl, congrArg V.bool ?_⟩
             unfold inclB
             rw [List.all_eq_false]
             exact ⟨y, mem_get hy, by simpa using hnm⟩)
          | (exfalso; clear h3 h4 hs hp hnm; simp at *; omega)
          | (exfalso; clear h3 h4 hs hp hnm; simp at *; done)
   · have hnm : y ∉ s := fun hm => by
      obtain ⟨j, hj, e2⟩ := List.getElem_of_mem hm
      have hg : s[j]? = some y := by rw [← e2]; exact List.getElem?_eq_getElem hj
      have := h4 j y (by omega) hg k y (Nat.le_refl _) hy
      omega
     have hie : i = s.length := by omega
     repeat' (first | refine i_len rfl ?_ | refine i_s rfl ?_ | refine sw ?_ | refine i_gt rfl ?_ | refine i_gf rfl ?_ | refine c_t rfl ?_ | refine c_f rfl ?_ | refine i_g rfl (fun h => ?_) (fun h => ?_))
     all_goals first
      | (refine e_ret ⟨rfl, _, rfl, congrArg V.bool ?_⟩
         unfold inclB
         rw [List.all_eq_false]
         exact ⟨y, mem_get hy, by simpa using hnm⟩)
      | (exfalso; clear h3 h4 hs hp hnm; simp at *; omega)
      | (exfalso; clear h3 h4 hs hp hnm; simp at *; done)
 · have hge : ¬ k < part.length := by simpa using h
   repeat' (first | refine i_s rfl ?_ | refine sw ?_ | fail)
   refine e_ret ⟨rfl, _, rfl, congrArg V.bool ?_⟩
   unfold inclB
   rw [List.all_eq_true]
   intro y hy
   obtain ⟨j, hj, e⟩ := List.getElem_of_mem hy
   exact decide_eq_true (h3 j (by omega) y (by rw [← e]; exact List.getElem?_eq_getElem hj))
end Hm
end
section
namespace Hm
open Go
abbrev isV (l : List Int) : V := .sl .p (l.map i64V)
theorem s_sorted {a b : List (List Int)} (p : a.Perm b) (ha : a.Pairwise fun x y => ¬ cmpL y x < 0) (hb : b.Pairwise fun x y => ¬ cmpL y x < 0) : a = b :=
 List.Perm.eq_of_pairwise (le := fun x y => ¬ cmpL y x < 0) (fun x y _ _ h1 h2 => by
  have := cmpL_neg x y
  exact cmpL_zero.1 (by omega)) ha hb p
def srtS (l : List (List Int)) : List (List Int) := l.mergeSort fun x y => decide (¬ cmpL y x < 0)
theorem srtS_perm (l : List (List Int)) : (srtS l).Perm l := List.mergeSort_perm l _
theorem srtS_pw (l : List (List Int)) : (srtS l).Pairwise fun x y => ¬ cmpL y x < 0 := by
 have hs := List.pairwise_mergeSort (le := fun x y => decide (¬ cmpL y x < 0)) (fun a b c h1 h2 => by
  simp only [decide_eq_true_eq] at *
  intro h3
  have n1 := cmpL_neg a b
  have n2 := cmpL_neg b c
  rcases Int.lt_or_eq_of_le (show cmpL a b ≤ 0 by omega) with e | e
  · exact h2 (cmpL_trans h3 e)
  · rw [cmpL_zero.1 e] at h3
    exact h2 h3) (fun a b => by
  have n1 := cmpL_neg a b
  simp only [Bool.or_eq_true, decide_eq_true_eq]
  omega) l
 exact hs.imp fun h => by simpa using h
def inW (w x : Int) : Bool := IntKind.i64.wrap ((BitVec.ofInt IntKind.i64.bits x &&& BitVec.ofInt IntKind.i64.bits w).toNat) == w
def gset (w n : Nat) : List Int := selK w.testBit n
def okW (t : STask) (n : Nat) (ws : List Nat) (w : Nat) : Bool := decide (2 ≤ (gset w n).length) && holdB t (gset w n) && !ws.any fun x => inW w x
def wsW (t : STask) (n : Nat) : Nat → List Nat
 | 0 => []
 | k + 1 => if okW t n (wsW t n k) (2 ^ n - 1 - k) = true then wsW t n k ++ [2 ^ n - 1 - k] else wsW t n k
theorem wsW_len (t : STask) (n : Nat) : ∀ k, (wsW t n k).length ≤ k
 | 0 => Nat.le_refl _
 | k + 1 => by
  have := wsW_len t n k
  rw [wsW]
  split <;> simp <;> omega
theorem wsW_ok (t : STask) (n : Nat) : ∀ k, ∀ w ∈ wsW t n k, w < 2 ^ n ∧ holdB t (gset w n) = true
 | 0, w, h => by cases h
 | k + 1, w, h => by
  rw [wsW] at h
  split at h
  · rename_i ho
    rcases List.mem_append.1 h with h | h
    · exact wsW_ok t n k w h
    · rw [List.mem_singleton.1 h]
      unfold okW at ho
      simp only [Bool.and_eq_true] at ho
      exact ⟨by have : 0 < 2 ^ n := Nat.pos_of_ne_zero (by simp); omega, ho.1.2⟩
  · exact wsW_ok t n k w h
def groupsF (t : STask) : List (List Int) := srtS ((wsW t t.facts.toNat (2 ^ t.facts.toNat - 1)).map fun w => gset w t.facts.toNat)
theorem gset_set (w n : Nat) : IsSet n (gset w n) := by
 refine ⟨?_, fun x hx => ?_⟩
 · unfold gset selK SS
   rw [List.pairwise_map]
   exact (List.Pairwise.filter _ List.pairwise_lt_range).imp fun h => by exact Int.ofNat_lt.2 h
 · unfold gset selK at hx
   obtain ⟨i, hi, rfl⟩ := List.mem_map.1 hx
   have := List.mem_range.1 (List.mem_filter.1 hi).1
   exact ⟨Int.natCast_nonneg _, by show (i : Int) < n; omega⟩
theorem groupsF_ok {t : STask} (h0 : 0 ≤ t.facts) : ∀ g ∈ groupsF t, IsSet t.facts g ∧ holdB t g = true := fun g hg => by
 obtain ⟨w, hw, rfl⟩ := List.mem_map.1 ((srtS_perm _).mem_iff.1 hg)
 have e : ((t.facts.toNat : Nat) : Int) = t.facts := Int.toNat_of_nonneg h0
 refine ⟨?_, (wsW_ok t _ _ w hw).2⟩
 have := gset_set w t.facts.toNat
 rwa [e] at this
structure Asg where
 var : Int
 value : Int
structure MOp where
 pre : List Asg
 post : List Asg
 cost : Int
structure MTask where
 sizes : List Int
 init : List Int
 goal : List Asg
 ops : List MOp
def asV (a : Asg) : V := .agg [.int .i64 a.var, .int .i64 a.value]
def moV (o : MOp) : V := .agg [.sl .p (o.pre.map asV), .sl .p (o.post.map asV), .int .i64 o.cost]
def mtV (m : MTask) : V := .agg [.sl .p (m.sizes.map i64V), .sl .p (m.init.map i64V), .sl .p (m.goal.map asV), .sl .p (m.ops.map moV)]
def stAt (sizes s : List Int) (v : Nat) : Bool := match s[v]?, sizes[v]? with
 | some x, some z => decide (0 ≤ x) && decide (x < z)
 | _, _ => false
def stB (sizes s : List Int) : Bool := decide (s.length = sizes.length) && allN (stAt sizes s) s.length
def asPrev (l : List Asg) (i : Nat) (v : Int) : Bool := match l[i - 1]? with
 | some b => decide (b.var < v)
 | none => true
def szAt (sizes : List Int) (v : Int) : Option Int := if v < 0 then none else sizes[v.toNat]?
def asAt (sizes : List Int) (l : List Asg) (i : Nat) : Bool := match l[i]? with
 | none => false
 | some a => match szAt sizes a.var with
   | none => false
   | some z => decide (0 ≤ a.value) && decide (a.value < z) && (decide (i = 0) || asPrev l i a.var)
def asB (sizes : List Int) (l : List Asg) : Bool := allN (asAt sizes l) l.length
def opBad (sizes : List Int) (ops : List MOp) (i : Nat) : Option Flt := match ops[i]? with
 | none => none
 | some o => if asB sizes o.pre = false ∨ asB sizes o.post = false then some ⟨5, i⟩ else if o.cost < 0 ∨ o.cost > 100 then some ⟨3, i⟩ else none
def szBad (n : Int) : Bool := decide (n < 1) || decide (n > 6)
def mFault (m : MTask) : Flt := if m.sizes.length = 0 ∨ m.sizes.length > 8 then ⟨2, -1⟩ else if m.sizes.any szBad = true then ⟨3, -1⟩ else if stB m.sizes m.init = false then ⟨5, -2⟩ else if asB m.sizes m.goal = false then ⟨5, -3⟩
 else if m.ops.length > 40 then ⟨2, -1⟩ else (scan (opBad m.sizes m.ops) 0 m.ops.length).getD okF
def holdAt (s : List Int) (a : Asg) : Bool := match szAt s a.var with
 | some x => x == a.value
 | none => false
def holds (s : List Int) (l : List Asg) : Bool := l.all (holdAt s)
def setAll (s : List Int) (l : List Asg) : List Int := l.foldl (fun s a => s.set a.var.toNat a.value) s
def MOk (m : MTask) : Prop := m.sizes.length ≤ 140737488355328 ∧ m.init.length ≤ 140737488355328 ∧ m.goal.length ≤ 140737488355328 ∧ m.ops.length ≤ 140737488355328 ∧ ∀ o ∈ m.ops, o.pre.length ≤ 140737488355328 ∧ o.post.length ≤ 140737488355328
def asIn (n : Nat) (l : List Asg) : Prop := ∀ a ∈ l, 0 ≤ a.var ∧ a.var < n
theorem asB_in {sizes : List Int} {l : List Asg} (h : asB sizes l = true) : asIn sizes.length l := by
 intro a ha
 obtain ⟨i, hi, e⟩ := List.getElem_of_mem ha
 have hg : l[i]? = some a := by rw [← e]; exact List.getElem?_eq_getElem hi
 have := allN_get h hi
 unfold asAt at this
 rw [hg] at this
 simp only at this
 split at this
 · cases this
 · rename_i z hz
   unfold szAt at hz
   split at hz
   · cases hz
   · have := get_lt hz; omega
structure MV (m : MTask) : Prop where
 rng : ∀ z ∈ m.sizes, 1 ≤ z ∧ z ≤ 6
 len : m.sizes.length ≤ 8
 pos : 1 ≤ m.sizes.length
 init : stB m.sizes m.init = true
 goal : asB m.sizes m.goal = true
 opl : m.ops.length ≤ 40
 op : ∀ o ∈ m.ops, asB m.sizes o.pre = true ∧ asB m.sizes o.post = true ∧ 0 ≤ o.cost ∧ o.cost ≤ 100
theorem scan_allM {α : Type} {bad : Nat → Option α} : ∀ (n i : Nat), scan bad i n = none → ∀ j, i ≤ j → j < i + n → bad j = none
 | 0, i, _, j, h1, h2 => by omega
 | n + 1, i, h, j, h1, h2 => by
  simp only [scan] at h
  split at h
  · cases h
  · rename_i e
    by_cases hj : j = i
    · rw [hj]; exact e
    · exact scan_allM n (i + 1) h j (by omega) (by omega)
theorem opBad_code (sizes : List Int) (ops : List MOp) (i : Nat) : ∀ f, opBad sizes ops i = some f → f.code ≠ 0 := by
 intro f h
 unfold opBad at h
 split at h
 · cases h
 · repeat' split at h
   all_goals cases h
   all_goals simp
theorem scan_code {bad : Nat → Option Flt} (hb : ∀ i f, bad i = some f → f.code ≠ 0) : ∀ n i f, scan bad i n = some f → f.code ≠ 0
 | 0, _, _, h => by cases h
 | n + 1, i, f, h => by
  simp only [scan] at h
  split at h
  · rename_i g e; cases h; exact hb _ _ e
  · exact scan_code hb n (i + 1) f h
theorem getD_code {o : Option Flt} (hc : ∀ f, o = some f → f.code ≠ 0) (h : (o.getD okF).code = 0) : o = none := by
 cases o with
 | none => rfl
 | some f => exact absurd h (hc f rfl)
theorem mFault_code (m : MTask) : (mFault m).code = 0 → MV m := by
 intro h
 unfold mFault at h
 split at h
 · cases h
 · rename_i h1
   split at h
   · cases h
   · rename_i h2
     split at h
     · cases h
     · rename_i h3
       split at h
       · cases h
       · rename_i h4
         split at h
         · cases h
         · rename_i h5
           have hs := getD_code (scan_code (opBad_code m.sizes m.ops) _ _) h
           refine ⟨fun z hz => ?_, by omega, by omega, by simpa using h3, by simpa using h4, by omega, fun o ho => ?_⟩
           · rw [Bool.not_eq_true, List.any_eq_false] at h2
             have := h2 z hz
             simp [szBad] at this
             omega
           · obtain ⟨i, hi, e⟩ := List.getElem_of_mem ho
             have hg : m.ops[i]? = some o := by rw [← e]; exact List.getElem?_eq_getElem hi
             have := scan_allM _ _ hs i (Nat.zero_le _) (by omega)
             unfold opBad at this
             rw [hg] at this
             simp only at this
             split at this
             · cases this
             · rename_i q1
               split at this
               · cases this
               · rename_i q2
                 simp only [not_or, Bool.not_eq_false] at q1
                 exact ⟨q1.1, q1.2, by omega, by omega⟩
theorem mFault_ok {m : MTask} (h : mFault m = okF) : MV m := mFault_code m (by rw [h]; rfl)
theorem stB_len {sizes s : List Int} (h : stB sizes s = true) : s.length = sizes.length := by
 unfold stB at h
 simp only [Bool.and_eq_true] at h
 exact of_decide_eq_true h.1
theorem setAll_len (s : List Int) : ∀ l : List Asg, (setAll s l).length = s.length
 | [] => rfl
 | a :: l => by
  show (setAll (s.set a.var.toNat a.value) l).length = _
  rw [setAll_len _ l]; simp
theorem setAll_snoc (s : List Int) (l : List Asg) (a : Asg) : setAll s (l ++ [a]) = (setAll s l).set a.var.toNat a.value := by simp [setAll]
def sumL : List Int → Int
 | [] => 0
 | z :: r => z + sumL r
theorem sumL_snoc : ∀ (l : List Int) (z : Int), sumL (l ++ [z]) = sumL l + z
 | [], z => by simp [sumL]
 | a :: l, z => by simp only [List.cons_append, sumL, sumL_snoc l z]; omega
def baseFrom : Int → List Int → List Int
 | _, [] => []
 | n, z :: r => n :: baseFrom (n + z) r
theorem baseFrom_snoc : ∀ (l : List Int) (n z : Int), baseFrom n (l ++ [z]) = baseFrom n l ++ [n + sumL l]
 | [], n, z => by simp [baseFrom, sumL]
 | a :: l, n, z => by simp only [List.cons_append, baseFrom, baseFrom_snoc l, sumL]; rw [show n + a + sumL l = n + (a + sumL l) from by omega]
theorem baseFrom_len : ∀ (l : List Int) (n : Int), (baseFrom n l).length = l.length
 | [], _ => rfl
 | a :: l, n => by simp only [baseFrom, List.length_cons, baseFrom_len l]
theorem sumL_range : ∀ (l : List Int), (∀ z ∈ l, 1 ≤ z ∧ z ≤ 6) → 0 ≤ sumL l ∧ sumL l ≤ 6 * l.length
 | [], _ => by simp [sumL]
 | a :: l, h => by
  have h1 := h a (by simp)
  have h2 := sumL_range l fun z hz => h z (by simp [hz])
  simp only [sumL, List.length_cons]
  omega
theorem baseFrom_range : ∀ (l : List Int) (n : Int), (∀ z ∈ l, 1 ≤ z ∧ z ≤ 6) → ∀ x ∈ baseFrom n l, n ≤ x ∧ x ≤ n + sumL l
 | [], _, _, x, hx => by simp [baseFrom] at hx
 | a :: l, n, h, x, hx => by
  have h1 := h a (by simp)
  have h2 := sumL_range l fun z hz => h z (by simp [hz])
  simp only [baseFrom] at hx
  simp only [sumL]
  rcases List.mem_cons.1 hx with e | hx
  · omega
  · have := baseFrom_range l (n + a) (fun z hz => h z (by simp [hz])) x hx
    omega
def bAt (b : List Int) (v : Int) : Int := (b[v.toNat]?).getD 0
def factAt (b : List Int) (a : Asg) : Int := bAt b a.var + a.value
def delK (b : List Int) (a : Asg) (k : Nat) : List Int := ((List.range k).filter fun (x : Nat) => decide ((x : Int) ≠ a.value)).map fun (x : Nat) => bAt b a.var + (x : Int)
theorem delK_succ (b : List Int) (a : Asg) (k : Nat) : delK b a (k + 1) = delK b a k ++ (if (k : Int) ≠ a.value then [bAt b a.var + k] else []) := by
 unfold delK
 rw [List.range_succ, List.filter_append, List.map_append]
 congr 1
 simp only [List.filter]
 by_cases h : (k : Int) = a.value
 · simp [h]
 · simp [h]
theorem delK_len (b : List Int) (a : Asg) (k : Nat) : (delK b a k).length ≤ k := by
 unfold delK
 rw [List.length_map]
 exact Nat.le_trans (List.length_filter_le _ _) (by simp)
def delA (b sizes : List Int) (a : Asg) : List Int := delK b a ((sizes[a.var.toNat]?).getD 0).toNat
def dels (b sizes : List Int) (l : List Asg) : List Int := l.flatMap (delA b sizes)
def initK (b init : List Int) (k : Nat) : List Int := (List.range k).map fun (v : Nat) => bAt b (v : Int) + (init[v]?).getD 0
def opT (b sizes : List Int) (o : MOp) : SOp := ⟨o.pre.map (factAt b), o.post.map (factAt b), dels b sizes o.post, o.cost⟩
def mStrips (m : MTask) : STask := ⟨sumL m.sizes, initK (baseFrom 0 m.sizes) m.init m.init.length, m.goal.map (factAt (baseFrom 0 m.sizes)), m.ops.map (opT (baseFrom 0 m.sizes) m.sizes)⟩
theorem asB_idx {sizes : List Int} {l : List Asg} (h : asB sizes l = true) : ∀ (i : Nat) (a : Asg), l[i]? = some a → (i : Int) ≤ a.var ∧ ∃ z, sizes[a.var.toNat]? = some z ∧ 0 ≤ a.value ∧ a.value < z := by
 intro i
 induction i with
 | zero =>
  intro a ha
  have h1 := asB_in h a (mem_get ha)
  have := allN_get h (get_lt ha)
  unfold asAt at this
  rw [ha] at this
  simp only at this
  split at this
  · cases this
  · rename_i z hz
    simp only [Bool.and_eq_true, decide_eq_true_eq] at this
    unfold szAt at hz
    split at hz
    · cases hz
    · exact ⟨h1.1, z, hz, this.1⟩
 | succ i ih =>
  intro a ha
  obtain ⟨b, hb⟩ := get_some (l := l) (k := i) (by have := get_lt ha; omega)
  have h2 := ih b hb
  have := allN_get h (get_lt ha)
  unfold asAt at this
  rw [ha] at this
  simp only at this
  split at this
  · cases this
  · rename_i z hz
    simp only [Bool.and_eq_true, decide_eq_true_eq, Bool.or_eq_true] at this
    unfold szAt at hz
    split at hz
    · cases hz
    · refine ⟨?_, z, hz, this.1⟩
      rcases this.2 with e | e
      · omega
      · simp [asPrev, hb] at e
        omega
theorem asB_len {sizes : List Int} {l : List Asg} (h : asB sizes l = true) : l.length ≤ sizes.length := by
 by_cases h0 : l.length = 0
 · omega
 · obtain ⟨a, ha⟩ := get_some (l := l) (k := l.length - 1) (by omega)
   obtain ⟨h1, z, hz, _⟩ := asB_idx h _ a ha
   have := (asB_in h a (mem_get ha)).2
   omega
theorem dels_len {b sizes : List Int} (hz : ∀ z ∈ sizes, 1 ≤ z ∧ z ≤ 6) : ∀ l : List Asg, (dels b sizes l).length ≤ 6 * l.length
 | [] => by simp [dels]
 | a :: l => by
  have ih := dels_len (b := b) hz l
  have : (delA b sizes a).length ≤ 6 := by
   unfold delA
   have := delK_len b a ((sizes[a.var.toNat]?).getD 0).toNat
   cases hs : sizes[a.var.toNat]? with
   | none => rw [hs] at this; simp at this; simp [this]
   | some z => rw [hs] at this; have := hz z (mem_get hs); simp at *; omega
  unfold dels at ih ⊢
  simp only [List.flatMap_cons, List.length_append, List.length_cons]
  omega
theorem base_get : ∀ (l : List Int) (n : Int) (v : Nat), v < l.length → (baseFrom n l)[v]? = some (n + sumL (l.take v))
 | [], n, v, h => by simp at h
 | z :: l, n, 0, h => by simp [baseFrom, sumL]
 | z :: l, n, v + 1, h => by
  simp only [baseFrom, List.getElem?_cons_succ, List.take_succ_cons, sumL]
  rw [base_get l (n + z) v (by simpa using h)]
  congr 1
  omega
theorem sumL_append : ∀ a b : List Int, sumL (a ++ b) = sumL a + sumL b
 | [], b => by simp [sumL]
 | x :: a, b => by simp only [List.cons_append, sumL, sumL_append a b]; omega
theorem sumL_nonneg {l : List Int} (h : ∀ z ∈ l, 1 ≤ z ∧ z ≤ 6) : 0 ≤ sumL l := (sumL_range l h).1
theorem sum_mono {l : List Int} (h : ∀ z ∈ l, 1 ≤ z ∧ z ≤ 6) {i j : Nat} (hij : i < j) {z : Int} (hz : l[i]? = some z) : sumL (l.take i) + z ≤ sumL (l.take j) := by
 have h1 : l.take j = l.take (i + 1) ++ (l.take j).drop (i + 1) := by
  conv => lhs; rw [← List.take_append_drop (i + 1) (l.take j)]
  rw [List.take_take, Nat.min_eq_left (by omega)]
 rw [h1, sumL_append, take_succ_get hz, sumL_snoc]
 have := sumL_nonneg (l := (l.take j).drop (i + 1)) fun z hz => h z (List.mem_of_mem_take (List.mem_of_mem_drop hz))
 omega
def VX (l : List Int) (v : Nat) (x : Int) : Prop := ∃ z, l[v]? = some z ∧ 0 ≤ x ∧ x < z
def fv (l : List Int) (v : Nat) (x : Int) : Int := sumL (l.take v) + x
theorem fv_inj {l : List Int} (h : ∀ z ∈ l, 1 ≤ z ∧ z ≤ 6) {v v' : Nat} {x x' : Int} (a : VX l v x) (b : VX l v' x') (e : fv l v x = fv l v' x') : v = v' ∧ x = x' := by
 obtain ⟨z, hz, x0, x1⟩ := a
 obtain ⟨z', hz', y0, y1⟩ := b
 unfold fv at e
 by_cases c : v < v'
 · have := sum_mono h c hz; omega
 · by_cases c2 : v' < v
   · have := sum_mono h c2 hz'; omega
   · have : v = v' := by omega
     subst this
     exact ⟨rfl, by omega⟩
theorem fv_lt {l : List Int} (h : ∀ z ∈ l, 1 ≤ z ∧ z ≤ 6) {v v' : Nat} {x x' : Int} (a : VX l v x) (b : VX l v' x') (c : v < v') : fv l v x < fv l v' x' := by
 obtain ⟨z, hz, x0, x1⟩ := a
 obtain ⟨z', hz', y0, y1⟩ := b
 have := sum_mono h c hz
 unfold fv
 omega
theorem fv_rng {l : List Int} (h : ∀ z ∈ l, 1 ≤ z ∧ z ≤ 6) {v : Nat} {x : Int} (a : VX l v x) : 0 ≤ fv l v x ∧ fv l v x < sumL l := by
 obtain ⟨z, hz, x0, x1⟩ := a
 have h1 := sumL_nonneg (l := l.take v) fun z hz => h z (List.mem_of_mem_take hz)
 have h2 := sum_mono h (get_lt hz) hz
 rw [List.take_length] at h2
 unfold fv
 omega
theorem bAt_fv {l : List Int} {v : Nat} (h : v < l.length) : bAt (baseFrom 0 l) (v : Int) = sumL (l.take v) := by
 unfold bAt
 rw [show ((v : Int)).toNat = v from by omega, base_get l 0 v h]
 simp
theorem as_vx {sizes : List Int} {l : List Asg} (h : asB sizes l = true) : ∀ a ∈ l, VX sizes a.var.toNat a.value ∧ 0 ≤ a.var := by
 intro a ha
 obtain ⟨i, hi, e⟩ := List.getElem_of_mem ha
 obtain ⟨h1, z, hz, h2, h3⟩ := asB_idx h i a (by rw [← e]; exact List.getElem?_eq_getElem hi)
 exact ⟨⟨z, hz, h2, h3⟩, (asB_in h a ha).1⟩
theorem fact_fv {sizes : List Int} {l : List Asg} (h : asB sizes l = true) {a : Asg} (ha : a ∈ l) : factAt (baseFrom 0 sizes) a = fv sizes a.var.toNat a.value := by
 have h1 := asB_in h a ha
 unfold factAt fv
 rw [show a.var = ((a.var.toNat : Nat) : Int) from by omega, bAt_fv (by omega), show ((a.var.toNat : Nat) : Int).toNat = a.var.toNat from by omega]
def asgB (l : List Asg) (v x : Int) : Bool := l.any fun a => decide (a.var = v) && decide (a.value = x)
def setsB (l : List Asg) (v : Int) : Bool := l.any fun a => decide (a.var = v)
theorem has_map {sizes : List Int} (hz : ∀ z ∈ sizes, 1 ≤ z ∧ z ≤ 6) {l : List Asg} (h : asB sizes l = true) {v : Nat} {x : Int} (hv : VX sizes v x) : decide (fv sizes v x ∈ l.map (factAt (baseFrom 0 sizes))) = asgB l v x := by
 rw [Bool.eq_iff_iff]
 unfold asgB
 simp only [decide_eq_true_eq, List.mem_map, List.any_eq_true, Bool.and_eq_true]
 constructor
 · rintro ⟨a, ha, e⟩
   obtain ⟨h1, h2⟩ := as_vx h a ha
   rw [fact_fv h ha] at e
   obtain ⟨e1, e2⟩ := fv_inj hz h1 hv e
   exact ⟨a, ha, by omega, e2⟩
 · rintro ⟨a, ha, e1, e2⟩
   refine ⟨a, ha, ?_⟩
   rw [fact_fv h ha, e2, show a.var.toNat = v from by omega]
theorem asB_sorted {sizes : List Int} {l : List Asg} (h : asB sizes l = true) : l.Pairwise fun a b => a.var < b.var := by
 have adj : ∀ (i : Nat) (a b : Asg), l[i]? = some a → l[i + 1]? = some b → a.var < b.var := by
  intro i a b ha hb
  have := allN_get h (get_lt hb)
  unfold asAt at this
  rw [hb] at this
  simp only at this
  split at this
  · cases this
  · simp only [Bool.and_eq_true, decide_eq_true_eq, Bool.or_eq_true] at this
    rcases this.2 with e | e
    · omega
    · simp [asPrev, ha] at e; exact e
 have key : ∀ l : List Asg, (∀ (i : Nat) (a b : Asg), l[i]? = some a → l[i + 1]? = some b → a.var < b.var) → l.Pairwise fun a b => a.var < b.var := by
  intro l
  induction l with
  | nil => intro _; exact List.Pairwise.nil
  | cons x r ih =>
   intro h
   have ih' := ih fun i a b h1 h2 => h (i + 1) a b h1 h2
   refine List.Pairwise.cons ?_ ih'
   cases r with
   | nil => intro z hz; simp at hz
   | cons y r =>
    have hxy := h 0 x y rfl rfl
    intro z hz
    rcases List.mem_cons.1 hz with rfl | hz
    · exact hxy
    · exact Int.lt_trans hxy ((List.pairwise_cons.1 ih').1 z hz)
 exact key l adj
theorem asB_uniq {sizes : List Int} {l : List Asg} (h : asB sizes l = true) {a b : Asg} (ha : a ∈ l) (hb : b ∈ l) (e : a.var = b.var) : a = b := by
 have hs := asB_sorted h
 obtain ⟨i, hi, e1⟩ := List.getElem_of_mem ha
 obtain ⟨j, hj, e2⟩ := List.getElem_of_mem hb
 by_cases c : i < j
 · have := List.pairwise_iff_getElem.1 hs i j hi hj c
   rw [e1, e2] at this; omega
 · by_cases c2 : j < i
   · have := List.pairwise_iff_getElem.1 hs j i hj hi c2
     rw [e1, e2] at this; omega
   · have : i = j := by omega
     subst this
     rw [← e1, ← e2]
theorem mem_delA {sizes : List Int} {a : Asg} (hv : VX sizes a.var.toNat a.value) (h0 : 0 ≤ a.var) (p : Int) : p ∈ delA (baseFrom 0 sizes) sizes a ↔ ∃ y : Int, VX sizes a.var.toNat y ∧ y ≠ a.value ∧ p = fv sizes a.var.toNat y := by
 obtain ⟨z, hz, x0, x1⟩ := hv
 have hb : bAt (baseFrom 0 sizes) a.var = sumL (sizes.take a.var.toNat) := by
  rw [show a.var = ((a.var.toNat : Nat) : Int) from by omega, bAt_fv (get_lt hz), show ((a.var.toNat : Nat) : Int).toNat = a.var.toNat from by omega]
 unfold delA delK
 rw [hz, hb]
 simp only [Option.getD_some, List.mem_map, List.mem_filter, List.mem_range, decide_eq_true_eq, ne_eq]
 constructor
 · rintro ⟨y, ⟨h1, h2⟩, rfl⟩
   exact ⟨y, ⟨z, hz, by omega, by omega⟩, h2, rfl⟩
 · rintro ⟨y, ⟨z', hz', h1, h2⟩, h3, rfl⟩
   rw [hz] at hz'
   cases hz'
   refine ⟨y.toNat, ⟨by omega, by omega⟩, ?_⟩
   unfold fv
   omega
theorem has_dels {sizes : List Int} (hz : ∀ z ∈ sizes, 1 ≤ z ∧ z ≤ 6) {l : List Asg} (h : asB sizes l = true) {v : Nat} {x : Int} (hv : VX sizes v x) : decide (fv sizes v x ∈ dels (baseFrom 0 sizes) sizes l) = (setsB l v && !asgB l v x) := by
 rw [Bool.eq_iff_iff]
 unfold dels setsB asgB
 simp only [decide_eq_true_eq, List.mem_flatMap, List.any_eq_true, Bool.and_eq_true, Bool.not_eq_true', List.any_eq_false]
 constructor
 · rintro ⟨a, ha, hm⟩
   obtain ⟨h1, h2⟩ := as_vx h a ha
   obtain ⟨y, hy, hne, e⟩ := (mem_delA h1 h2 _).1 hm
   obtain ⟨e1, e2⟩ := fv_inj hz hv hy e
   refine ⟨⟨a, ha, by omega⟩, fun b hb => ?_⟩
   rintro ⟨c, e3⟩
   have := asB_uniq h hb ha (by omega)
   subst this
   exact hne (by rw [← e2, e3])
 · rintro ⟨⟨a, ha, e1⟩, h2⟩
   obtain ⟨h3, h4⟩ := as_vx h a ha
   refine ⟨a, ha, (mem_delA h3 h4 _).2 ⟨x, by rw [show a.var.toNat = v from by omega]; exact hv, fun e => ?_, by rw [show a.var.toNat = v from by omega]⟩⟩
   exact h2 a ha ⟨e1, e.symm⟩
theorem st_vx {m : MTask} (hv : MV m) {v : Nat} {x : Int} (hx : m.init[v]? = some x) : VX m.sizes v x := by
 have h := hv.init
 unfold stB at h
 simp only [Bool.and_eq_true] at h
 have := allN_get h.2 (get_lt hx)
 unfold stAt at this
 rw [hx] at this
 split at this
 · rename_i x' z h1 h2
   cases h1
   simp at this
   exact ⟨z, h2, this.1, this.2⟩
 · cases this
theorem init_eq {m : MTask} (hv : MV m) : (mStrips m).init = (List.range m.init.length).map fun v => fv m.sizes v ((m.init[v]?).getD 0) := by
 have hil : m.init.length = m.sizes.length := stB_len hv.init
 show initK (baseFrom 0 m.sizes) m.init m.init.length = _
 unfold initK
 refine List.map_congr_left fun v hm => ?_
 have : v < m.init.length := List.mem_range.1 hm
 rw [bAt_fv (by omega)]
 rfl
theorem map_ss {sizes : List Int} (hz : ∀ z ∈ sizes, 1 ≤ z ∧ z ≤ 6) {l : List Asg} (h : asB sizes l = true) : IsSet (sumL sizes) (l.map (factAt (baseFrom 0 sizes))) := by
 refine ⟨?_, fun p hp => ?_⟩
 · unfold SS
   rw [List.pairwise_map]
   refine List.Pairwise.imp_of_mem (fun {a b} ha hb hab => ?_) (asB_sorted h)
   obtain ⟨h1, h2⟩ := as_vx h a ha
   obtain ⟨h3, h4⟩ := as_vx h b hb
   rw [fact_fv h ha, fact_fv h hb]
   exact fv_lt hz h1 h3 (by omega)
 · obtain ⟨a, ha, rfl⟩ := List.mem_map.1 hp
   rw [fact_fv h ha]
   exact fv_rng hz (as_vx h a ha).1
theorem dels_ss {sizes : List Int} (hz : ∀ z ∈ sizes, 1 ≤ z ∧ z ≤ 6) {l : List Asg} (h : asB sizes l = true) : IsSet (sumL sizes) (dels (baseFrom 0 sizes) sizes l) := by
 refine ⟨?_, fun p hp => ?_⟩
 · unfold SS dels
   rw [List.pairwise_flatMap]
   refine ⟨fun a ha => ?_, List.Pairwise.imp_of_mem (fun {a b} ha hb hab => ?_) (asB_sorted h)⟩
   · unfold delA delK
     rw [List.pairwise_map]
     refine List.Pairwise.filter _ (List.Pairwise.imp (fun {x y} hxy => ?_) List.pairwise_lt_range)
     omega
   · intro p hp q hq
     obtain ⟨h1, h2⟩ := as_vx h a ha
     obtain ⟨h3, h4⟩ := as_vx h b hb
     obtain ⟨y, hy, _, rfl⟩ := (mem_delA h1 h2 p).1 hp
     obtain ⟨y', hy', _, rfl⟩ := (mem_delA h3 h4 q).1 hq
     exact fv_lt hz hy hy' (by omega)
 · obtain ⟨a, ha, hm⟩ := List.mem_flatMap.1 hp
   obtain ⟨h1, h2⟩ := as_vx h a ha
   obtain ⟨y, hy, _, rfl⟩ := (mem_delA h1 h2 p).1 hm
   exact fv_rng hz hy
theorem add_del {sizes : List Int} (hz : ∀ z ∈ sizes, 1 ≤ z ∧ z ≤ 6) {l : List Asg} (h : asB sizes l = true) : ∀ p ∈ l.map (factAt (baseFrom 0 sizes)), p ∉ dels (baseFrom 0 sizes) sizes l := by
 intro p hp hd
 obtain ⟨a, ha, rfl⟩ := List.mem_map.1 hp
 obtain ⟨b, hb, hm⟩ := List.mem_flatMap.1 hd
 obtain ⟨h1, h2⟩ := as_vx h a ha
 obtain ⟨h3, h4⟩ := as_vx h b hb
 obtain ⟨y, hy, hne, e⟩ := (mem_delA h3 h4 _).1 hm
 rw [fact_fv h ha] at e
 obtain ⟨e1, e2⟩ := fv_inj hz h1 hy e
 have := asB_uniq h ha hb (by omega)
 subst this
 exact hne e2.symm
theorem mStrips_sv {m : MTask} (hv : MV m) (hsm : sumL m.sizes ≤ 24) : SV (mStrips m) where
 f0 := sumL_nonneg hv.rng
 f1 := hsm
 init := by
  rw [init_eq hv]
  have hil : m.init.length = m.sizes.length := stB_len hv.init
  refine ⟨?_, fun p hp => ?_⟩
  · unfold SS
    rw [List.pairwise_map]
    refine List.Pairwise.imp_of_mem (fun {a b} ha hb hab => ?_) (List.pairwise_lt_range (n := m.init.length))
    obtain ⟨x, hx⟩ := get_some (List.mem_range.1 ha)
    obtain ⟨y, hy⟩ := get_some (List.mem_range.1 hb)
    rw [hx, hy]
    exact fv_lt hv.rng (st_vx hv hx) (st_vx hv hy) hab
  · obtain ⟨a, ha, rfl⟩ := List.mem_map.1 hp
    obtain ⟨x, hx⟩ := get_some (List.mem_range.1 ha)
    rw [hx]
    exact fv_rng hv.rng (st_vx hv hx)
 goal := map_ss hv.rng hv.goal
 opl := by
  show (m.ops.map _).length ≤ 40
  rw [List.length_map]; exact hv.opl
 op := fun o ho => by
  obtain ⟨q, hq, rfl⟩ := List.mem_map.1 ho
  obtain ⟨p1, p2, p3, p4⟩ := hv.op q hq
  exact ⟨map_ss hv.rng p1, map_ss hv.rng p2, dels_ss hv.rng p2, add_del hv.rng p2, p3, p4⟩
def stepS (t : STask) (s : List Int) (op : Int) : Option (List Int) := match t.ops[op.toNat]? with
 | some o => if inclB o.pre s = true then some (updL s o.add o.del) else none
 | none => none
def runT (t : STask) : List Int → List Int → List (List Int)
 | _, [] => []
 | s, op :: r => match stepS t s op with
   | some s' => s' :: runT t s' r
   | none => []
def endS (t : STask) : List Int → List Int → Option (List Int)
 | s, [] => some s
 | s, op :: r => match stepS t s op with
   | some s' => endS t s' r
   | none => none
theorem run_get (t : STask) : ∀ (plan s : List Int), (s :: runT t s plan)[plan.length]? = endS t s plan
 | [], s => rfl
 | op :: r, s => by
  simp only [runT, endS]
  cases h : stepS t s op with
  | none => simp
  | some s' => simpa using run_get t r s'
theorem run_len_le (t : STask) : ∀ (plan s : List Int), (runT t s plan).length ≤ plan.length
 | [], s => by simp [runT]
 | op :: r, s => by
  simp only [runT]
  cases h : stepS t s op with
  | none => simp
  | some s' => have := run_len_le t r s'; simp; omega
theorem run_len_eq (t : STask) (plan s : List Int) : (runT t s plan).length = plan.length ↔ (endS t s plan).isSome = true := by
 rw [← run_get]
 have := run_len_le t plan s
 constructor
 · intro h
   rw [List.getElem?_eq_getElem (by simp; omega)]
   rfl
 · intro h
   obtain ⟨e, he⟩ := Option.isSome_iff_exists.1 h
   have := get_lt he
   simp at this
   omega
def worksB (t : STask) (s plan : List Int) : Bool := match endS t s plan with
 | some e => inclB t.goal e
 | none => false
def costAtS (t : STask) (op : Int) : Int := match t.ops[op.toNat]? with
 | some o => o.cost
 | none => 0
def costS (t : STask) : List Int → Int
 | [] => 0
 | op :: r => costAtS t op + costS t r
theorem stepS_set {t : STask} (hv : SV t) {s s' : List Int} {op : Int} (hs : IsSet t.facts s) (h : stepS t s op = some s') : IsSet t.facts s' := by
 unfold stepS at h
 split at h
 · rename_i o ho
   split at h
   · cases h
     exact updL_set hs (hv.op o (mem_get ho)).add
   · cases h
 · cases h
theorem endS_set {t : STask} (hv : SV t) : ∀ (plan s e : List Int), IsSet t.facts s → endS t s plan = some e → IsSet t.facts e
 | [], s, e, hs, h => by cases h; exact hs
 | op :: r, s, e, hs, h => by
  simp only [endS] at h
  cases h2 : stepS t s op with
  | none => rw [h2] at h; cases h
  | some s' => rw [h2] at h; exact endS_set hv r s' e (stepS_set hv hs h2) h
theorem stepS_op {t : STask} {s : List Int} {op : Int} {o : SOp} (ho : t.ops[op.toNat]? = some o) : stepS t s op = if inclB o.pre s = true then some (updL s o.add o.del) else none := by
 unfold stepS; rw [ho]
def stS (sizes s : List Int) : List Int := (List.range s.length).map fun v => fv sizes v ((s[v]?).getD 0)
theorem vx_st {sizes s : List Int} (h : stB sizes s = true) {v : Nat} {x : Int} (hx : s[v]? = some x) : VX sizes v x := by
 unfold stB at h
 simp only [Bool.and_eq_true] at h
 have := allN_get h.2 (get_lt hx)
 unfold stAt at this
 rw [hx] at this
 split at this
 · rename_i x' z h1 h2
   cases h1
   simp at this
   exact ⟨z, h2, this.1, this.2⟩
 · cases this
theorem stB_of {sizes s : List Int} (hl : s.length = sizes.length) (h : ∀ (v : Nat) (x : Int), s[v]? = some x → VX sizes v x) : stB sizes s = true := by
 unfold stB
 rw [Bool.and_eq_true]
 refine ⟨decide_eq_true hl, allN_ok fun v hv => ?_⟩
 obtain ⟨x, hx⟩ := get_some hv
 obtain ⟨z, hz, h0, h1⟩ := h v x hx
 unfold stAt
 rw [hx, hz]
 simp [h0, h1]
theorem mem_stS {sizes s : List Int} (hz : ∀ z ∈ sizes, 1 ≤ z ∧ z ≤ 6) (h : stB sizes s = true) {v : Nat} {x : Int} (hv : VX sizes v x) : fv sizes v x ∈ stS sizes s ↔ s[v]? = some x := by
 unfold stS
 simp only [List.mem_map, List.mem_range]
 constructor
 · rintro ⟨u, hu, e⟩
   obtain ⟨y, hy⟩ := get_some hu
   rw [hy] at e
   obtain ⟨e1, e2⟩ := fv_inj hz (vx_st h hy) hv e
   subst e1
   rw [hy]
   exact congrArg some e2
 · intro e
   exact ⟨v, get_lt e, by rw [e]; rfl⟩
theorem stS_vx {sizes s : List Int} (h : stB sizes s = true) {p : Int} (hp : p ∈ stS sizes s) : ∃ v x, VX sizes v x ∧ p = fv sizes v x := by
 unfold stS at hp
 simp only [List.mem_map, List.mem_range] at hp
 obtain ⟨u, hu, e⟩ := hp
 obtain ⟨y, hy⟩ := get_some hu
 rw [hy] at e
 exact ⟨u, y, vx_st h hy, e.symm⟩
theorem stS_ss {sizes s : List Int} (hz : ∀ z ∈ sizes, 1 ≤ z ∧ z ≤ 6) (h : stB sizes s = true) : SS (stS sizes s) := by
 unfold SS stS
 rw [List.pairwise_map]
 refine List.Pairwise.imp_of_mem (fun {a b} ha hb hab => ?_) (List.pairwise_lt_range (n := s.length))
 obtain ⟨x, hx⟩ := get_some (List.mem_range.1 ha)
 obtain ⟨y, hy⟩ := get_some (List.mem_range.1 hb)
 rw [hx, hy]
 exact fv_lt hz (vx_st h hx) (vx_st h hy) hab
theorem incl_holds {sizes s : List Int} (hz : ∀ z ∈ sizes, 1 ≤ z ∧ z ≤ 6) (h : stB sizes s = true) {l : List Asg} (hl : asB sizes l = true) : inclB (l.map (factAt (baseFrom 0 sizes))) (stS sizes s) = holds s l := by
 have key : ∀ a ∈ l, decide (factAt (baseFrom 0 sizes) a ∈ stS sizes s) = holdAt s a := fun a ha => by
  obtain ⟨h1, h2⟩ := as_vx hl a ha
  rw [fact_fv hl ha, Bool.eq_iff_iff, decide_eq_true_eq, mem_stS hz h h1]
  unfold holdAt szAt
  rw [if_neg (by omega)]
  cases hg : s[a.var.toNat]? with
  | none => simp
  | some y => simp
 unfold inclB holds
 rw [List.all_map, Bool.eq_iff_iff, List.all_eq_true, List.all_eq_true]
 constructor
 · intro q a ha
   rw [← key a ha]; exact q a ha
 · intro q a ha
   show decide (factAt (baseFrom 0 sizes) a ∈ stS sizes s) = true
   rw [key a ha]; exact q a ha
theorem setAll_out : ∀ (l : List Asg) (s : List Int) (v : Nat), (∀ a ∈ l, a.var.toNat ≠ v) → (setAll s l)[v]? = s[v]?
 | [], _, _, _ => rfl
 | a :: l, s, v, h => by
  show (setAll (s.set a.var.toNat a.value) l)[v]? = _
  rw [setAll_out l _ v fun b hb => h b (by simp [hb]), List.getElem?_set_ne (h a (by simp))]
theorem setAll_in : ∀ (l : List Asg) (s : List Int) (a : Asg), l.Pairwise (fun a b => a.var < b.var) → (∀ b ∈ l, 0 ≤ b.var ∧ b.var < s.length) → a ∈ l → (setAll s l)[a.var.toNat]? = some a.value
 | [], _, _, _, _, h => by simp at h
 | b :: l, s, a, hp, hr, h => by
  have hp' := List.pairwise_cons.1 hp
  show (setAll (s.set b.var.toNat b.value) l)[a.var.toNat]? = _
  rcases List.mem_cons.1 h with rfl | h
  · have := hr a (by simp)
    rw [setAll_out l _ _ fun c hc => by have := hp'.1 c hc; omega, List.getElem?_set_self (by omega)]
  · exact setAll_in l _ a hp'.2 (fun c hc => by have := hr c (by simp [hc]); simpa using this) h
theorem setAll_st {sizes s : List Int} (h : stB sizes s = true) {l : List Asg} (hl : asB sizes l = true) : stB sizes (setAll s l) = true := by
 have hlen := stB_len h
 refine stB_of (by rw [setAll_len]; exact hlen) fun v x hx => ?_
 by_cases c : ∃ a ∈ l, a.var.toNat = v
 · obtain ⟨a, ha, rfl⟩ := c
   have hin := asB_in hl
   rw [setAll_in l s a (asB_sorted hl) (fun b hb => by have := hin b hb; omega) ha] at hx
   cases hx
   exact (as_vx hl a ha).1
 · rw [setAll_out l s v fun a ha e => c ⟨a, ha, e⟩] at hx
   exact vx_st h hx
theorem upd_sim {sizes s : List Int} (hz : ∀ z ∈ sizes, 1 ≤ z ∧ z ≤ 6) (h : stB sizes s = true) {l : List Asg} (hl : asB sizes l = true) : updL (stS sizes s) (l.map (factAt (baseFrom 0 sizes))) (dels (baseFrom 0 sizes) sizes l) = stS sizes (setAll s l) := by
 have hlen := stB_len h
 have hin := asB_in hl
 have h' := setAll_st h hl
 have key : ∀ (v : Nat) (x : Int), VX sizes v x → (fv sizes v x ∈ updL (stS sizes s) (l.map (factAt (baseFrom 0 sizes))) (dels (baseFrom 0 sizes) sizes l) ↔ fv sizes v x ∈ stS sizes (setAll s l)) := fun v x hv => by
  have e1 := has_map hz hl hv
  have e2 := has_dels hz hl hv
  rw [updL_mem, mem_stS hz h hv, mem_stS hz h' hv]
  have e1' : fv sizes v x ∈ l.map (factAt (baseFrom 0 sizes)) ↔ asgB l v x = true := by rw [← e1, decide_eq_true_eq]
  have e2' : fv sizes v x ∈ dels (baseFrom 0 sizes) sizes l ↔ (setsB l v && !asgB l v x) = true := by rw [← e2, decide_eq_true_eq]
  rw [e1', e2']
  by_cases c : ∃ a ∈ l, a.var.toNat = v
  · obtain ⟨a, ha, rfl⟩ := c
    have ha0 := (hin a ha).1
    rw [setAll_in l s a (asB_sorted hl) (fun b hb => by have := hin b hb; omega) ha]
    have hs : setsB l ((a.var.toNat : Nat) : Int) = true := List.any_eq_true.2 ⟨a, ha, by simp; omega⟩
    have hg : asgB l ((a.var.toNat : Nat) : Int) x = true ↔ a.value = x := by
     unfold asgB
     rw [List.any_eq_true]
     constructor
     · rintro ⟨b, hb, e⟩
       simp only [Bool.and_eq_true, decide_eq_true_eq] at e
       have := asB_uniq hl ha hb (by omega)
       subst this
       exact e.2
     · intro e
       exact ⟨a, ha, by simp only [Bool.and_eq_true, decide_eq_true_eq]; exact ⟨by omega, e⟩⟩
    rw [hs, hg]
    constructor
    · rintro (⟨_, h2⟩ | e)
      · have : asgB l ((a.var.toNat : Nat) : Int) x = true := by
         cases hq : asgB l ((a.var.toNat : Nat) : Int) x with
         | true => rfl
         | false => rw [hq] at h2; simp at h2
        rw [hg.1 this]
      · rw [e]
    · intro e
      cases e
      exact .inr rfl
  · have hs : setsB l (v : Int) = false := by
     unfold setsB
     rw [List.any_eq_false]
     intro a ha e
     have := hin a ha
     exact c ⟨a, ha, by simp at e; omega⟩
    have hg : asgB l (v : Int) x = false := by
     unfold asgB
     rw [List.any_eq_false]
     intro a ha e
     have := hin a ha
     simp only [Bool.and_eq_true, decide_eq_true_eq] at e
     exact c ⟨a, ha, by omega⟩
    rw [hs, hg, setAll_out l s v fun a ha e => c ⟨a, ha, e⟩]
    simp
 refine ss_ext (updL_ss _ _ _) (stS_ss hz h') fun p => ⟨fun hp => ?_, fun hp => ?_⟩
 · have : ∃ v x, VX sizes v x ∧ p = fv sizes v x := by
    rcases updL_mem.1 hp with q | q
    · exact stS_vx h q.1
    · obtain ⟨a, ha, rfl⟩ := List.mem_map.1 q
      exact ⟨_, _, (as_vx hl a ha).1, fact_fv hl ha⟩
   obtain ⟨v, x, hv, rfl⟩ := this
   exact (key v x hv).1 hp
 · obtain ⟨v, x, hv, rfl⟩ := stS_vx h' hp
   exact (key v x hv).2 hp
theorem init_sim {m : MTask} (hv : MV m) : (mStrips m).init = stS m.sizes m.init := init_eq hv
abbrev W32 := BitVec 32
def u32V (w : W32) : V := .int .u32 w.toNat
def bit (p : Int) : W32 := BitVec.ofNat 32 (2 ^ (min p.toNat 32))
def wordG (a : W32) : List Int → W32
 | [] => a
 | p :: r => wordG (a ||| bit p) r
def word (s : List Int) : W32 := wordG 0 s
theorem wordG_snoc (a : W32) : ∀ (l : List Int) (p : Int), wordG a (l ++ [p]) = wordG a l ||| bit p
 | [], p => rfl
 | x :: l, p => wordG_snoc (a ||| bit x) l p
theorem wordG_bit (a : W32) (q : Nat) (hq : q < 32) : ∀ s : List Int, (∀ p ∈ s, 0 ≤ p ∧ p < 32) → (wordG a s).getLsbD q = (a.getLsbD q || decide ((q : Int) ∈ s))
 | [], _ => by simp [wordG]
 | p :: r, h => by
  have hp := h p (by simp)
  rw [wordG, wordG_bit _ q hq r fun x hx => h x (by simp [hx])]
  have hb : (bit p).getLsbD q = decide ((q : Int) = p) := by
   unfold bit
   have e : min p.toNat 32 = p.toNat := by omega
   rw [e, BitVec.getLsbD_ofNat, Nat.testBit_two_pow]
   simp only [hq, decide_true, Bool.true_and]
   by_cases c : (q : Int) = p
   · have : p.toNat = q := by omega
     simp [this, c]
   · have : ¬ p.toNat = q := by omega
     simp [this, c]
  simp only [BitVec.getLsbD_or, hb, List.mem_cons, Bool.decide_or, Bool.or_assoc]
theorem word_bit (q : Nat) (hq : q < 32) (s : List Int) (h : ∀ p ∈ s, 0 ≤ p ∧ p < 32) : (word s).getLsbD q = decide ((q : Int) ∈ s) := by
 unfold word
 rw [wordG_bit 0 q hq s h]
 simp
def factsTo (w : W32) : Nat → List Int
 | 0 => []
 | n + 1 => factsTo w n ++ (if w.getLsbD n = true then [(n : Int)] else [])
def facts (w : W32) : List Int := factsTo w 32
theorem mem_factsTo (w : W32) : ∀ (n : Nat) (x : Int), x ∈ factsTo w n ↔ ∃ q : Nat, x = q ∧ q < n ∧ w.getLsbD q = true
 | 0, x => by simp [factsTo]
 | n + 1, x => by
  rw [factsTo, List.mem_append, mem_factsTo w n x]
  constructor
  · rintro (⟨q, h1, h2, h3⟩ | h)
    · exact ⟨q, h1, by omega, h3⟩
    · split at h
      · rename_i h3
        exact ⟨n, by simpa using h, by omega, h3⟩
      · simp at h
  · rintro ⟨q, h1, h2, h3⟩
    by_cases e : q = n
    · subst e
      right
      rw [if_pos h3]
      simp [h1]
    · exact .inl ⟨q, h1, by omega, h3⟩
theorem factsTo_lt (w : W32) (n : Nat) {x : Int} (h : x ∈ factsTo w n) : 0 ≤ x ∧ x < n := by
 obtain ⟨q, rfl, h2, _⟩ := (mem_factsTo w n x).1 h
 omega
theorem factsTo_ss (w : W32) : ∀ n, SS (factsTo w n)
 | 0 => List.Pairwise.nil
 | n + 1 => by
  rw [factsTo]
  refine List.pairwise_append.2 ⟨factsTo_ss w n, by split <;> simp, fun a ha b hb => ?_⟩
  split at hb
  · simp at hb; subst hb; exact (factsTo_lt w n ha).2
  · simp at hb
theorem word_facts (w : W32) : word (facts w) = w := by
 refine BitVec.eq_of_getLsbD_eq fun q hq => ?_
 rw [word_bit q hq (facts w) fun p hp => by have := factsTo_lt w 32 hp; omega]
 cases h : w.getLsbD q with
 | true => exact decide_eq_true ((mem_factsTo w 32 q).2 ⟨q, rfl, hq, h⟩)
 | false =>
  refine decide_eq_false fun hm => ?_
  obtain ⟨p, h1, _, h3⟩ := (mem_factsTo w 32 q).1 hm
  have : p = q := by omega
  subst this
  rw [h] at h3
  cases h3
theorem facts_inj {a b : W32} (h : facts a = facts b) : a = b := by rw [← word_facts a, h, word_facts]
structure Mk where
 pre : W32
 add : W32
 del : W32
 cost : Int
structure Wd where
 start : W32
 goal : W32
 ops : List Mk
def mkV (m : Mk) : V := .agg [u32V m.pre, u32V m.add, u32V m.del, .int .i64 m.cost]
def wdR (w : Wd) : V := .agg [u32V w.start, u32V w.goal, .sl .p (w.ops.map mkV)]
def mkOf (o : SOp) : Mk := ⟨word o.pre, word o.add, word o.del, o.cost⟩
def wdOf (t : STask) : Wd := ⟨word t.init, word t.goal, t.ops.map mkOf⟩
def Mk.can (m : Mk) (s : W32) : Bool := s &&& m.pre == m.pre
def Mk.next (m : Mk) (s : W32) : W32 := (s &&& ~~~ m.del) ||| m.add
def Wd.isGoal (w : Wd) (s : W32) : Bool := s &&& w.goal == w.goal
def stepsFrom (s : W32) : List Mk → Nat → List (Nat × Int × W32)
 | [], _ => []
 | m :: r, k => (if m.can s then [(k, m.cost, m.next s)] else []) ++ stepsFrom s r (k + 1)
def Wd.steps (w : Wd) (s : W32) : List (Nat × Int × W32) := stepsFrom s w.ops 0
def stV (e : Nat × Int × W32) : V := .agg [.int .i64 e.1, .int .i64 e.2.1, u32V e.2.2]
theorem u32_ofInt (w : W32) : BitVec.ofInt 32 (w.toNat : Int) = w := by
 rw [BitVec.ofInt_natCast, BitVec.ofNat_toNat]
 simp
theorem u32_wrap (w : W32) : IntKind.u32.wrap (w.toNat : Int) = w.toNat := wrap_id ⟨by omega, by have := w.isLt; omega⟩
inductive Reach (w : Wd) : W32 → Prop
 | start : Reach w w.start
 | step {s : W32} {e : Nat × Int × W32} (h : Reach w s) (he : e ∈ w.steps s) : Reach w e.2.2
def push1 (a : List W32 × List W32) (x : W32) : List W32 × List W32 := if x ∈ a.2 then a else (a.1 ++ [x], a.2 ++ [x])
def pushAll (a : List W32 × List W32) (l : List W32) : List W32 × List W32 := l.foldl push1 a
def succs (w : Wd) (s : W32) : List W32 := (w.steps s).map fun e => e.2.2
def allR (w : Wd) : Nat → List W32 → List W32 → List W32 → Option (List W32)
 | 0, _, _, _ => none
 | n + 1, st, sn, out => match st.getLast? with
   | none => some out
   | some s => if (pushAll (st.dropLast, sn) (succs w s)).2.length > 2000 then none
     else allR w n (pushAll (st.dropLast, sn) (succs w s)).1 (pushAll (st.dropLast, sn) (succs w s)).2 (out ++ [s])
def allF (w : Wd) : Option (List W32) := allR w 2002 [w.start] [w.start] []
theorem pushAll_ok : ∀ (l : List W32) (a : List W32 × List W32), a.2.Nodup → (∀ x ∈ a.1, x ∈ a.2) →
  (pushAll a l).2.Nodup ∧ (∀ x ∈ (pushAll a l).1, x ∈ (pushAll a l).2) ∧ (∀ x, x ∈ (pushAll a l).2 ↔ x ∈ a.2 ∨ x ∈ l) ∧ (∀ x, x ∈ a.2 → x ∈ (pushAll a l).2) ∧
  (∀ x, x ∈ (pushAll a l).1 ↔ x ∈ a.1 ∨ (x ∈ l ∧ x ∉ a.2)) ∧ (pushAll a l).1.length + a.2.length = a.1.length + (pushAll a l).2.length
 | [], a, h1, h2 => ⟨h1, h2, fun x => by simp [pushAll], fun x h => h, fun x => by simp [pushAll], rfl⟩
 | y :: l, a, h1, h2 => by
  show (pushAll (push1 a y) l).2.Nodup ∧ _
  by_cases hy : y ∈ a.2
  · have e : push1 a y = a := by unfold push1; rw [if_pos hy]
    obtain ⟨k1, k2, k3, k4, k5, k6⟩ := pushAll_ok l a h1 h2
    have e2 : pushAll a (y :: l) = pushAll a l := by show pushAll (push1 a y) l = _; rw [e]
    rw [e2, e]
    refine ⟨k1, k2, fun x => ?_, k4, fun x => ?_, k6⟩
    · rw [k3 x, List.mem_cons]
      constructor
      · rintro (h | h)
        · exact .inl h
        · exact .inr (.inr h)
      · rintro (h | rfl | h)
        · exact .inl h
        · exact .inl hy
        · exact .inr h
    · rw [k5 x, List.mem_cons]
      constructor
      · rintro (h | ⟨h, h'⟩)
        · exact .inl h
        · exact .inr ⟨.inr h, h'⟩
      · rintro (h | ⟨rfl | h, h'⟩)
        · exact .inl h
        · exact absurd hy h'
        · exact .inr ⟨h, h'⟩
  · have e : push1 a y = (a.1 ++ [y], a.2 ++ [y]) := by unfold push1; rw [if_neg hy]
    have e2 : pushAll a (y :: l) = pushAll (a.1 ++ [y], a.2 ++ [y]) l := by show pushAll (push1 a y) l = _; rw [e]
    obtain ⟨k1, k2, k3, k4, k5, k6⟩ := pushAll_ok l (a.1 ++ [y], a.2 ++ [y])
     (List.nodup_append.2 ⟨h1, by simp, fun x hx z hz => by simp at hz; subst hz; exact fun e => hy (e ▸ hx)⟩)
     (fun x hx => by
       rcases List.mem_append.1 hx with h | h
       · exact List.mem_append_left _ (h2 x h)
       · exact List.mem_append_right _ h)
    rw [e2, e]
    refine ⟨k1, k2, fun x => ?_, fun x h => k4 x (by simp [h]), fun x => ?_, by simp at k6; omega⟩
    · rw [k3 x]
      simp only [List.mem_append, List.mem_cons, List.not_mem_nil, or_false]
      constructor
      · rintro ((h | h) | h)
        · exact .inl h
        · exact .inr (.inl h)
        · exact .inr (.inr h)
      · rintro (h | h | h)
        · exact .inl (.inl h)
        · exact .inl (.inr h)
        · exact .inr h
    · rw [k5 x]
      simp only [List.mem_append, List.mem_cons, List.not_mem_nil, or_false, not_or]
      constructor
      · rintro ((h | rfl) | ⟨h, h', h''⟩)
        · exact .inl h
        · exact .inr ⟨.inl rfl, hy⟩
        · exact .inr ⟨.inr h, h'⟩
      · rintro (h | ⟨rfl | h, h'⟩)
        · exact .inl (.inl h)
        · exact .inl (.inr rfl)
        · by_cases c : x = y
          · exact .inl (.inr c)
          · exact .inr ⟨h, h', c⟩
structure AllInv (w : Wd) (st sn out : List W32) : Prop where
 nd : sn.Nodup
 ndo : out.Nodup
 ndst : st.Nodup
 ap : ∀ x ∈ st, x ∉ out
 mem : ∀ x, x ∈ sn ↔ x ∈ st ∨ x ∈ out
 reach : ∀ x ∈ sn, Reach w x
 start : w.start ∈ sn
 succ : ∀ s ∈ out, ∀ x ∈ succs w s, x ∈ sn
 len : st.length + out.length = sn.length
theorem pushAll_nd : ∀ (l : List W32) (a : List W32 × List W32), a.1.Nodup → (∀ x ∈ a.1, x ∈ a.2) → (pushAll a l).1.Nodup
 | [], a, h1, _ => h1
 | y :: l, a, h1, h2 => by
  show (pushAll (push1 a y) l).1.Nodup
  unfold push1
  split
  · exact pushAll_nd l a h1 h2
  · rename_i hy
    refine pushAll_nd l _ (List.nodup_append.2 ⟨h1, by simp, fun x hx z hz => ?_⟩) fun x hx => ?_
    · simp at hz
      subst hz
      exact fun e => hy (e ▸ h2 x hx)
    · rcases List.mem_append.1 hx with h | h
      · exact List.mem_append_left _ (h2 x h)
      · exact List.mem_append_right _ h
theorem allInv_step {w : Wd} {st sn out : List W32} {s : W32} (h : AllInv w (st ++ [s]) sn out) : AllInv w (pushAll (st, sn) (succs w s)).1 (pushAll (st, sn) (succs w s)).2 (out ++ [s]) := by
 have hsub : ∀ x ∈ st, x ∈ sn := fun x hx => (h.mem x).2 (.inl (List.mem_append_left _ hx))
 obtain ⟨k1, k2, k3, k4, k5, k6⟩ := pushAll_ok (succs w s) (st, sn) h.nd hsub
 have hst := List.nodup_append.1 h.ndst
 have hs : s ∈ sn := (h.mem s).2 (.inl (by simp))
 have hso : s ∉ out := h.ap s (by simp)
 have hss : s ∉ st := fun hm => hst.2.2 s hm s (by simp) rfl
 have hrs := h.reach s hs
 simp only at k3 k4 k5 k6
 have key : ∀ x, x ∈ (pushAll (st, sn) (succs w s)).2 ↔ x ∈ (pushAll (st, sn) (succs w s)).1 ∨ x ∈ out ++ [s] := fun x => by
  have hm := h.mem x
  rw [k3 x, k5 x]
  simp only [List.mem_append, List.mem_cons, List.not_mem_nil, or_false] at hm ⊢
  grind
 refine ⟨k1, ?_, pushAll_nd _ _ hst.1 hsub, ?_, key, ?_, k4 _ h.start, ?_, ?_⟩
 · refine List.nodup_append.2 ⟨h.ndo, by simp, fun x hx z hz => ?_⟩
   simp at hz
   subst hz
   exact fun e => hso (e ▸ hx)
 · intro x hx ho
   rcases (k5 x).1 hx with h1 | ⟨_, h1⟩
   · rcases List.mem_append.1 ho with h2 | h2
     · exact h.ap x (List.mem_append_left _ h1) h2
     · simp at h2
       subst h2
       exact hss h1
   · rcases List.mem_append.1 ho with h2 | h2
     · exact h1 ((h.mem x).2 (.inr h2))
     · simp at h2
       subst h2
       exact h1 hs
 · intro x hx
   rcases (k3 x).1 hx with h1 | h1
   · exact h.reach x h1
   · obtain ⟨e, he, rfl⟩ := List.mem_map.1 h1
     exact .step hrs he
 · intro u hu x hx
   rcases List.mem_append.1 hu with h1 | h1
   · exact k4 x (h.succ u h1 x hx)
   · simp at h1
     subst h1
     exact (k3 x).2 (.inr hx)
 · have := h.len
   simp only [List.length_append, List.length_singleton] at this ⊢
   omega
theorem allR_spec (w : Wd) : ∀ (n : Nat) (st sn out : List W32), AllInv w st sn out → sn.length ≤ 2000 → 2001 ≤ n + out.length →
  (∀ l, allR w n st sn out = some l → l.Nodup ∧ l.length ≤ 2000 ∧ ∀ s, s ∈ l ↔ Reach w s) ∧ (allR w n st sn out = none → ∃ l : List W32, l.Nodup ∧ 2000 < l.length ∧ ∀ s ∈ l, Reach w s)
 | 0, st, sn, out, h, hs, hn => by have := h.len; omega
 | n + 1, st, sn, out, h, hs, hn => by
  rcases List.eq_nil_or_concat st with rfl | ⟨st', s, rfl⟩
  · have hmem : ∀ s, s ∈ out ↔ Reach w s := fun s => by
     constructor
     · exact fun hm => h.reach s ((h.mem s).2 (.inr hm))
     · intro hr
       induction hr with
       | start => simpa using (h.mem _).1 h.start
       | step _ he ih => simpa using (h.mem _).1 (h.succ _ ih _ (List.mem_map.2 ⟨_, he, rfl⟩))
    have hl := h.len
    rw [show allR w (n + 1) [] sn out = some out from rfl]
    refine ⟨fun l e => ?_, fun e => by cases e⟩
    cases e
    exact ⟨h.ndo, by simp at hl; omega, hmem⟩
  · rw [List.concat_eq_append] at h ⊢
    have hI := allInv_step h
    have e : allR w (n + 1) (st' ++ [s]) sn out = if (pushAll (st', sn) (succs w s)).2.length > 2000 then none else allR w n (pushAll (st', sn) (succs w s)).1 (pushAll (st', sn) (succs w s)).2 (out ++ [s]) := by
     simp only [allR, List.getLast?_concat, List.dropLast_concat]
    rw [e]
    by_cases hbig : (pushAll (st', sn) (succs w s)).2.length > 2000
    · rw [if_pos hbig]
      exact ⟨fun l e => (by cases e), fun _ => ⟨_, hI.nd, hbig, hI.reach⟩⟩
    · rw [if_neg hbig]
      exact allR_spec w n _ _ _ hI (by omega) (by simp; omega)
theorem allF_spec (w : Wd) : (∀ l, allF w = some l → l.Nodup ∧ l.length ≤ 2000 ∧ ∀ s, s ∈ l ↔ Reach w s) ∧ (allF w = none → ∃ l : List W32, l.Nodup ∧ 2000 < l.length ∧ ∀ s ∈ l, Reach w s) :=
 allR_spec w 2002 [w.start] [w.start] [] ⟨by simp, by simp, by simp, by simp, by simp, fun x hx => by simp at hx; subst hx; exact .start, by simp, by simp, rfl⟩ (by simp) (by simp)
def INF : Int := 1000000000
inductive WayTo (w : Wd) : W32 → Int → Prop
 | goal {s : W32} (h : w.isGoal s = true) : WayTo w s 0
 | step {s : W32} {e : Nat × Int × W32} {c : Int} (he : e ∈ w.steps s) (h : WayTo w e.2.2 c) : WayTo w s (e.2.1 + c)
structure Least (w : Wd) (s : W32) (d : Int) : Prop where
 le : d ≤ INF
 low : ∀ c, WayTo w s c → d ≤ c
 att : d = INF ∨ WayTo w s d
theorem Least.le_of {w : Wd} {s : W32} {d d' : Int} (h : Least w s d) (h' : Least w s d') : d ≤ d' := by
 rcases h'.att with e | e
 · rw [e]; exact h.le
 · exact h.low _ e
theorem Least.uniq {w : Wd} {s : W32} {d d' : Int} (h : Least w s d) (h' : Least w s d') : d = d' := Int.le_antisymm (h.le_of h') (h'.le_of h)
def CostOk (w : Wd) : Prop := ∀ m ∈ w.ops, 0 ≤ m.cost ∧ m.cost ≤ 100
theorem stepsFrom_mem {s : W32} {e : Nat × Int × W32} : ∀ {l : List Mk} {k : Nat}, e ∈ stepsFrom s l k → ∃ i m, l[i]? = some m ∧ e = (k + i, m.cost, m.next s) ∧ m.can s = true
 | [], _, h => by cases h
 | m :: r, k, h => by
  rw [stepsFrom] at h
  rcases List.mem_append.1 h with h | h
  · split at h
    · rename_i hc
      simp at h
      exact ⟨0, m, rfl, h, hc⟩
    · cases h
  · obtain ⟨i, m', h1, h2, h3⟩ := stepsFrom_mem h
    exact ⟨i + 1, m', h1, by rw [h2, Nat.add_assoc, Nat.add_comm 1], h3⟩
theorem mem_stepsFrom {s : W32} {m : Mk} : ∀ {l : List Mk} {k i : Nat}, l[i]? = some m → m.can s = true → (k + i, m.cost, m.next s) ∈ stepsFrom s l k
 | [], _, _, h, _ => by cases h
 | m0 :: r, k, 0, h, hc => by
  cases h
  rw [stepsFrom, if_pos hc]
  simp
 | m0 :: r, k, i + 1, h, hc => by
  rw [stepsFrom]
  have := mem_stepsFrom (k := k + 1) (i := i) (l := r) h hc
  rw [show k + 1 + i = k + (i + 1) by omega] at this
  exact List.mem_append_right _ this
theorem step_cost {w : Wd} (hc : CostOk w) {s : W32} {e : Nat × Int × W32} (he : e ∈ w.steps s) : 0 ≤ e.2.1 ∧ e.2.1 ≤ 100 := by
 obtain ⟨i, m, h1, rfl, _⟩ := stepsFrom_mem he
 exact hc m (List.mem_of_getElem? h1)
theorem way_nn {w : Wd} (hc : CostOk w) {s : W32} {c : Int} (h : WayTo w s c) : 0 ≤ c := by
 induction h with
 | goal h => exact Int.le_refl _
 | step he _ ih => have := (step_cost hc he).1; omega
theorem min_nat {P : Nat → Prop} : ∀ n : Nat, P n → ∃ n, P n ∧ ∀ m, P m → n ≤ m := by
 intro n
 induction n using Nat.strongRecOn with
 | ind n ih =>
  intro h
  by_cases c : ∃ m, m < n ∧ P m
  · obtain ⟨m, h1, h2⟩ := c
    exact ih m h1 h2
  · exact ⟨n, h, fun m hm => Nat.le_of_not_lt fun hl => c ⟨m, hl, hm⟩⟩
theorem least_ex {w : Wd} (hc : CostOk w) (s : W32) : ∃ d, Least w s d := by
 by_cases c : ∃ n : Nat, (n : Int) ≤ INF ∧ WayTo w s n
 · obtain ⟨n, h1, h2⟩ := c
   obtain ⟨m, ⟨h3, h4⟩, h5⟩ := min_nat (P := fun n : Nat => (n : Int) ≤ INF ∧ WayTo w s n) n ⟨h1, h2⟩
   refine ⟨m, h3, fun c h => ?_, .inr h4⟩
   have h0 := way_nn hc h
   by_cases hl : c ≤ INF
   · have := h5 c.toNat ⟨by omega, by rw [show ((c.toNat : Nat) : Int) = c by omega]; exact h⟩
     omega
   · omega
 · refine ⟨INF, Int.le_refl _, fun d h => ?_, .inl rfl⟩
   have h0 := way_nn hc h
   refine Int.le_of_not_gt fun hl => c ⟨d.toNat, by omega, by rw [show ((d.toNat : Nat) : Int) = d by omega]; exact h⟩
theorem least_all {w : Wd} (hc : CostOk w) : ∃ D : W32 → Int, ∀ s, Least w s (D s) := ⟨fun s => (least_ex hc s).choose, fun s => (least_ex hc s).choose_spec⟩
abbrev Arc := W32 × W32 × Int
def arcsOf (w : Wd) (s : W32) : List Arc := (w.steps s).map fun e => (e.2.2, s, e.2.1)
def arcsL (w : Wd) : List W32 → List Arc
 | [] => []
 | s :: r => arcsOf w s ++ arcsL w r
theorem arcsL_append (w : Wd) : ∀ a b : List W32, arcsL w (a ++ b) = arcsL w a ++ arcsL w b
 | [], _ => rfl
 | s :: a, b => by rw [List.cons_append, arcsL, arcsL, arcsL_append w a b, List.append_assoc]
theorem mem_arcsL {w : Wd} {t u : W32} {c : Int} : ∀ {l : List W32}, (t, u, c) ∈ arcsL w l ↔ u ∈ l ∧ ∃ i, (i, c, t) ∈ w.steps u
 | [] => by simp [arcsL]
 | s :: r => by
  rw [arcsL, List.mem_append, mem_arcsL (l := r), arcsOf, List.mem_map, List.mem_cons]
  constructor
  · rintro (⟨⟨i, c', t'⟩, h1, h2⟩ | ⟨h1, h2⟩)
    · cases h2
      exact ⟨.inl rfl, i, h1⟩
    · exact ⟨.inr h1, h2⟩
  · rintro ⟨rfl | h1, i, h2⟩
    · exact .inl ⟨(i, c, t), h2, rfl⟩
    · exact .inr ⟨h1, i, h2⟩
def bkOf (A : List Arc) (t : W32) : List (W32 × Int) := (A.filter fun a => a.1 == t).map fun a => a.2
theorem mem_bkOf {A : List Arc} {t u : W32} {c : Int} : (u, c) ∈ bkOf A t ↔ (t, u, c) ∈ A := by
 unfold bkOf
 rw [List.mem_map]
 constructor
 · rintro ⟨⟨t', u', c'⟩, h1, h2⟩
   cases h2
   obtain ⟨h3, h4⟩ := List.mem_filter.1 h1
   have : t' = t := by simpa using h4
   exact this ▸ h3
 · intro h
   exact ⟨(t, u, c), List.mem_filter.2 ⟨h, by simp⟩, rfl⟩
theorem bkOf_snoc (A : List Arc) (a : Arc) (t : W32) : bkOf (A ++ [a]) t = bkOf A t ++ (if a.1 = t then [a.2] else []) := by
 unfold bkOf
 rw [List.filter_append, List.map_append]
 congr 1
 by_cases c : a.1 = t
 · simp [c]
 · simp [c]
def updO (o : W32 → Int) (x : W32) (v : Int) : W32 → Int := fun s => if s = x then v else o s
def sumO (o : W32 → Int) : List W32 → Nat
 | [] => 0
 | s :: r => (o s).toNat + sumO o r
theorem sumO_upd {o : W32 → Int} {x : W32} {v : Int} (h0 : 0 ≤ v) (h1 : v < o x) : ∀ {l : List W32}, sumO (updO o x v) l ≤ sumO o l ∧ (x ∈ l → sumO (updO o x v) l < sumO o l)
 | [] => ⟨Nat.le_refl _, fun h => by cases h⟩
 | s :: r => by
  obtain ⟨i1, i2⟩ := sumO_upd h0 h1 (l := r)
  simp only [sumO]
  by_cases c : s = x
  · have e : updO o x v s = v := by unfold updO; rw [if_pos c]
    rw [e, c]
    constructor
    · omega
    · intro _; omega
  · have e : updO o x v s = o s := by unfold updO; rw [if_neg c]
    rw [e]
    refine ⟨by omega, fun h => ?_⟩
    rcases List.mem_cons.1 h with h | h
    · exact absurd h.symm c
    · have := i2 h; omega
structure QInv (w : Wd) (l : List W32) (o : W32 → Int) (kv : List (W32 × Int)) (W : W32 → W32 → Int → Prop) : Prop where
 nn : ∀ s ∈ l, 0 ≤ o s
 le : ∀ s ∈ l, o s ≤ INF
 att : ∀ s ∈ l, o s = INF ∨ WayTo w s (o s)
 goal : ∀ s ∈ l, w.isGoal s = true → o s = 0
 key : ∀ p ∈ kv, p.1 ∈ l ∧ p.2 = o p.1 ∧ p.2 < INF
 nd : (kv.map Prod.fst).Nodup
 arcs : ∀ t u c, (t, u, c) ∈ arcsL w l → t ∈ kv.map Prod.fst ∨ o u ≤ o t + c ∨ W t u c
theorem QInv.perm {w : Wd} {l : List W32} {o : W32 → Int} {kv kv' : List (W32 × Int)} {W : W32 → W32 → Int → Prop} (h : QInv w l o kv W) (p : kv.Perm kv') : QInv w l o kv' W :=
 ⟨h.nn, h.le, h.att, h.goal, fun q hq => h.key q (p.mem_iff.2 hq), (p.map Prod.fst).nodup_iff.1 h.nd, fun t u c ha => (h.arcs t u c ha).imp (fun hm => (p.map Prod.fst).mem_iff.1 hm) id⟩
theorem QInv.take {w : Wd} {l : List W32} {o : W32 → Int} {kv : List (W32 × Int)} {s : W32} {d : Int} (h : QInv w l o ((s, d) :: kv) fun _ _ _ => False) :
  QInv w l o kv (fun t u c => t = s ∧ (u, c) ∈ bkOf (arcsL w l) s) ∧ s ∈ l ∧ d = o s ∧ d < INF := by
 obtain ⟨k1, k2, k3⟩ := h.key (s, d) (by simp)
 refine ⟨⟨h.nn, h.le, h.att, h.goal, fun p hp => h.key p (by simp [hp]), (List.nodup_cons.1 h.nd).2, fun t u c ha => ?_⟩, k1, k2, k3⟩
 rcases h.arcs t u c ha with h1 | h1 | h1
 · simp only [List.map_cons, List.mem_cons] at h1
   rcases h1 with rfl | h1
   · exact .inr (.inr ⟨rfl, mem_bkOf.2 ha⟩)
   · exact .inl h1
 · exact .inr (.inl h1)
 · exact h1.elim
theorem QInv.skip {w : Wd} {l : List W32} {o : W32 → Int} {kv : List (W32 × Int)} {s u : W32} {c : Int} {r : List (W32 × Int)} (h : QInv w l o kv (fun t u' c' => t = s ∧ (u', c') ∈ (u, c) :: r)) (hn : ¬ o s + c < o u) :
  QInv w l o kv (fun t u' c' => t = s ∧ (u', c') ∈ r) :=
 ⟨h.nn, h.le, h.att, h.goal, h.key, h.nd, fun t u' c' ha => by
  rcases h.arcs t u' c' ha with h1 | h1 | ⟨rfl, h1⟩
  · exact .inl h1
  · exact .inr (.inl h1)
  · rcases List.mem_cons.1 h1 with e | h1
    · cases e
      exact .inr (.inl (by omega))
    · exact .inr (.inr ⟨rfl, h1⟩)⟩
theorem QInv.relax {w : Wd} (hc : CostOk w) {l : List W32} {o : W32 → Int} {kv kv' : List (W32 × Int)} {s u : W32} {c : Int} {r : List (W32 × Int)} (h : QInv w l o kv (fun t u' c' => t = s ∧ (u', c') ∈ (u, c) :: r)) (hs : s ∈ l) (hA : (s, u, c) ∈ arcsL w l)
  (hlt : o s + c < o u) (hp : kv'.Perm ((u, o s + c) :: kv.filter fun p => p.1 != u)) :
  QInv w l (updO o u (o s + c)) kv' (fun t u' c' => t = s ∧ (u', c') ∈ r) ∧ updO o u (o s + c) s = o s ∧ u ∈ l ∧ 0 ≤ o s + c := by
 obtain ⟨hu, i, hst⟩ := mem_arcsL.1 hA
 have hcc := step_cost hc hst
 simp only at hcc
 have h0 := h.nn s hs
 have hne : s ≠ u := fun e => by rw [← e] at hlt; omega
 have hle := h.le u hu
 have e1 : ∀ x, x ≠ u → updO o u (o s + c) x = o x := fun x hx => by unfold updO; rw [if_neg hx]
 have e2 : updO o u (o s + c) u = o s + c := by unfold updO; rw [if_pos rfl]
 refine ⟨QInv.perm ?_ hp.symm, e1 s hne, hu, by omega⟩
 refine ⟨fun x hx => ?_, fun x hx => ?_, fun x hx => ?_, fun x hx hg => ?_, fun p hp => ?_, ?_, fun t u' c' ha => ?_⟩
 · by_cases e : x = u
   · subst e; rw [e2]; omega
   · rw [e1 x e]; exact h.nn x hx
 · by_cases e : x = u
   · subst e; rw [e2]; omega
   · rw [e1 x e]; exact h.le x hx
 · by_cases e : x = u
   · subst e
     rw [e2]
     refine .inr ?_
     have hw : WayTo w s (o s) := by
      rcases h.att s hs with e | e
      · omega
      · exact e
     have := WayTo.step (e := (i, c, s)) hst hw
     simp only at this
     rw [Int.add_comm]
     exact this
   · rw [e1 x e]; exact h.att x hx
 · by_cases e : x = u
   · subst e
     have := h.goal x hx hg
     omega
   · rw [e1 x e]; exact h.goal x hx hg
 · rcases List.mem_cons.1 hp with rfl | hp
   · exact ⟨hu, e2.symm, by show o s + c < INF; omega⟩
   · obtain ⟨h1, h2⟩ := List.mem_filter.1 hp
     have h3 : p.1 ≠ u := by simpa using h2
     obtain ⟨k1, k2, k3⟩ := h.key p h1
     exact ⟨k1, by rw [e1 _ h3]; exact k2, k3⟩
 · rw [List.map_cons, List.nodup_cons]
   refine ⟨fun hm => ?_, ?_⟩
   · obtain ⟨p, h1, h2⟩ := List.mem_map.1 hm
     have := (List.mem_filter.1 h1).2
     simp at this
     exact this h2
   · exact (List.Sublist.map Prod.fst List.filter_sublist).nodup h.nd
 · by_cases e : t = u
   · exact .inl (by simp [e])
   · rcases h.arcs t u' c' ha with h1 | h1 | ⟨rfl, h1⟩
     · obtain ⟨p, h2, h3⟩ := List.mem_map.1 h1
       refine .inl ?_
       rw [List.map_cons, List.mem_cons]
       refine .inr (List.mem_map.2 ⟨p, List.mem_filter.2 ⟨h2, ?_⟩, h3⟩)
       simpa [h3] using e
     · refine .inr (.inl ?_)
       rw [e1 t e]
       by_cases e3 : u' = u
       · subst e3; rw [e2]; omega
       · rw [e1 u' e3]; exact h1
     · rcases List.mem_cons.1 h1 with e4 | h1
       · cases e4
         refine .inr (.inl ?_)
         rw [e2, e1 _ hne]
         omega
       · exact .inr (.inr ⟨rfl, h1⟩)
theorem QInv.least {w : Wd} {l : List W32} {o : W32 → Int} (h : QInv w l o [] fun _ _ _ => False) (hcl : ∀ s ∈ l, ∀ e ∈ w.steps s, e.2.2 ∈ l) : ∀ s ∈ l, Least w s (o s) := by
 have key : ∀ s c, WayTo w s c → s ∈ l → o s ≤ c := by
  intro s c hw
  induction hw with
  | goal hg => intro hs; rw [h.goal _ hs hg]; omega
  | @step s e c he _ ih =>
   intro hs
   have ht := hcl s hs e he
   have := ih ht
   rcases h.arcs e.2.2 s e.2.1 (mem_arcsL.2 ⟨hs, e.1, he⟩) with h1 | h1 | h1
   · simp at h1
   · omega
   · exact h1.elim
 exact fun s hs => ⟨h.le s hs, fun c hw => key s c hw hs, h.att s hs⟩
def o0 (w : Wd) (s : W32) : Int := if w.isGoal s = true then 0 else INF
def kv0 (w : Wd) (l : List W32) : List (W32 × Int) := (l.filter w.isGoal).map fun s => (s, 0)
theorem QInv.start {w : Wd} (hc : CostOk w) {l : List W32} (hnd : l.Nodup) (hcl : ∀ s ∈ l, ∀ e ∈ w.steps s, e.2.2 ∈ l) {kv : List (W32 × Int)} (hp : kv.Perm (kv0 w l)) : QInv w l (o0 w) kv fun _ _ _ => False := by
 refine QInv.perm ?_ hp.symm
 have hg : ∀ s, w.isGoal s = true → o0 w s = 0 := fun s h => by unfold o0; rw [if_pos h]
 have hng : ∀ s, ¬ w.isGoal s = true → o0 w s = INF := fun s h => by unfold o0; rw [if_neg h]
 have hI : (0 : Int) < INF := by decide
 refine ⟨fun s _ => ?_, fun s _ => ?_, fun s _ => ?_, fun s _ h => hg s h, fun p hp => ?_, ?_, fun t u c ha => ?_⟩
 · by_cases h : w.isGoal s = true
   · rw [hg s h]; omega
   · rw [hng s h]; omega
 · by_cases h : w.isGoal s = true
   · rw [hg s h]; omega
   · rw [hng s h]; omega
 · by_cases h : w.isGoal s = true
   · rw [hg s h]; exact .inr (.goal h)
   · exact .inl (hng s h)
 · obtain ⟨s, h1, rfl⟩ := List.mem_map.1 hp
   obtain ⟨h2, h3⟩ := List.mem_filter.1 h1
   exact ⟨h2, (hg s h3).symm, hI⟩
 · unfold kv0
   rw [List.map_map]
   have : (Prod.fst ∘ fun s : W32 => (s, (0 : Int))) = id := rfl
   rw [this, List.map_id]
   exact List.filter_sublist.nodup hnd
 · obtain ⟨hu, i, hst⟩ := mem_arcsL.1 ha
   have hcc := (step_cost hc hst).1
   simp only at hcc
   have hm : t ∈ l := hcl u hu _ hst
   by_cases h : w.isGoal t = true
   · refine .inl ?_
     unfold kv0
     rw [List.map_map]
     exact List.mem_map.2 ⟨t, List.mem_filter.2 ⟨hm, h⟩, rfl⟩
   · refine .inr (.inl ?_)
     rw [hng t h]
     by_cases h2 : w.isGoal u = true
     · rw [hg u h2]; omega
     · rw [hng u h2]; omega
def wOrd (x y : W32) : Int := cmpL (facts x) (facts y)
theorem wOrd_neg (x y : W32) : wOrd y x = -wOrd x y := by
 unfold wOrd
 exact cmpL_neg _ _
theorem wOrd_zero {x y : W32} : wOrd x y = 0 ↔ x = y := by
 unfold wOrd
 exact ⟨fun h => facts_inj (cmpL_zero.1 h), fun h => by rw [h]; exact cmpL_zero.2 rfl⟩
theorem wOrd_trans {x y z : W32} (h1 : wOrd x y < 0) (h2 : wOrd y z < 0) : wOrd x z < 0 := by
 unfold wOrd at *
 exact cmpL_trans h1 h2
theorem w_sorted {a b : List W32} (p : a.Perm b) (ha : a.Pairwise fun x y => ¬ wOrd y x < 0) (hb : b.Pairwise fun x y => ¬ wOrd y x < 0) : a = b :=
 List.Perm.eq_of_pairwise (le := fun x y => ¬ wOrd y x < 0) (fun x y _ _ h1 h2 => by
  have := wOrd_neg x y
  exact wOrd_zero.1 (by omega)) ha hb p
def IsStates (w : Wd) (l : List W32) : Prop := l.Nodup ∧ l.length ≤ 2000 ∧ (∀ s, s ∈ l ↔ Reach w s) ∧ l.Pairwise fun x y => ¬ wOrd y x < 0
theorem IsStates.uniq {w : Wd} {a b : List W32} (ha : IsStates w a) (hb : IsStates w b) : a = b :=
 w_sorted ((List.perm_ext_iff_of_nodup ha.1 hb.1).2 fun s => (ha.2.2.1 s).trans (hb.2.2.1 s).symm) ha.2.2.2 hb.2.2.2
def srtW (l : List W32) : List W32 := l.mergeSort fun x y => decide (¬ wOrd y x < 0)
theorem srtW_ok {w : Wd} {l : List W32} (h : allF w = some l) : IsStates w (srtW l) := by
 obtain ⟨h1, h2, h3⟩ := (allF_spec w).1 l h
 have p : (srtW l).Perm l := List.mergeSort_perm l _
 refine ⟨p.nodup_iff.2 h1, by rw [p.length_eq]; exact h2, fun s => by rw [p.mem_iff]; exact h3 s, ?_⟩
 have hs := List.pairwise_mergeSort (le := fun x y => decide (¬ wOrd y x < 0)) (fun a b c h1 h2 => by
  simp only [decide_eq_true_eq] at *
  intro h3
  have n1 := wOrd_neg a b
  have n2 := wOrd_neg b c
  rcases Int.lt_or_eq_of_le (show wOrd a b ≤ 0 by omega) with e | e
  · exact h2 (wOrd_trans h3 e)
  · rw [wOrd_zero.1 e] at h3
    exact h2 h3) (fun a b => by
  have n1 := wOrd_neg a b
  simp only [Bool.or_eq_true, decide_eq_true_eq]
  omega) l
 exact hs.imp fun h => by simpa using h
theorem IsStates.closed {w : Wd} {l : List W32} (h : IsStates w l) : ∀ s ∈ l, ∀ e ∈ w.steps s, e.2.2 ∈ l := fun s hs e he => (h.2.2.1 _).2 (.step ((h.2.2.1 s).1 hs) he)
theorem wdOf_cost {t : STask} (h : SV t) : CostOk (wdOf t) := fun m hm => by
 obtain ⟨o, ho, rfl⟩ := List.mem_map.1 hm
 have := h.op o ho
 exact ⟨this.c0, this.c1⟩
def statesF (t : STask) : Option (List W32) := (allF (wdOf t)).map srtW
def In32 (l : List Int) : Prop := ∀ p ∈ l, 0 ≤ p ∧ p < 32
theorem in32_of {t : STask} (hv : SV t) {l : List Int} (h : IsSet t.facts l) : In32 l := fun p hp => by
 have := h.rng p hp
 have := hv.f1
 omega
theorem facts_word {s : List Int} (h : SS s) (h2 : In32 s) : facts (word s) = s := by
 refine ss_ext (factsTo_ss _ 32) h fun x => ?_
 unfold facts
 rw [mem_factsTo]
 constructor
 · rintro ⟨q, rfl, hq, hb⟩
   rw [word_bit q hq s h2] at hb
   exact of_decide_eq_true hb
 · intro hx
   obtain ⟨h0, h1⟩ := h2 x hx
   refine ⟨x.toNat, by omega, by omega, ?_⟩
   rw [word_bit x.toNat (by omega) s h2, show ((x.toNat : Nat) : Int) = x by omega]
   exact decide_eq_true hx
theorem incl_word {a b : List Int} (ha : In32 a) (hb : In32 b) : (word b &&& word a == word a) = inclB a b := by
 rw [Bool.eq_iff_iff]
 simp only [beq_iff_eq]
 unfold inclB
 rw [List.all_eq_true]
 constructor
 · intro h x hx
   obtain ⟨h0, h1⟩ := ha x hx
   have h2 := congrArg (fun w : W32 => w.getLsbD x.toNat) h
   simp only [BitVec.getLsbD_and, word_bit x.toNat (by omega) a ha, word_bit x.toNat (by omega) b hb] at h2
   rw [show ((x.toNat : Nat) : Int) = x by omega, decide_eq_true hx, Bool.and_true] at h2
   exact h2
 · intro h
   refine BitVec.eq_of_getLsbD_eq fun q hq => ?_
   rw [BitVec.getLsbD_and, word_bit q hq a ha, word_bit q hq b hb]
   by_cases hm : (q : Int) ∈ a
   · have := h q hm
     rw [this, decide_eq_true hm]
     rfl
   · rw [decide_eq_false hm, Bool.and_false]
theorem in32_updL {s add del : List Int} (hs : In32 s) (ha : In32 add) : In32 (updL s add del) := fun p hp => by
 rcases updL_mem.1 hp with ⟨h, _⟩ | h
 · exact hs p h
 · exact ha p h
theorem upd_word {s add del : List Int} (hs : In32 s) (ha : In32 add) (hd : In32 del) : (word s &&& ~~~ word del) ||| word add = word (updL s add del) := by
 refine BitVec.eq_of_getLsbD_eq fun q hq => ?_
 rw [BitVec.getLsbD_or, BitVec.getLsbD_and, BitVec.getLsbD_not, word_bit q hq s hs, word_bit q hq add ha, word_bit q hq del hd, word_bit q hq _ (in32_updL hs ha), Bool.eq_iff_iff]
 simp only [Bool.or_eq_true, Bool.and_eq_true, Bool.not_eq_true', decide_eq_true_eq, decide_eq_false_iff_not, updL_mem]
 constructor
 · rintro (⟨h1, _, h2⟩ | h)
   · exact .inl ⟨h1, h2⟩
   · exact .inr h
 · rintro (⟨h1, h2⟩ | h)
   · exact .inl ⟨h1, hq, h2⟩
   · exact .inr h
section
variable {t : STask}
theorem op_in32 (hv : SV t) {o : SOp} (ho : o ∈ t.ops) : In32 o.pre ∧ In32 o.add ∧ In32 o.del := ⟨in32_of hv (hv.op o ho).pre, in32_of hv (hv.op o ho).add, in32_of hv (hv.op o ho).del⟩
theorem can_word (hv : SV t) {o : SOp} (ho : o ∈ t.ops) {s : List Int} (hs : In32 s) : (mkOf o).can (word s) = inclB o.pre s := incl_word (op_in32 hv ho).1 hs
theorem next_word (hv : SV t) {o : SOp} (ho : o ∈ t.ops) {s : List Int} (hs : In32 s) : (mkOf o).next (word s) = word (updL s o.add o.del) := upd_word hs (op_in32 hv ho).2.1 (op_in32 hv ho).2.2
theorem goal_word (hv : SV t) {s : List Int} (hs : In32 s) : (wdOf t).isGoal (word s) = inclB t.goal s := incl_word (in32_of hv hv.goal) hs
theorem mem_steps (hv : SV t) {s : List Int} (hs : In32 s) {e : Nat × Int × W32} : e ∈ (wdOf t).steps (word s) ↔ ∃ o, t.ops[e.1]? = some o ∧ inclB o.pre s = true ∧ e.2.1 = o.cost ∧ e.2.2 = word (updL s o.add o.del) := by
 constructor
 · intro h
   obtain ⟨i, m, h1, h2, h3⟩ := stepsFrom_mem h
   rw [Nat.zero_add] at h2
   subst h2
   unfold wdOf at h1
   simp only [List.getElem?_map] at h1
   cases ho : t.ops[i]? with
   | none => rw [ho] at h1; cases h1
   | some o =>
    rw [ho] at h1
    cases h1
    have hm := List.mem_of_getElem? ho
    refine ⟨o, rfl, ?_, rfl, next_word hv hm hs⟩
    rw [← can_word hv hm hs]
    exact h3
 · rintro ⟨o, ho, h1, h2, h3⟩
   have hm := List.mem_of_getElem? ho
   have hk : (wdOf t).ops[e.1]? = some (mkOf o) := by
    unfold wdOf
    simp only [List.getElem?_map, ho, Option.map_some]
   have := mem_stepsFrom (s := word s) (k := 0) hk (by rw [can_word hv hm hs]; exact h1)
   rw [Nat.zero_add, next_word hv hm hs] at this
   obtain ⟨a, b, c⟩ := e
   simp only at h2 h3 this
   rw [h2, h3]
   exact this
theorem way_of_plan (hv : SV t) : ∀ (plan s e : List Int), IsSet t.facts s → (∀ op ∈ plan, 0 ≤ op ∧ op < t.ops.length) → endS t s plan = some e → inclB t.goal e = true → WayTo (wdOf t) (word s) (costS t plan)
 | [], s, e, hs, _, he, hg => by
  cases he
  exact .goal ((goal_word hv (in32_of hv hs)).trans hg)
 | op :: r, s, e, hs, hr, he, hg => by
  obtain ⟨h0, h1⟩ := hr op (by simp)
  have hlt : op.toNat < t.ops.length := by omega
  have ho : t.ops[op.toNat]? = some t.ops[op.toNat] := List.getElem?_eq_getElem hlt
  have he2 : (match stepS t s op with | some s' => endS t s' r | none => none) = some e := he
  rw [stepS_op ho] at he2
  by_cases hp : inclB (t.ops[op.toNat]).pre s = true
  · rw [if_pos hp] at he2
    have hm := List.mem_of_getElem? ho
    have ih := way_of_plan hv r _ e (updL_set hs (hv.op _ hm).add) (fun x hx => hr x (by simp [hx])) he2 hg
    have hst := (mem_steps hv (in32_of hv hs) (e := (op.toNat, (t.ops[op.toNat]).cost, word (updL s (t.ops[op.toNat]).add (t.ops[op.toNat]).del)))).2 ⟨_, ho, hp, rfl, rfl⟩
    have := WayTo.step hst ih
    have hc : costAtS t op = (t.ops[op.toNat]).cost := by unfold costAtS; rw [ho]
    show WayTo _ _ (costAtS t op + costS t r)
    rw [hc]
    exact this
  · rw [if_neg hp] at he2
    cases he2
end
structure Bis (w1 w2 : Wd) (R : W32 → W32 → Prop) : Prop where
 start : R w1.start w2.start
 goal : ∀ a b, R a b → w1.isGoal a = w2.isGoal b
 fwd : ∀ a b, R a b → ∀ e ∈ w1.steps a, ∃ e' ∈ w2.steps b, e'.2.1 = e.2.1 ∧ R e.2.2 e'.2.2
 bwd : ∀ a b, R a b → ∀ e' ∈ w2.steps b, ∃ e ∈ w1.steps a, e.2.1 = e'.2.1 ∧ R e.2.2 e'.2.2
 fn : ∀ a b b', R a b → R a b' → b = b'
 inj : ∀ a a' b, R a b → R a' b → a = a'
theorem Bis.symm {w1 w2 : Wd} {R : W32 → W32 → Prop} (h : Bis w1 w2 R) : Bis w2 w1 fun a b => R b a :=
 ⟨h.start, fun a b hr => (h.goal b a hr).symm, fun a b hr => h.bwd b a hr, fun a b hr => h.fwd b a hr, fun a b b' h1 h2 => h.inj b b' a h1 h2, fun a a' b h1 h2 => h.fn b a a' h1 h2⟩
theorem Bis.way {w1 w2 : Wd} {R : W32 → W32 → Prop} (h : Bis w1 w2 R) {a : W32} {c : Int} (hw : WayTo w1 a c) : ∀ b, R a b → WayTo w2 b c := by
 induction hw with
 | goal hg => exact fun b hr => .goal ((h.goal _ b hr).symm.trans hg)
 | step he _ ih =>
  intro b hr
  obtain ⟨e', h1, h2, h3⟩ := h.fwd _ b hr _ he
  rw [← h2]
  exact .step h1 (ih _ h3)
theorem Bis.least {w1 w2 : Wd} {R : W32 → W32 → Prop} (h : Bis w1 w2 R) {a b : W32} {d : Int} (hr : R a b) (hl : Least w1 a d) : Least w2 b d :=
 ⟨hl.le, fun c hw => hl.low c (h.symm.way hw a hr), hl.att.imp id fun hw => h.way hw b hr⟩
theorem Bis.reach {w1 w2 : Wd} {R : W32 → W32 → Prop} (h : Bis w1 w2 R) {a : W32} (hr : Reach w1 a) : ∃ b, Reach w2 b ∧ R a b := by
 induction hr with
 | start => exact ⟨_, .start, h.start⟩
 | step _ he ih =>
  obtain ⟨b, h1, h2⟩ := ih
  obtain ⟨e', h3, _, h5⟩ := h.fwd _ b h2 _ he
  exact ⟨_, .step h1 h3, h5⟩
theorem Bis.many {w1 w2 : Wd} {R : W32 → W32 → Prop} (h : Bis w1 w2 R) : ∀ L : List W32, L.Nodup → (∀ a ∈ L, Reach w1 a) → ∃ L' : List W32, L'.length = L.length ∧ L'.Nodup ∧ ∀ b ∈ L', Reach w2 b ∧ ∃ a ∈ L, R a b
 | [], _, _ => ⟨[], rfl, List.nodup_nil, fun b hb => by cases hb⟩
 | a :: r, hn, hr => by
  have hn' := List.nodup_cons.1 hn
  obtain ⟨L', h1, h2, h3⟩ := h.many r hn'.2 fun x hx => hr x (by simp [hx])
  obtain ⟨b, h4, h5⟩ := h.reach (hr a (by simp))
  refine ⟨b :: L', by simp [h1], List.nodup_cons.2 ⟨fun hm => ?_, h2⟩, fun x hx => ?_⟩
  · obtain ⟨_, a', h6, h7⟩ := h3 b hm
    exact hn'.1 (h.inj a a' b h5 h7 ▸ h6)
  · rcases List.mem_cons.1 hx with rfl | hx
    · exact ⟨h4, a, by simp, h5⟩
    · obtain ⟨h6, a', h7, h8⟩ := h3 x hx
      exact ⟨h6, a', by simp [h7], h8⟩
theorem Bis.big {w1 w2 : Wd} {R : W32 → W32 → Prop} (h : Bis w1 w2 R) (hb : allF w1 = none) : allF w2 = none := by
 cases hA : allF w2 with
 | none => rfl
 | some l2 =>
  exfalso
  obtain ⟨L, h1, h2, h3⟩ := (allF_spec w1).2 hb
  obtain ⟨L', h4, h5, h6⟩ := h.many L h1 h3
  obtain ⟨_, h8, h9⟩ := (allF_spec w2).1 l2 hA
  have := List.Nodup.length_le_of_subset h5 (l₂ := l2) fun b hb => (h9 b).2 (h6 b hb).1
  omega
theorem Bis.states {t1 t2 : STask} {R : W32 → W32 → Prop} (h : Bis (wdOf t1) (wdOf t2) R) : statesF t1 = none ↔ statesF t2 = none := by
 unfold statesF
 rw [Option.map_eq_none_iff, Option.map_eq_none_iff]
 exact ⟨h.big, h.symm.big⟩
def newL (U l : List Int) : List Int := l.filter fun p => decide (p ∉ U)
theorem newL_mem {U l : List Int} {x : Int} : x ∈ newL U l ↔ x ∈ l ∧ x ∉ U := by simp [newL]
def takeC (a : List (List Int) × List Int) (l : List Int) : List (List Int) × List Int :=
 (if newL a.2 l = [] then a.1 else a.1 ++ [newL a.2 l], a.2 ++ newL a.2 l)
structure CovI (L : List (List Int)) (a : List (List Int) × List Int) : Prop where
 ss : ∀ c ∈ a.1, SS c
 ne : ∀ c ∈ a.1, c ≠ []
 part : ∀ c ∈ a.1, ∃ g ∈ L, ∀ x ∈ c, x ∈ g
 use : ∀ x, x ∈ a.2 ↔ ∃ c ∈ a.1, x ∈ c
 dis : a.1.Pairwise fun c d => ∀ x ∈ c, x ∉ d
 all : ∀ g ∈ L, ∀ x ∈ g, x ∈ a.2
theorem covI_nil : CovI [] ([], []) := ⟨by simp, by simp, by simp, by simp, List.Pairwise.nil, by simp⟩
theorem covI_step {L : List (List Int)} {a : List (List Int) × List Int} (h : CovI L a) {l : List Int} (hl : SS l) : CovI (L ++ [l]) (takeC a l) := by
 have hu : ∀ x, x ∈ a.2 ++ newL a.2 l ↔ x ∈ a.2 ∨ x ∈ l := fun x => by
  rw [List.mem_append, newL_mem]
  constructor
  · rintro (q | q)
    · exact .inl q
    · exact .inr q.1
  · rintro (q | q)
    · exact .inl q
    · by_cases c : x ∈ a.2
      · exact .inl c
      · exact .inr ⟨q, c⟩
 have hall : ∀ g ∈ L ++ [l], ∀ x ∈ g, x ∈ a.2 ++ newL a.2 l := fun g hg x hx => by
  rw [hu]
  rcases List.mem_append.1 hg with q | q
  · exact .inl (h.all g q x hx)
  · rw [List.mem_singleton.1 q] at hx
    exact .inr hx
 by_cases e : newL a.2 l = []
 · unfold takeC
   rw [if_pos e]
   refine ⟨h.ss, h.ne, fun c hc => ?_, fun x => ?_, h.dis, hall⟩
   · obtain ⟨g, h1, h2⟩ := h.part c hc
     exact ⟨g, List.mem_append_left _ h1, h2⟩
   · show x ∈ a.2 ++ newL a.2 l ↔ _
     rw [e, List.append_nil]
     exact h.use x
 · unfold takeC
   rw [if_neg e]
   have hs : SS (newL a.2 l) := List.Pairwise.filter _ hl
   refine ⟨fun c hc => ?_, fun c hc => ?_, fun c hc => ?_, fun x => ?_, ?_, hall⟩
   · rcases List.mem_append.1 hc with q | q
     · exact h.ss c q
     · rw [List.mem_singleton.1 q]; exact hs
   · rcases List.mem_append.1 hc with q | q
     · exact h.ne c q
     · rw [List.mem_singleton.1 q]; exact e
   · rcases List.mem_append.1 hc with q | q
     · obtain ⟨g, h1, h2⟩ := h.part c q
       exact ⟨g, List.mem_append_left _ h1, h2⟩
     · rw [List.mem_singleton.1 q]
       exact ⟨l, by simp, fun x hx => (newL_mem.1 hx).1⟩
   · show x ∈ a.2 ++ newL a.2 l ↔ _
     rw [List.mem_append, h.use x]
     constructor
     · rintro (⟨c, q, q2⟩ | q)
       · exact ⟨c, List.mem_append_left _ q, q2⟩
       · exact ⟨_, List.mem_append_right _ (by simp), q⟩
     · rintro ⟨c, q, q2⟩
       rcases List.mem_append.1 q with q | q
       · exact .inl ⟨c, q, q2⟩
       · rw [List.mem_singleton.1 q] at q2; exact .inr q2
   · refine List.pairwise_append.2 ⟨h.dis, List.pairwise_singleton _ _, fun c hc d hd x hx hxd => ?_⟩
     rw [List.mem_singleton.1 hd] at hxd
     exact (newL_mem.1 hxd).2 ((h.use x).2 ⟨c, hc, hx⟩)
theorem covI_fold : ∀ (l : List (List Int)) (L : List (List Int)) (a : List (List Int) × List Int), CovI L a → (∀ g ∈ l, SS g) → CovI (L ++ l) (l.foldl takeC a)
 | [], L, a, h, _ => by rw [List.append_nil]; exact h
 | g :: l, L, a, h, hs => by
  have := covI_fold l (L ++ [g]) (takeC a g) (covI_step h (hs g (by simp))) fun x hx => hs x (by simp [hx])
  rw [List.append_assoc] at this
  exact this
def oneL (n : Nat) : List (List Int) := (List.range n).map fun (p : Nat) => [(p : Int)]
def covF (n : Nat) (gs : List (List Int)) : List (List Int) := ((gs ++ oneL n).foldl takeC ([], [])).1
structure Cls (n : Nat) (gs cs : List (List Int)) : Prop where
 ss : ∀ c ∈ cs, SS c
 ne : ∀ c ∈ cs, c ≠ []
 rng : ∀ c ∈ cs, ∀ x ∈ c, 0 ≤ x ∧ x < n
 part : ∀ c ∈ cs, (∃ g ∈ gs, ∀ x ∈ c, x ∈ g) ∨ ∃ p, ∀ x ∈ c, x = p
 dis : cs.Pairwise fun c d => ∀ x ∈ c, x ∉ d
 all : ∀ x : Int, 0 ≤ x → x < n → ∃ c ∈ cs, x ∈ c
theorem covF_ok (n : Nat) (gs : List (List Int)) (hg : ∀ g ∈ gs, IsSet n g) : Cls n gs (covF n gs) := by
 have h := covI_fold (gs ++ oneL n) [] ([], []) covI_nil fun g hm => by
  rcases List.mem_append.1 hm with q | q
  · exact (hg g q).ss
  · obtain ⟨p, _, rfl⟩ := List.mem_map.1 q
    exact List.pairwise_singleton _ _
 rw [List.nil_append] at h
 refine ⟨h.ss, h.ne, fun c hc x hx => ?_, fun c hc => ?_, h.dis, fun x h0 h1 => ?_⟩
 · obtain ⟨g, h1, h2⟩ := h.part c hc
   rcases List.mem_append.1 h1 with q | q
   · exact (hg g q).rng x (h2 x hx)
   · obtain ⟨p, hp, rfl⟩ := List.mem_map.1 q
     have := List.mem_range.1 hp
     have e := List.mem_singleton.1 (h2 x hx)
     omega
 · obtain ⟨g, h1, h2⟩ := h.part c hc
   rcases List.mem_append.1 h1 with q | q
   · exact .inl ⟨g, q, h2⟩
   · obtain ⟨p, hp, rfl⟩ := List.mem_map.1 q
     exact .inr ⟨p, fun x hx => List.mem_singleton.1 (h2 x hx)⟩
 · refine (h.use x).1 (h.all [x] (List.mem_append_right _ (List.mem_map.2 ⟨x.toNat, List.mem_range.2 (by omega), ?_⟩)) x (by simp))
   rw [show ((x.toNat : Nat) : Int) = x by omega]
def valK (c s : List Int) : Nat → Nat
 | 0 => c.length
 | k + 1 => match c[k]? with
   | some p => if p ∈ s then k else valK c s k
   | none => valK c s k
def valF (c s : List Int) : Nat := valK c s c.length
theorem valK_cases (c s : List Int) : ∀ k, k ≤ c.length → (valK c s k = c.length ∧ ∀ i p, i < k → c[i]? = some p → p ∉ s) ∨ (valK c s k < k ∧ ∃ p, c[valK c s k]? = some p ∧ p ∈ s)
 | 0, _ => .inl ⟨rfl, fun i p h => by omega⟩
 | k + 1, hk => by
  obtain ⟨q, hq⟩ := get_some (l := c) (k := k) (by omega)
  by_cases hs : q ∈ s
  · have e : valK c s (k + 1) = k := by rw [valK, hq]; exact if_pos hs
    rw [e]
    exact .inr ⟨by omega, q, hq, hs⟩
  · have e : valK c s (k + 1) = valK c s k := by rw [valK, hq]; exact if_neg hs
    rw [e]
    rcases valK_cases c s k (by omega) with ⟨h1, h2⟩ | ⟨h1, h2⟩
    · refine .inl ⟨h1, fun i p hi hp => ?_⟩
      by_cases c2 : i = k
      · subst c2
        rw [hq] at hp
        cases hp
        exact hs
      · exact h2 i p (by omega) hp
    · exact .inr ⟨by omega, h2⟩
theorem valF_le (c s : List Int) : valF c s ≤ c.length := by
 rcases valK_cases c s c.length (Nat.le_refl _) with ⟨h1, _⟩ | ⟨h1, _⟩
 · exact Nat.le_of_eq h1
 · exact Nat.le_of_lt h1
theorem valF_none {c s : List Int} (h : ∀ p ∈ c, p ∉ s) : valF c s = c.length := by
 rcases valK_cases c s c.length (Nat.le_refl _) with ⟨h1, _⟩ | ⟨_, p, h2, h3⟩
 · exact h1
 · exact absurd h3 (h p (mem_get h2))
theorem ss_get {c : List Int} (h : SS c) {i j : Nat} {p : Int} (h1 : c[i]? = some p) (h2 : c[j]? = some p) : i = j := by
 by_cases a : i < j
 · have := ss_idx h h1 h2 a; omega
 · by_cases b : j < i
   · have := ss_idx h h2 h1 b; omega
   · omega
theorem valF_some {c s : List Int} (hc : SS c) (ha : AM1 c s) {i : Nat} {p : Int} (h1 : c[i]? = some p) (h2 : p ∈ s) : valF c s = i := by
 rcases valK_cases c s c.length (Nat.le_refl _) with ⟨_, h4⟩ | ⟨_, q, h4, h5⟩
 · exact absurd h2 (h4 i p (get_lt h1) h1)
 · have := ha p q h2 h5 (mem_get h1) (mem_get h4)
   subst this
   exact ss_get hc h4 h1
theorem valF_get {c s : List Int} (h : valF c s < c.length) : ∃ p, c[valF c s]? = some p ∧ p ∈ s := by
 rcases valK_cases c s c.length (Nat.le_refl _) with ⟨h1, _⟩ | ⟨_, h2⟩
 · unfold valF at h; omega
 · exact h2
theorem valF_top {c s : List Int} (hc : SS c) (ha : AM1 c s) (h : valF c s = c.length) : ∀ p ∈ c, p ∉ s := fun p hp hs => by
 obtain ⟨i, hi, e⟩ := List.getElem_of_mem hp
 have h1 : c[i]? = some p := by rw [← e]; exact List.getElem?_eq_getElem hi
 have := valF_some hc ha h1 hs
 omega
theorem valK_congr {c s s' : List Int} (h : ∀ p ∈ c, (p ∈ s ↔ p ∈ s')) : ∀ k, valK c s k = valK c s' k
 | 0 => rfl
 | k + 1 => by
  rw [valK, valK, valK_congr h k]
  split
  · rename_i p hp
    by_cases e : p ∈ s
    · rw [if_pos e, if_pos ((h p (mem_get hp)).1 e)]
    · rw [if_neg e, if_neg fun q => e ((h p (mem_get hp)).2 q)]
  · rfl
theorem valF_congr {c s s' : List Int} (h : ∀ p ∈ c, (p ∈ s ↔ p ∈ s')) : valF c s = valF c s' := valK_congr h _
def manyF (c s : List Int) : Nat := (comL c s).length
theorem many_zero {c s : List Int} : manyF c s = 0 ↔ ∀ p ∈ c, p ∉ s := by
 unfold manyF
 rw [List.length_eq_zero_iff, List.eq_nil_iff_forall_not_mem]
 constructor
 · intro h p hp hs
   exact h p (comL_mem.2 ⟨hp, hs⟩)
 · intro h p hp
   exact h p (comL_mem.1 hp).1 (comL_mem.1 hp).2
theorem AM1.symm {a b : List Int} (h : AM1 a b) : AM1 b a := fun x y h1 h2 h3 h4 => h x y h3 h4 h1 h2
theorem AM1.sub {a b b' : List Int} (h : AM1 a b) (hs : ∀ x ∈ b', x ∈ b) : AM1 a b' := fun x y h1 h2 h3 h4 => h x y (hs x h1) (hs y h2) h3 h4
theorem many_le {c s : List Int} (hc : SS c) : manyF c s ≤ 1 ↔ AM1 c s := ⟨fun h => (am1_len h).symm, fun h => am1_of_len hc h.symm⟩
def valsC (cs : List (List Int)) (s : List Int) : List Int := cs.map fun c => (valF c s : Int)
theorem valsC_get {cs : List (List Int)} {s : List Int} {v : Nat} {c : List Int} (h : cs[v]? = some c) : (valsC cs s)[v]? = some (valF c s : Int) := by
 unfold valsC
 rw [List.getElem?_map, h]
 rfl
def sizesF (cs : List (List Int)) : List Int := cs.map fun c => (c.length + 1 : Int)
theorem sizes_get {cs : List (List Int)} {v : Nat} {c : List Int} (h : cs[v]? = some c) : (sizesF cs)[v]? = some (c.length + 1 : Int) := by
 unfold sizesF
 rw [List.getElem?_map, h]
 rfl
theorem vals_st (cs : List (List Int)) (s : List Int) : stB (sizesF cs) (valsC cs s) = true := by
 refine stB_of (by simp [valsC, sizesF]) fun v x hx => ?_
 obtain ⟨c, hc⟩ := get_some (l := cs) (k := v) (by have := get_lt hx; simpa [valsC] using this)
 rw [valsC_get hc] at hx
 cases hx
 have := valF_le c s
 exact ⟨_, sizes_get hc, by omega, by omega⟩
def AMc (cs : List (List Int)) (s : List Int) : Prop := ∀ c ∈ cs, AM1 c s
theorem vals_inj {n : Nat} {gs cs : List (List Int)} (hC : Cls n gs cs) {s s' : List Int} (hs : IsSet n s) (hs' : IsSet n s') (ha : AMc cs s) (ha' : AMc cs s') (h : valsC cs s = valsC cs s') : s = s' := by
 have key : ∀ {a b : List Int}, IsSet n a → AMc cs a → valsC cs a = valsC cs b → ∀ x ∈ a, x ∈ b := by
  intro a b h1 h2 h3 x hx
  obtain ⟨c, hc, hxc⟩ := hC.all x (h1.rng x hx).1 (h1.rng x hx).2
  obtain ⟨v, hv, e⟩ := List.getElem_of_mem hc
  have hg : cs[v]? = some c := by rw [← e]; exact List.getElem?_eq_getElem hv
  obtain ⟨i, hi, e2⟩ := List.getElem_of_mem hxc
  have hgi : c[i]? = some x := by rw [← e2]; exact List.getElem?_eq_getElem hi
  have h4 := valF_some (hC.ss c hc) (h2 c hc) hgi hx
  have h5 : (valsC cs a)[v]? = (valsC cs b)[v]? := by rw [h3]
  rw [valsC_get hg, valsC_get hg, h4] at h5
  have h6 : (i : Int) = valF c b := by injection h5
  obtain ⟨q, h7, h8⟩ := valF_get (c := c) (s := b) (by omega)
  rw [show valF c b = i by omega, hgi] at h7
  cases h7
  exact h8
 exact ss_ext hs.ss hs'.ss fun x => ⟨key hs ha h x, key hs' ha' h.symm x⟩
def asgK (cs : List (List Int)) (s : List Int) : Nat → List Asg
 | 0 => []
 | k + 1 => asgK cs s k ++ (match cs[k]? with
   | some c => if manyF c s = 1 then [⟨k, valF c s⟩] else []
   | none => [])
def asgOk (cs : List (List Int)) (s : List Int) : Bool := cs.all fun c => decide (manyF c s ≤ 1)
theorem asgOk_iff {n : Nat} {gs cs : List (List Int)} (hC : Cls n gs cs) {s : List Int} : asgOk cs s = true ↔ AMc cs s := by
 unfold asgOk AMc
 rw [List.all_eq_true]
 constructor
 · intro h c hc
   exact (many_le (hC.ss c hc)).1 (of_decide_eq_true (h c hc))
 · intro h c hc
   exact decide_eq_true ((many_le (hC.ss c hc)).2 (h c hc))
theorem asgK_mem {cs : List (List Int)} {s : List Int} {a : Asg} : ∀ {k : Nat}, a ∈ asgK cs s k ↔ ∃ (v : Nat) (c : List Int), v < k ∧ cs[v]? = some c ∧ manyF c s = 1 ∧ a = ⟨v, valF c s⟩
 | 0 => by simp [asgK]
 | k + 1 => by
  rw [asgK, List.mem_append, asgK_mem]
  constructor
  · rintro (⟨v, c, h1, h2, h3, h4⟩ | h)
    · exact ⟨v, c, by omega, h2, h3, h4⟩
    · split at h
      · rename_i c hc
        split at h
        · rename_i hm
          exact ⟨k, c, by omega, hc, hm, List.mem_singleton.1 h⟩
        · cases h
      · cases h
  · rintro ⟨v, c, h1, h2, h3, h4⟩
    by_cases e : v = k
    · subst e
      refine .inr ?_
      rw [h2]
      show a ∈ if manyF c s = 1 then [(⟨v, valF c s⟩ : Asg)] else []
      rw [if_pos h3, h4]
      simp
    · exact .inl ⟨v, c, by omega, h2, h3, h4⟩
theorem asgK_sorted {cs : List (List Int)} {s : List Int} : ∀ k, (asgK cs s k).Pairwise fun a b => a.var < b.var
 | 0 => List.Pairwise.nil
 | k + 1 => by
  rw [asgK]
  refine List.pairwise_append.2 ⟨asgK_sorted k, ?_, fun a ha b hb => ?_⟩
  · split
    · split
      · exact List.pairwise_singleton _ _
      · exact List.Pairwise.nil
    · exact List.Pairwise.nil
  · obtain ⟨v, c, h1, _, _, rfl⟩ := asgK_mem.1 ha
    split at hb
    · split at hb
      · rw [List.mem_singleton.1 hb]
        exact Int.ofNat_lt.2 h1
      · cases hb
    · cases hb
theorem asB_of {sizes : List Int} {l : List Asg} (hp : l.Pairwise fun a b => a.var < b.var) (hr : ∀ a ∈ l, 0 ≤ a.var ∧ VX sizes a.var.toNat a.value) : asB sizes l = true := by
 refine allN_ok fun i hi => ?_
 obtain ⟨a, ha⟩ := get_some hi
 obtain ⟨h0, z, hz, h1, h2⟩ := hr a (mem_get ha)
 unfold asAt
 rw [ha]
 have e : szAt sizes a.var = some z := by unfold szAt; rw [if_neg (by omega)]; exact hz
 simp only [e, Bool.and_eq_true, decide_eq_true_eq, Bool.or_eq_true]
 refine ⟨⟨h1, h2⟩, ?_⟩
 by_cases e0 : i = 0
 · exact .inl e0
 · refine .inr ?_
   obtain ⟨b, hb⟩ := get_some (l := l) (k := i - 1) (by omega)
   unfold asPrev
   rw [hb]
   have hb' := hb
   rw [List.getElem?_eq_some_iff] at ha hb
   obtain ⟨q1, q2⟩ := ha
   obtain ⟨q3, q4⟩ := hb
   have := List.pairwise_iff_getElem.1 hp (i - 1) i q3 q1 (by omega)
   rw [q2, q4] at this
   exact decide_eq_true this
theorem asgK_asB (cs : List (List Int)) (s : List Int) (k : Nat) : asB (sizesF cs) (asgK cs s k) = true := by
 refine asB_of (asgK_sorted k) fun a ha => ?_
 obtain ⟨v, c, h1, h2, h3, rfl⟩ := asgK_mem.1 ha
 refine ⟨by show (0 : Int) ≤ (v : Int); omega, _, sizes_get h2, by show (0 : Int) ≤ (valF c s : Int); omega, ?_⟩
 have := valF_le c s
 show (valF c s : Int) < c.length + 1
 omega
theorem holdAt_eq {s : List Int} {v : Nat} {x y : Int} (h : s[v]? = some x) : holdAt s ⟨v, y⟩ = (x == y) := by
 unfold holdAt szAt
 rw [if_neg (by show ¬ (v : Int) < 0; omega), show ((v : Int)).toNat = v by omega, h]
theorem holds_asg {n : Nat} {gs cs : List (List Int)} (hC : Cls n gs cs) {s p : List Int} (hp : IsSet n p) (hA : AMc cs p) (hs : AMc cs s) : holds (valsC cs s) (asgK cs p cs.length) = inclB p s := by
 rw [Bool.eq_iff_iff]
 unfold holds inclB
 rw [List.all_eq_true, List.all_eq_true]
 constructor
 · intro h x hx
   obtain ⟨c, hc, hxc⟩ := hC.all x (hp.rng x hx).1 (hp.rng x hx).2
   obtain ⟨v, hv, e⟩ := List.getElem_of_mem hc
   have hg : cs[v]? = some c := by rw [← e]; exact List.getElem?_eq_getElem hv
   obtain ⟨i, hi, e2⟩ := List.getElem_of_mem hxc
   have hgi : c[i]? = some x := by rw [← e2]; exact List.getElem?_eq_getElem hi
   have h1 : manyF c p = 1 := by
    have h2 := (many_le (hC.ss c hc)).2 (hA c hc)
    have h3 : manyF c p ≠ 0 := fun q => many_zero.1 q x hxc hx
    omega
   have h4 := h _ (asgK_mem.2 ⟨v, c, hv, hg, h1, rfl⟩)
   rw [holdAt_eq (valsC_get hg), valF_some (hC.ss c hc) (hA c hc) hgi hx, beq_iff_eq] at h4
   obtain ⟨q, h7, h8⟩ := valF_get (c := c) (s := s) (by omega)
   rw [show valF c s = i by omega, hgi] at h7
   cases h7
   exact decide_eq_true h8
 · intro h a ha
   obtain ⟨v, c, h1, h2, h3, rfl⟩ := asgK_mem.1 ha
   rw [holdAt_eq (valsC_get h2), beq_iff_eq]
   have hc := mem_get h2
   have h4 : valF c p < c.length := by
    refine Nat.lt_of_le_of_ne (valF_le c p) fun e => ?_
    have := many_zero.2 (valF_top (hC.ss c hc) (hA c hc) e)
    omega
   obtain ⟨q, h5, h6⟩ := valF_get h4
   rw [valF_some (hC.ss c hc) (hs c hc) h5 (of_decide_eq_true (h q h6))]
def preE (o : SOp) (c : List Int) : Int := if manyF c o.pre = 0 then -1 else valF c o.pre
def openE (o : SOp) (c : List Int) : Bool := decide (manyF c o.add = 0) && decide (manyF c o.pre = 0) && decide (0 < manyF c o.del)
def delAt (o : SOp) (c : List Int) (x : Int) : Bool := decide (0 ≤ x) && (match c[x.toNat]? with
 | some p => decide (p ∈ o.del)
 | none => false)
def postE (o : SOp) (c : List Int) (x : Int) : Int := if 0 < manyF c o.add then valF c o.add else if delAt o c x = true then c.length else x
def valE (o : SOp) (c : List Int) : List Int := if openE o c = true then (List.range (c.length + 1)).map fun (x : Nat) => (x : Int) else [preE o c]
def extE (o : SOp) (c : List Int) (v : Nat) (p : MOp) (x : Int) : MOp :=
 ⟨p.pre ++ (if 0 ≤ x then [⟨v, x⟩] else []), p.post ++ (if postE o c x = x then [] else [⟨v, postE o c x⟩]), p.cost⟩
def nextE (o : SOp) (c : List Int) (v : Nat) (l : List MOp) : List MOp := l.flatMap fun p => (valE o c).map (extE o c v p)
def verR (o : SOp) (cs : List (List Int)) : Nat → List MOp
 | 0 => [⟨[], [], o.cost⟩]
 | k + 1 => match cs[k]? with
   | some c => nextE o c k (verR o cs k)
   | none => verR o cs k
def verG (o : SOp) (cs : List (List Int)) : Nat → Nat → List MOp
 | 0, k => verR o cs k
 | n + 1, k => if (verR o cs (k + 1)).length > 40 then verR o cs (k + 1) else verG o cs n (k + 1)
def verF (o : SOp) (cs : List (List Int)) : List MOp := verG o cs cs.length 0
theorem verG_eq (o : SOp) (cs : List (List Int)) : ∀ n k, (verG o cs n k).length ≤ 40 → verG o cs n k = verR o cs (k + n)
 | 0, k, _ => rfl
 | n + 1, k, h => by
  rw [verG] at h ⊢
  split at h
  · omega
  · rename_i h1
    rw [if_neg h1, verG_eq o cs n (k + 1) h, show k + 1 + n = k + (n + 1) by omega]
theorem verF_eq {o : SOp} {cs : List (List Int)} (h : (verF o cs).length ≤ 40) : verF o cs = verR o cs cs.length := by
 have := verG_eq o cs cs.length 0 h
 rw [Nat.zero_add] at this
 exact this
theorem mem_next {o : SOp} {c : List Int} {v : Nat} {l : List MOp} {p : MOp} : p ∈ nextE o c v l ↔ ∃ q ∈ l, ∃ x ∈ valE o c, p = extE o c v q x := by
 unfold nextE
 rw [List.mem_flatMap]
 constructor
 · rintro ⟨q, h1, h2⟩
   obtain ⟨x, h3, rfl⟩ := List.mem_map.1 h2
   exact ⟨q, h1, x, h3, rfl⟩
 · rintro ⟨q, h1, x, h3, rfl⟩
   exact ⟨q, h1, List.mem_map.2 ⟨x, h3, rfl⟩⟩
theorem valE_rng {o : SOp} {c : List Int} {x : Int} (h : x ∈ valE o c) : -1 ≤ x ∧ x ≤ c.length := by
 unfold valE at h
 split at h
 · obtain ⟨y, hy, rfl⟩ := List.mem_map.1 h
   have := List.mem_range.1 hy
   omega
 · rw [List.mem_singleton.1 h]
   unfold preE
   have := valF_le c o.pre
   split <;> omega
theorem postE_rng {o : SOp} {c : List Int} {x : Int} (h : -1 ≤ x ∧ x ≤ c.length) (hne : postE o c x ≠ x) : 0 ≤ postE o c x ∧ postE o c x ≤ c.length := by
 unfold postE at hne ⊢
 have := valF_le c o.add
 split
 · omega
 · rename_i h1
   rw [if_neg h1] at hne
   split
   · omega
   · rename_i h2
     rw [if_neg h2] at hne
     exact absurd rfl hne
theorem verR_ok (o : SOp) (cs : List (List Int)) : ∀ k, ∀ p ∈ verR o cs k, p.cost = o.cost ∧ (∀ a ∈ p.pre, a.var < k ∧ 0 ≤ a.var ∧ VX (sizesF cs) a.var.toNat a.value) ∧ (∀ a ∈ p.post, a.var < k ∧ 0 ≤ a.var ∧ VX (sizesF cs) a.var.toNat a.value) ∧ (p.pre.Pairwise fun a b => a.var < b.var) ∧ p.post.Pairwise fun a b => a.var < b.var
 | 0, p, h => by
  rw [List.mem_singleton.1 h]
  exact ⟨rfl, by simp, by simp, List.Pairwise.nil, List.Pairwise.nil⟩
 | k + 1, p, h => by
  rw [verR] at h
  split at h
  · rename_i c hc
    obtain ⟨q, hq, x, hx, rfl⟩ := mem_next.1 h
    obtain ⟨h1, h2, h3, h4, h5⟩ := verR_ok o cs k q hq
    have hr := valE_rng hx
    have hvx : ∀ y : Int, 0 ≤ y → y ≤ c.length → VX (sizesF cs) ((k : Nat) : Int).toNat y := fun y h0 hy => ⟨_, by rw [show ((k : Nat) : Int).toNat = k by omega]; exact sizes_get hc, h0, by omega⟩
    refine ⟨h1, fun a ha => ?_, fun a ha => ?_, ?_, ?_⟩
    · rcases List.mem_append.1 ha with ha | ha
      · obtain ⟨e1, e2, e3⟩ := h2 a ha
        exact ⟨by omega, e2, e3⟩
      · split at ha
        · rw [List.mem_singleton.1 ha]
          exact ⟨by show (k : Int) < ((k + 1 : Nat) : Int); omega, by show (0 : Int) ≤ (k : Int); omega, hvx x (by assumption) hr.2⟩
        · cases ha
    · rcases List.mem_append.1 ha with ha | ha
      · obtain ⟨e1, e2, e3⟩ := h3 a ha
        exact ⟨by omega, e2, e3⟩
      · split at ha
        · cases ha
        · rename_i hne
          have := postE_rng hr hne
          rw [List.mem_singleton.1 ha]
          exact ⟨by show (k : Int) < ((k + 1 : Nat) : Int); omega, by show (0 : Int) ≤ (k : Int); omega, hvx _ this.1 this.2⟩
    · refine List.pairwise_append.2 ⟨h4, by split <;> simp, fun a ha b hb => ?_⟩
      split at hb
      · rw [List.mem_singleton.1 hb]
        exact (h2 a ha).1
      · cases hb
    · refine List.pairwise_append.2 ⟨h5, by split <;> simp, fun a ha b hb => ?_⟩
      split at hb
      · cases hb
      · rw [List.mem_singleton.1 hb]
        exact (h3 a ha).1
  · obtain ⟨h1, h2, h3, h4, h5⟩ := verR_ok o cs k p h
    exact ⟨h1, fun a ha => by obtain ⟨e1, e2, e3⟩ := h2 a ha; exact ⟨by omega, e2, e3⟩, fun a ha => by obtain ⟨e1, e2, e3⟩ := h3 a ha; exact ⟨by omega, e2, e3⟩, h4, h5⟩
theorem verR_asB {o : SOp} {cs : List (List Int)} {k : Nat} {p : MOp} (h : p ∈ verR o cs k) : asB (sizesF cs) p.pre = true ∧ asB (sizesF cs) p.post = true := by
 obtain ⟨_, h2, h3, h4, h5⟩ := verR_ok o cs k p h
 exact ⟨asB_of h4 fun a ha => (h2 a ha).2, asB_of h5 fun a ha => (h3 a ha).2⟩
theorem holds_append (s : List Int) (a b : List Asg) : holds s (a ++ b) = (holds s a && holds s b) := by
 unfold holds
 rw [List.all_append]
theorem holds_ext {o : SOp} {c s : List Int} {v : Nat} {p : MOp} {x y : Int} (hy : s[v]? = some y) : holds s (extE o c v p x).pre = (holds s p.pre && (decide (x < 0) || y == x)) := by
 unfold extE
 rw [holds_append]
 congr 1
 by_cases h : 0 ≤ x
 · rw [if_pos h, decide_eq_false (by omega)]
   show (holdAt s ⟨v, x⟩ && true) = _
   rw [holdAt_eq hy]
   simp
 · rw [if_neg h, decide_eq_true (by omega)]
   rfl
theorem verR_pre {n : Nat} {gs cs : List (List Int)} (hC : Cls n gs cs) {o : SOp} (hp : AMc cs o.pre) {s : List Int} : ∀ k, ∀ p ∈ verR o cs k, holds (valsC cs s) p.pre = true → ∀ (v : Nat) (c : List Int), v < k → cs[v]? = some c → ∀ q ∈ c, q ∈ o.pre → q ∈ s
 | 0, _, _, _, v, _, h, _, _, _, _ => by omega
 | k + 1, p, h, hh, v, c, hv, hc, q, hq, hqp => by
  rw [verR] at h
  split at h
  · rename_i c' hc'
    obtain ⟨r, hr, x, hx, rfl⟩ := mem_next.1 h
    rw [holds_ext (valsC_get hc'), Bool.and_eq_true] at hh
    by_cases e : v = k
    · subst e
      rw [hc] at hc'
      cases hc'
      have hcm := mem_get hc
      obtain ⟨i, hi, e2⟩ := List.getElem_of_mem hq
      have hgi : c[i]? = some q := by rw [← e2]; exact List.getElem?_eq_getElem hi
      have hm : manyF c o.pre ≠ 0 := fun e => many_zero.1 e q hq hqp
      have ho : openE o c = false := by
       unfold openE
       rw [decide_eq_false hm]
       simp
      unfold valE at hx
      rw [ho, if_neg (by decide), List.mem_singleton] at hx
      unfold preE at hx
      rw [if_neg hm, valF_some (hC.ss c hcm) (hp c hcm) hgi hqp] at hx
      have h2 := hh.2
      rw [decide_eq_false (by omega), Bool.false_or, beq_iff_eq] at h2
      obtain ⟨q', h7, h8⟩ := valF_get (c := c) (s := s) (by omega)
      rw [show valF c s = i by omega, hgi] at h7
      cases h7
      exact h8
    · exact verR_pre hC hp k r hr hh.1 v c (by omega) hc q hq hqp
  · rename_i hn
    have : v ≠ k := fun e => by rw [← e, hc] at hn; cases hn
    exact verR_pre hC hp k p h hh v c (by omega) hc q hq hqp
theorem val_step {o : SOp} {c s : List Int} (hc : SS c) (hs : AM1 c s) (hs' : AM1 c (updL s o.add o.del)) (hd : ∀ x ∈ o.add, x ∉ o.del) (hi : ∀ x ∈ o.pre, x ∈ s) (ha : AM1 c o.add) (hp : AM1 c o.pre) {x : Int} (hx : x ∈ valE o c) (hv : x < 0 ∨ (valF c s : Int) = x) :
  (if postE o c x = x then (valF c s : Int) else postE o c x) = valF c (updL s o.add o.del) := by
 by_cases hA : 0 < manyF c o.add
 · have e1 : postE o c x = valF c o.add := by unfold postE; rw [if_pos hA]
   have h1 : valF c o.add < c.length := by
    refine Nat.lt_of_le_of_ne (valF_le _ _) fun e => ?_
    have := many_zero.2 (valF_top hc ha e)
    omega
   obtain ⟨p, h2, h3⟩ := valF_get h1
   have h4 : valF c (updL s o.add o.del) = valF c o.add := valF_some hc hs' h2 (updL_mem.2 (.inr h3))
   rw [e1, h4]
   split
   · rename_i h5
     rcases hv with h6 | h6
     · omega
     · omega
   · rfl
 · have hA0 : ∀ p ∈ c, p ∉ o.add := many_zero.1 (by omega)
   have hu : ∀ p ∈ c, (p ∈ updL s o.add o.del ↔ p ∈ s ∧ p ∉ o.del) := fun p hp => by
    rw [updL_mem]
    have := hA0 p hp
    grind
   have e1 : postE o c x = if delAt o c x = true then (c.length : Int) else x := by unfold postE; rw [if_neg hA]
   rcases hv with h6 | h6
   · have hdl : delAt o c x = false := by unfold delAt; rw [decide_eq_false (by omega)]; rfl
     rw [if_pos (by rw [e1, hdl]; rfl)]
     have ho : openE o c = false := by
      cases ho : openE o c with
      | false => rfl
      | true =>
       unfold valE at hx
       rw [ho, if_pos rfl] at hx
       obtain ⟨y, _, rfl⟩ := List.mem_map.1 hx
       omega
     unfold valE at hx
     rw [ho, if_neg (by decide), List.mem_singleton] at hx
     have hm : manyF c o.pre = 0 := by
      unfold preE at hx
      split at hx
      · assumption
      · omega
     have hD : manyF c o.del = 0 := by
      unfold openE at ho
      rw [decide_eq_true (by omega), decide_eq_true hm] at ho
      simp at ho
      omega
     have hD0 := many_zero.1 hD
     congr 1
     refine valF_congr fun p hp => ?_
     rw [hu p hp]
     have := hD0 p hp
     grind
   · subst h6
     by_cases hl : valF c s < c.length
     · obtain ⟨q, h1, h2⟩ := valF_get hl
       have hq := mem_get h1
       by_cases hD : q ∈ o.del
       · have hdl : delAt o c (valF c s) = true := by
          unfold delAt
          rw [show ((valF c s : Nat) : Int).toNat = valF c s by omega, h1, decide_eq_true (by omega)]
          exact decide_eq_true hD
         rw [e1, hdl, if_pos rfl, if_neg (by omega)]
         congr 1
         refine (valF_none fun p hp hm => ?_).symm
         rw [hu p hp] at hm
         have := hs p q hm.1 h2 hp hq
         subst this
         exact hm.2 hD
       · have hdl : delAt o c (valF c s) = false := by
          unfold delAt
          rw [show ((valF c s : Nat) : Int).toNat = valF c s by omega, h1]
          show (_ && decide (q ∈ o.del)) = false
          rw [decide_eq_false hD, Bool.and_false]
         rw [if_pos (by rw [e1, hdl]; rfl)]
         congr 1
         exact (valF_some hc hs' h1 ((hu q hq).2 ⟨h2, hD⟩)).symm
     · have he : valF c s = c.length := by have := valF_le c s; omega
       have hdl : delAt o c (valF c s) = false := by
        unfold delAt
        rw [show ((valF c s : Nat) : Int).toNat = valF c s by omega, he, List.getElem?_eq_none (Nat.le_refl _), Bool.and_false]
       rw [if_pos (by rw [e1, hdl]; rfl)]
       congr 1
       rw [he]
       refine (valF_none fun p hp hm => ?_).symm
       rw [hu p hp] at hm
       exact valF_top hc hs he p hp hm.1
theorem val_ex {o : SOp} {c s : List Int} (hc : SS c) (hs : AM1 c s) (hi : ∀ x ∈ o.pre, x ∈ s) (hp : AM1 c o.pre) : ∃ x ∈ valE o c, x < 0 ∨ (valF c s : Int) = x := by
 unfold valE
 split
 · exact ⟨(valF c s : Int), List.mem_map.2 ⟨valF c s, List.mem_range.2 (by have := valF_le c s; omega), rfl⟩, .inr rfl⟩
 · refine ⟨preE o c, by simp, ?_⟩
   unfold preE
   split
   · exact .inl (by decide)
   · rename_i hm
     have h1 : valF c o.pre < c.length := by
      refine Nat.lt_of_le_of_ne (valF_le _ _) fun e => hm (many_zero.2 (valF_top hc hp e))
     obtain ⟨p, h2, h3⟩ := valF_get h1
     exact .inr (congrArg Int.ofNat (valF_some hc hs h2 (hi p h3)))
theorem setAll_ext {o : SOp} {c s : List Int} {v : Nat} {p : MOp} {x : Int} (u : Nat) (hv : v < s.length) : (setAll s (extE o c v p x).post)[u]? = if postE o c x = x then (setAll s p.post)[u]? else if u = v then some (postE o c x) else (setAll s p.post)[u]? := by
 unfold extE
 by_cases h : postE o c x = x
 · rw [if_pos h, if_pos h, List.append_nil]
 · rw [if_neg h, if_neg h, setAll_snoc]
   show ((setAll s p.post).set ((v : Int)).toNat (postE o c x))[u]? = _
   rw [show ((v : Int)).toNat = v by omega]
   by_cases e : u = v
   · subst e
     rw [if_pos rfl, List.getElem?_set_self (by rw [setAll_len]; exact hv)]
   · rw [if_neg e, List.getElem?_set_ne (by omega)]
theorem verR_post {o : SOp} {cs : List (List Int)} {s : List Int} (hst : ∀ (v : Nat) (c : List Int), cs[v]? = some c → ∀ x ∈ valE o c, (x < 0 ∨ (valF c s : Int) = x) → (if postE o c x = x then (valF c s : Int) else postE o c x) = valF c (updL s o.add o.del)) :
  ∀ k, ∀ p ∈ verR o cs k, holds (valsC cs s) p.pre = true → ∀ (u : Nat) (c : List Int), cs[u]? = some c → (setAll (valsC cs s) p.post)[u]? = if u < k then some (valF c (updL s o.add o.del) : Int) else some (valF c s : Int)
 | 0, p, h, _, u, c, hc => by
  rw [List.mem_singleton.1 h, if_neg (by omega)]
  exact valsC_get hc
 | k + 1, p, h, hh, u, c, hc => by
  rw [verR] at h
  split at h
  · rename_i c' hc'
    obtain ⟨r, hr, x, hx, rfl⟩ := mem_next.1 h
    rw [holds_ext (valsC_get hc'), Bool.and_eq_true] at hh
    have ih := verR_post hst k r hr hh.1 u c hc
    have hv := hst k c' hc' x hx (by simpa using hh.2)
    rw [setAll_ext u (by have := get_lt hc'; simpa [valsC] using this), ih]
    by_cases e : u = k
    · subst e
      rw [hc] at hc'
      cases hc'
      by_cases e2 : postE o c x = x
      · rw [if_pos e2] at hv ⊢
        rw [if_neg (by omega), if_pos (by omega), hv]
      · rw [if_neg e2] at hv ⊢
        rw [if_pos rfl, if_pos (by omega), hv]
    · rw [if_neg e]
      have e1 : (u < k + 1) ↔ u < k := by omega
      simp only [e1]
      split <;> rfl
  · rename_i hn
    have : u ≠ k := fun e => by rw [← e, hc] at hn; cases hn
    rw [verR_post hst k p h hh u c hc]
    have e1 : (u < k + 1) ↔ u < k := by omega
    simp only [e1]
theorem verR_ex {o : SOp} {cs : List (List Int)} {s : List Int} (hex : ∀ c ∈ cs, ∃ x ∈ valE o c, x < 0 ∨ (valF c s : Int) = x) : ∀ k, ∃ p ∈ verR o cs k, holds (valsC cs s) p.pre = true
 | 0 => ⟨_, List.mem_singleton.2 rfl, rfl⟩
 | k + 1 => by
  obtain ⟨p, h1, h2⟩ := verR_ex hex k
  rw [verR]
  split
  · rename_i c hc
    obtain ⟨x, h3, h4⟩ := hex c (mem_get hc)
    refine ⟨extE o c k p x, mem_next.2 ⟨p, h1, x, h3, rfl⟩, ?_⟩
    rw [holds_ext (valsC_get hc), h2]
    simpa using h4
  · exact ⟨p, h1, h2⟩
theorem setAll_vals {o : SOp} {cs : List (List Int)} {s : List Int} {l : List Asg} (h : ∀ (u : Nat) (c : List Int), cs[u]? = some c → (setAll (valsC cs s) l)[u]? = some (valF c (updL s o.add o.del) : Int)) : setAll (valsC cs s) l = valsC cs (updL s o.add o.del) := by
 refine List.ext_getElem? fun u => ?_
 by_cases hu : u < cs.length
 · obtain ⟨c, hc⟩ := get_some hu
   rw [h u c hc, valsC_get hc]
 · rw [List.getElem?_eq_none (by rw [setAll_len]; simp [valsC]; omega), List.getElem?_eq_none (by simp [valsC]; omega)]
def useO (cs : List (List Int)) (o : SOp) : Bool := asgOk cs o.pre && asgOk cs o.add
def opK (cs : List (List Int)) (ops : List SOp) : Nat → List (Nat × MOp)
 | 0 => []
 | k + 1 => opK cs ops k ++ (match ops[k]? with
   | some o => if useO cs o = true then (verF o cs).map fun p => (k, p) else []
   | none => [])
theorem opK_mem {cs : List (List Int)} {ops : List SOp} {e : Nat × MOp} : ∀ {k : Nat}, e ∈ opK cs ops k ↔ e.1 < k ∧ ∃ o, ops[e.1]? = some o ∧ useO cs o = true ∧ e.2 ∈ verF o cs
 | 0 => by simp [opK]
 | k + 1 => by
  rw [opK, List.mem_append, opK_mem]
  constructor
  · rintro (⟨h1, h2⟩ | h)
    · exact ⟨by omega, h2⟩
    · split at h
      · rename_i o ho
        split at h
        · rename_i hu
          obtain ⟨p, hp, rfl⟩ := List.mem_map.1 h
          exact ⟨by show k < k + 1; omega, o, ho, hu, hp⟩
        · cases h
      · cases h
  · rintro ⟨h1, o, h2, h3, h4⟩
    by_cases e1 : e.1 = k
    · refine .inr ?_
      rw [e1] at h2
      rw [h2]
      show e ∈ if useO cs o = true then (verF o cs).map (fun p => (k, p)) else []
      rw [if_pos h3, List.mem_map]
      exact ⟨e.2, h4, by rw [← e1]⟩
    · exact .inl ⟨by omega, o, h2, h3, h4⟩
theorem opK_len {cs : List (List Int)} {ops : List SOp} {o : SOp} {i : Nat} (ho : ops[i]? = some o) (hu : useO cs o = true) : ∀ {k : Nat}, i < k → (verF o cs).length ≤ (opK cs ops k).length
 | 0, h => by omega
 | k + 1, h => by
  rw [opK, List.length_append]
  by_cases e : i = k
  · subst e
    rw [ho]
    show _ ≤ _ + (if useO cs o = true then (verF o cs).map (fun p => (i, p)) else []).length
    rw [if_pos hu, List.length_map]
    omega
  · have := opK_len ho hu (k := k) (by omega)
    omega
theorem opK_mono (cs : List (List Int)) (ops : List SOp) {j k : Nat} (h : j ≤ k) : (opK cs ops j).length ≤ (opK cs ops k).length := by
 induction k with
 | zero =>
  rw [show j = 0 by omega]
  exact Nat.le_refl _
 | succ k ih =>
  by_cases e : j = k + 1
  · rw [e]; exact Nat.le_refl _
  · have := ih (by omega)
    rw [opK, List.length_append]
    omega
def opA (cs : List (List Int)) (t : STask) : List (Nat × MOp) := opK cs t.ops t.ops.length
def wideC (c : List Int) : Bool := decide (6 < (c.length + 1 : Int))
def bigC (cs : List (List Int)) : Bool := decide (cs.length = 0) || decide (8 < cs.length) || cs.any wideC
def mOf (t : STask) (cs : List (List Int)) : MTask := ⟨sizesF cs, valsC cs t.init, asgK cs t.goal cs.length, (opA cs t).map fun e => e.2⟩
section
variable {t : STask} {n : Nat} {gs cs : List (List Int)}
theorem mOf_val (hv : SV t) (hn : t.facts = n) (hC : Cls n gs cs) (hb : bigC cs = false) (hl : (opA cs t).length ≤ 40) : MV (mOf t cs) := by
 unfold bigC at hb
 simp only [Bool.or_eq_false_iff, decide_eq_false_iff_not, List.any_eq_false] at hb
 obtain ⟨⟨h1, h2⟩, h3⟩ := hb
 refine ⟨fun z hz => ?_, ?_, ?_, vals_st cs _, asgK_asB _ _ _, ?_, fun o ho => ?_⟩
 · obtain ⟨c, hc, rfl⟩ := List.mem_map.1 hz
   have := h3 c hc
   unfold wideC at this
   have : ¬ (6 < (c.length + 1 : Int)) := fun q => this (decide_eq_true q)
   omega
 · show (sizesF cs).length ≤ 8
   rw [sizesF, List.length_map]; omega
 · show 1 ≤ (sizesF cs).length
   rw [sizesF, List.length_map]; omega
 · show ((opA cs t).map _).length ≤ 40
   rw [List.length_map]; exact hl
 · obtain ⟨e, he, rfl⟩ := List.mem_map.1 ho
   obtain ⟨h4, o, h5, h6, h7⟩ := opK_mem.1 he
   have h8 := opK_len h5 h6 h4
   rw [verF_eq (by unfold opA at hl; omega)] at h7
   obtain ⟨h9, h10⟩ := verR_asB h7
   have h11 := (verR_ok o cs _ _ h7).1
   have h12 := hv.op o (mem_get h5)
   exact ⟨h9, h10, by rw [h11]; exact h12.c0, by rw [h11]; exact h12.c1⟩
structure Good (n : Nat) (gs : List (List Int)) (s : List Int) : Prop where
 set : IsSet n s
 am : ∀ g ∈ gs, AM1 g s
theorem Good.cls (hC : Cls n gs cs) {s : List Int} (h : Good n gs s) : AMc cs s := fun c hc => by
 rcases hC.part c hc with ⟨g, h1, h2⟩ | ⟨p, h2⟩
 · exact fun x y h3 h4 h5 h6 => h.am g h1 x y h3 h4 (h2 x h5) (h2 y h6)
 · exact fun x y h3 h4 h5 h6 => (h2 x h5).trans (h2 y h6).symm
theorem am1_add {o : SOp} {g s : List Int} (hp : SS o.pre) (hk : keepB o g = true) (hi : ∀ x ∈ o.pre, x ∈ s) (h : AM1 g s) : AM1 g o.add := by
 have hpl : (comL o.pre g).length ≤ 1 := am1_of_len hp fun x y hx hy => h x y (hi x hx) (hi y hy)
 refine am1_len ?_
 unfold keepB at hk
 by_cases h0 : (comL o.add g).length = 0
 · omega
 rw [if_neg (by omega)] at hk
 by_cases h2 : 1 < (comL o.add g).length
 · rw [if_pos h2] at hk; cases hk
 · omega
theorem good_step (hv : SV t) (hn : t.facts = n) (hg : ∀ g ∈ gs, holdB t g = true) {o : SOp} (ho : o ∈ t.ops) {s : List Int} (hs : Good n gs s) (hi : ∀ x ∈ o.pre, x ∈ s) : Good n gs (updL s o.add o.del) := by
 have hO := hv.op o ho
 refine ⟨updL_set hs.set (by rw [← hn]; exact hO.add), fun g h => ?_⟩
 exact am1_step hO.pre.ss (holdB_op (hg g h) ho) hi (hs.am g h)
theorem good_use (hv : SV t) (hg : ∀ g ∈ gs, holdB t g = true) (hC : Cls n gs cs) {o : SOp} (ho : o ∈ t.ops) {s : List Int} (hs : Good n gs s) (hi : ∀ x ∈ o.pre, x ∈ s) : AMc cs o.pre ∧ AMc cs o.add := by
 have hO := hv.op o ho
 constructor
 · exact fun c hc => (hs.cls hC c hc).sub hi
 · intro c hc
   rcases hC.part c hc with ⟨g, h1, h2⟩ | ⟨p, h2⟩
   · have := am1_add hO.pre.ss (holdB_op (hg g h1) ho) hi (hs.am g h1)
     exact fun x y h3 h4 h5 h6 => this x y h3 h4 (h2 x h5) (h2 y h6)
   · exact fun x y h3 h4 h5 h6 => (h2 x h5).trans (h2 y h6).symm
theorem ver_step (hv : SV t) (hn : t.facts = n) (hg : ∀ g ∈ gs, holdB t g = true) (hC : Cls n gs cs) {o : SOp} (ho : o ∈ t.ops) {s : List Int} (hs : Good n gs s) (hi : ∀ x ∈ o.pre, x ∈ s) {p : MOp} (hp : p ∈ verR o cs cs.length) (hh : holds (valsC cs s) p.pre = true) : setAll (valsC cs s) p.post = valsC cs (updL s o.add o.del) := by
 have hO := hv.op o ho
 obtain ⟨u1, u2⟩ := good_use hv hg hC ho hs hi
 have hs' := good_step hv hn hg ho hs hi
 refine setAll_vals fun u c hc => ?_
 rw [verR_post (fun v c hc x hx h => ?_) cs.length p hp hh u c hc, if_pos (get_lt hc)]
 have hm := mem_get hc
 exact val_step (hC.ss c hm) (hs.cls hC c hm) (hs'.cls hC c hm) hO.dis hi (u2 c hm) (u1 c hm) hx h
def encR (n : Nat) (gs cs : List (List Int)) (a b : W32) : Prop := ∃ s, Good n gs s ∧ a = word s ∧ b = word (stS (sizesF cs) (valsC cs s))
theorem enc_bis (hv : SV t) (hn : t.facts = n) (hg : ∀ g ∈ gs, holdB t g = true) (hC : Cls n gs cs) (hb : bigC cs = false) (hl : (opA cs t).length ≤ 40) (hG : AMc cs t.goal) (hsm : sumL (sizesF cs) ≤ 24) : Bis (wdOf t) (wdOf (mStrips (mOf t cs))) (encR n gs cs) := by
 have hm := mOf_val hv hn hC hb hl
 have hv2 := mStrips_sv hm hsm
 have hrng : ∀ z ∈ sizesF cs, 1 ≤ z ∧ z ≤ 6 := hm.rng
 have hin : ∀ {s : List Int}, Good n gs s → In32 s := fun h => in32_of hv (by rw [hn]; exact h.set)
 have hst : ∀ s, IsSet (sumL (sizesF cs)) (stS (sizesF cs) (valsC cs s)) := fun s => ⟨stS_ss hrng (vals_st cs s), fun x hx => by
  obtain ⟨v, y, h1, rfl⟩ := stS_vx (vals_st cs s) hx
  exact fv_rng hrng h1⟩
 have hin2 : ∀ s, In32 (stS (sizesF cs) (valsC cs s)) := fun s => in32_of hv2 (hst s)
 have h0 : Good n gs t.init := ⟨by rw [← hn]; exact hv.init, fun g h => holdB_init (hg g h)⟩
 have hops : ∀ i : Nat, (mStrips (mOf t cs)).ops[i]? = ((opA cs t)[i]?).map fun (e : Nat × MOp) => opT (baseFrom 0 (sizesF cs)) (sizesF cs) e.2 := fun i => by
  show (((opA cs t).map fun e => e.2).map _)[i]? = _
  rw [List.getElem?_map, List.getElem?_map]
  cases (opA cs t)[i]? <;> rfl
 have hver : ∀ {e : Nat × MOp}, e ∈ opA cs t → ∃ o, o ∈ t.ops ∧ t.ops[e.1]? = some o ∧ useO cs o = true ∧ e.2 ∈ verR o cs cs.length := fun {e} he => by
  obtain ⟨h4, o, h5, h6, h7⟩ := opK_mem.1 he
  have h8 := opK_len h5 h6 h4
  rw [verF_eq (by unfold opA at hl; omega)] at h7
  exact ⟨o, mem_get h5, h5, h6, h7⟩
 refine ⟨⟨t.init, h0, rfl, ?_⟩, ?_, ?_, ?_, ?_, ?_⟩
 · show word (mStrips (mOf t cs)).init = _
   rw [init_sim hm]
   rfl
 · rintro a b ⟨s, hs, rfl, rfl⟩
   rw [goal_word hv (hin hs), goal_word hv2 (hin2 s)]
   show _ = inclB ((asgK cs t.goal cs.length).map (factAt (baseFrom 0 (sizesF cs)))) _
   rw [incl_holds hrng (vals_st cs s) (asgK_asB _ _ _), holds_asg hC (by rw [← hn]; exact hv.goal) hG (hs.cls hC)]
 · rintro a b ⟨s, hs, rfl, rfl⟩ e he
   obtain ⟨o, h1, h2, h3, h4⟩ := (mem_steps hv (hin hs)).1 he
   have hom := mem_get h1
   have hi : ∀ x ∈ o.pre, x ∈ s := fun x hx => of_decide_eq_true (List.all_eq_true.1 h2 x hx)
   obtain ⟨u1, u2⟩ := good_use hv hg hC hom hs hi
   have hu : useO cs o = true := by unfold useO; rw [(asgOk_iff hC).2 u1, (asgOk_iff hC).2 u2]; rfl
   obtain ⟨p, hp, hh⟩ := verR_ex (o := o) (cs := cs) (s := s) (fun c hc => val_ex (hC.ss c hc) (hs.cls hC c hc) hi (u1 c hc)) cs.length
   have hlt := get_lt h1
   have h8 := opK_len h1 hu hlt
   have hpm : (e.1, p) ∈ opA cs t := opK_mem.2 ⟨hlt, o, h1, hu, by rw [verF_eq (by unfold opA at hl; omega)]; exact hp⟩
   obtain ⟨i, hi2, hie⟩ := List.getElem_of_mem hpm
   have hgi : (opA cs t)[i]? = some (e.1, p) := by rw [← hie]; exact List.getElem?_eq_getElem hi2
   have hcost := (verR_ok o cs _ p hp).1
   have hB := verR_asB hp
   refine ⟨(i, p.cost, word (updL (stS (sizesF cs) (valsC cs s)) (p.post.map (factAt (baseFrom 0 (sizesF cs)))) (dels (baseFrom 0 (sizesF cs)) (sizesF cs) p.post))), (mem_steps hv2 (hin2 s)).2 ⟨opT (baseFrom 0 (sizesF cs)) (sizesF cs) p, ?_, ?_, rfl, rfl⟩, ?_, ?_⟩
   · rw [hops, hgi]; rfl
   · show inclB (p.pre.map (factAt (baseFrom 0 (sizesF cs)))) _ = true
     rw [incl_holds hrng (vals_st cs s) hB.1]
     exact hh
   · show p.cost = e.2.1
     rw [hcost, h3]
   · refine ⟨updL s o.add o.del, good_step hv hn hg hom hs hi, h4, ?_⟩
     show word (updL _ _ _) = _
     rw [upd_sim hrng (vals_st cs s) hB.2, ver_step hv hn hg hC hom hs hi hp hh]
 · rintro a b ⟨s, hs, rfl, rfl⟩ e he
   obtain ⟨q, h1, h2, h3, h4⟩ := (mem_steps hv2 (hin2 s)).1 he
   rw [hops] at h1
   obtain ⟨⟨i, p⟩, h5, h6⟩ := Option.map_eq_some_iff.1 h1
   subst h6
   obtain ⟨o, hom, hoi, hu, hp⟩ := hver (mem_get h5)
   have hB := verR_asB hp
   have hh : holds (valsC cs s) p.pre = true := by
    rw [← incl_holds hrng (vals_st cs s) hB.1]
    exact h2
   unfold useO at hu
   rw [Bool.and_eq_true] at hu
   have hO := hv.op o hom
   have hi : ∀ x ∈ o.pre, x ∈ s := fun x hx => by
    have hr := hO.pre.rng x hx
    obtain ⟨c, hc, hxc⟩ := hC.all x hr.1 (by omega)
    obtain ⟨v, hv', e'⟩ := List.getElem_of_mem hc
    have hgv : cs[v]? = some c := by rw [← e']; exact List.getElem?_eq_getElem hv'
    exact verR_pre hC ((asgOk_iff hC).1 hu.1) cs.length p hp hh v c hv' hgv x hxc hx
   refine ⟨(i, o.cost, word (updL s o.add o.del)), (mem_steps hv (hin hs)).2 ⟨o, hoi, List.all_eq_true.2 fun x hx => decide_eq_true (hi x hx), rfl, rfl⟩, ?_, ?_⟩
   · rw [h3]
     exact (verR_ok o cs _ p hp).1.symm
   · refine ⟨updL s o.add o.del, good_step hv hn hg hom hs hi, rfl, ?_⟩
     rw [h4]
     show word (updL _ (p.post.map (factAt (baseFrom 0 (sizesF cs)))) (dels (baseFrom 0 (sizesF cs)) (sizesF cs) p.post)) = _
     rw [upd_sim hrng (vals_st cs s) hB.2, ver_step hv hn hg hC hom hs hi hp hh]
 · rintro a b b' ⟨s, hs, h1, rfl⟩ ⟨s', hs', h2, rfl⟩
   have : s = s' := by rw [← facts_word hs.set.ss (hin hs), ← h1, h2, facts_word hs'.set.ss (hin hs')]
   rw [this]
 · rintro a a' b ⟨s, hs, rfl, h1⟩ ⟨s', hs', rfl, h2⟩
   have h3 : stS (sizesF cs) (valsC cs s) = stS (sizesF cs) (valsC cs s') := by rw [← facts_word (hst s).ss (hin2 s), ← h1, h2, facts_word (hst s').ss (hin2 s')]
   have h4 : valsC cs s = valsC cs s' := by
    refine List.ext_getElem? fun u => ?_
    by_cases hu : u < cs.length
    · obtain ⟨c, hc⟩ := get_some hu
      rw [valsC_get hc]
      have h5 := vx_st (vals_st cs s) (valsC_get hc)
      have h6 := (mem_stS hrng (vals_st cs s) h5).2 (valsC_get hc)
      rw [h3] at h6
      exact ((mem_stS hrng (vals_st cs s') h5).1 h6).symm
    · rw [List.getElem?_eq_none (by simp [valsC]; omega), List.getElem?_eq_none (by simp [valsC]; omega)]
   rw [vals_inj hC hs.set hs'.set (hs.cls hC) (hs'.cls hC) h4]
theorem good_reach (hv : SV t) (hn : t.facts = n) (hg : ∀ g ∈ gs, holdB t g = true) {w : W32} (h : Reach (wdOf t) w) : ∃ s, Good n gs s ∧ w = word s := by
 induction h with
 | start => exact ⟨t.init, ⟨by rw [← hn]; exact hv.init, fun g h => holdB_init (hg g h)⟩, rfl⟩
 | step _ he ih =>
  obtain ⟨s, hs, rfl⟩ := ih
  obtain ⟨o, h1, h2, _, h4⟩ := (mem_steps hv (in32_of hv (by rw [hn]; exact hs.set))).1 he
  have hi : ∀ x ∈ o.pre, x ∈ s := fun x hx => of_decide_eq_true (List.all_eq_true.1 h2 x hx)
  exact ⟨_, good_step hv hn hg (mem_get h1) hs hi, h4⟩
theorem no_way (hv : SV t) (hn : t.facts = n) (hg : ∀ g ∈ gs, holdB t g = true) (hC : Cls n gs cs) (hG : ¬ AMc cs t.goal) {w : W32} {c : Int} (hw : WayTo (wdOf t) w c) : ¬ Reach (wdOf t) w := by
 induction hw with
 | goal h =>
  intro hr
  obtain ⟨s, hs, rfl⟩ := good_reach hv hn hg hr
  rw [goal_word hv (in32_of hv (by rw [hn]; exact hs.set))] at h
  exact hG fun c hc => (hs.cls hC c hc).sub fun x hx => of_decide_eq_true (List.all_eq_true.1 h x hx)
 | step he _ ih => exact fun hr => ih (.step hr he)
theorem no_least (hv : SV t) (hn : t.facts = n) (hg : ∀ g ∈ gs, holdB t g = true) (hC : Cls n gs cs) (hG : ¬ AMc cs t.goal) : Least (wdOf t) (wdOf t).start INF :=
 ⟨Int.le_refl _, fun c hw => absurd .start (no_way hv hn hg hC hG hw), .inl rfl⟩
end
end Hm
end
section
namespace Hm
open Go
set_option maxRecDepth 100000
set_option maxHeartbeats 1000000
section
variable {G : Type} {P : Program} {H : HT G} {pn : List Nat} {Q : Exit → Env → Store → G → Prop} {fs : List (Frm G)} {ρ : Env} {σ : Store} {g : G} {r : List GItem} {d : Nat} {st : Bool} {et : List LT} {x y : Opd}
theorem w_and {a b : W32} (hx : ev ρ x = u32V a) (hy : ev ρ y = u32V b) (h : WI P H pn Q fs r (upd ρ d (u32V (a &&& b))) σ g) : WI P H pn Q fs (.op (some d) none (.bin .and st et x y) :: r) ρ σ g := i_out (by
 simp only [AWop, hx, hy, u32V, abin, kEq, cond_true]
 rw [show IntKind.u32.bits = 32 from rfl, u32_ofInt, u32_ofInt, u32_wrap]
 exact h.out)
theorem w_or {a b : W32} (hx : ev ρ x = u32V a) (hy : ev ρ y = u32V b) (h : WI P H pn Q fs r (upd ρ d (u32V (a ||| b))) σ g) : WI P H pn Q fs (.op (some d) none (.bin .or st et x y) :: r) ρ σ g := i_out (by
 simp only [AWop, hx, hy, u32V, abin, kEq, cond_true]
 rw [show IntKind.u32.bits = 32 from rfl, u32_ofInt, u32_ofInt, u32_wrap]
 exact h.out)
theorem w_andn {a b : W32} (hx : ev ρ x = u32V a) (hy : ev ρ y = u32V b) (h : WI P H pn Q fs r (upd ρ d (u32V (a &&& ~~~ b))) σ g) : WI P H pn Q fs (.op (some d) none (.bin .andNot st et x y) :: r) ρ σ g := i_out (by
 simp only [AWop, hx, hy, u32V, abin, kEq, cond_true]
 rw [show IntKind.u32.bits = 32 from rfl, u32_ofInt, u32_ofInt, u32_wrap]
 exact h.out)
theorem bit_wrap (p : Int) : IntKind.u32.wrap ((1 : Int) * 2 ^ (min p.toNat IntKind.u32.bits)) = ((bit p).toNat : Int) := by
 have e : ∀ m : Nat, m ≤ 32 → IntKind.u32.wrap ((1 : Int) * 2 ^ m) = ((BitVec.ofNat 32 (2 ^ m)).toNat : Int) := by decide
 exact e _ (by show min p.toNat 32 ≤ 32; omega)
theorem w_bit {p : Int} {k : IntKind} (hx : ev ρ x = .int .u32 1) (hy : ev ρ y = .int k p) (h0 : 0 ≤ p) (h : WI P H pn Q fs r (upd ρ d (u32V (bit p))) σ g) : WI P H pn Q fs (.op (some d) none (.bin .shl st et x y) :: r) ρ σ g := i_out (by
 simp only [AWop, hx, hy, abin]
 refine ⟨h0, ?_⟩
 rw [bit_wrap]
 exact h.out)
theorem shr_bit (w : W32) (q : Nat) (hq : q < 32) : IntKind.u32.wrap ((BitVec.ofInt IntKind.u32.bits (((w.toNat : Int)).fdiv (2 ^ (min q IntKind.u32.bits))) &&& BitVec.ofInt IntKind.u32.bits 1).toNat) = if w.getLsbD q = true then 1 else 0 := by
 have e1 : min q IntKind.u32.bits = q := by show min q 32 = q; omega
 rw [e1]
 have e2 : ((w.toNat : Int)).fdiv (2 ^ q) = ((w.toNat >>> q : Nat) : Int) := by
  rw [Int.fdiv_eq_ediv_of_nonneg _ (Int.le_of_lt (Int.pow_pos (by decide))), Nat.shiftRight_eq_div_pow, Int.natCast_ediv, Int.natCast_pow]
  rfl
 rw [e2]
 show IntKind.u32.wrap ((BitVec.ofInt 32 ((w.toNat >>> q : Nat) : Int) &&& BitVec.ofInt 32 1).toNat) = _
 have e3 : BitVec.ofInt 32 ((w.toNat >>> q : Nat) : Int) = w >>> q := by
  rw [BitVec.ofInt_natCast]
  apply BitVec.eq_of_toNat_eq
  rw [BitVec.toNat_ofNat, BitVec.toNat_ushiftRight]
  have := w.isLt
  exact Nat.mod_eq_of_lt (Nat.lt_of_le_of_lt (Nat.shiftRight_le _ _) this)
 rw [e3]
 have e4 : (w >>> q &&& BitVec.ofInt 32 1) = if w.getLsbD q = true then 1#32 else 0#32 := by
  have e5 : BitVec.ofInt 32 1 = 1#32 := rfl
  rw [e5]
  refine BitVec.eq_of_getLsbD_eq fun i hi => ?_
  rw [BitVec.getLsbD_and, BitVec.getLsbD_ushiftRight]
  have h1 : (1#32 : W32).getLsbD i = decide (i = 0) := by
   rw [BitVec.getLsbD_one]
   simp
  rw [h1]
  by_cases c : i = 0
  · subst c
    cases h : w.getLsbD q <;> simp [h]
  · cases h : w.getLsbD q <;> simp [c, h1]
 rw [e4]
 split <;> rfl
end
def c_space_Word : Cmd :=
 (qS [qq 2 (.mov (.c (.int .u32 0)))]
 (qS [qq 3 (.mov (.c (.int .u32 0)))]
 (qT (qS [qm 6 0, qn 7 6, qc 8 0]
 (.block 0 (.loop (qS [qu 9 .lss [] 8 7]
 (qT (.cond (.t 9) .skip (.exit 0))
 (qT (.block 1 (qS [qi 10 1 6 8, ql 11 1 10, qm 5 11]
 (.ops [qm 12 3, qm 13 5, qq 14 (.bin .shl false [] (.c (.int .u32 1)) (.t 13)), qu 15 .or [] 12 14, qm 3 15])))
 (.ops [qv 16 .add [] 8 1, qm 8 16])))))))
 (.seq (.ops [qm 17 3, qm 2 17]) .ret))))
def r_space_Word : List RVar := [.tmp 2]
def n_space_Word : Nat := 18
theorem k_space_Word : chkFn PG 112 n_space_Word r_space_Word c_space_Word = true := by kernel_rfl
theorem f_space_Word (s : List Int) (hs : ∀ p ∈ s, 0 ≤ p ∧ p < 32) (hl : s.length ≤ 140737488355328) : Fc PG 112 [.sl .p (s.map i64V)] (u32V (word s)) := by
 refine Fn.step mixed k_space_Word ?_
 repeat (first | refine i_len rfl ?_ | refine i_s rfl ?_ | refine sw ?_)
 refine c_for s.length (fun k => [(3, u32V (word (s.take k))), (6, .sl .p (s.map i64V)), (7, .int .i64 s.length), (8, .int .i64 k)]) (fun _ => []) (fun _ => True) trivial ft fun k hk _ => ?_
 repeat (first | refine i_s rfl ?_ | refine sw ?_)
 refine c_cond rfl (fun h => ?_) (fun h => ?_)
 · have hlt : k < s.length := by simpa using h
   obtain ⟨p, hp⟩ := get_some hlt
   have hr := hs p (mem_get hp)
   clear h
   have et : word (s.take (k + 1)) = word (s.take k) ||| bit p := by
    rw [List.take_add_one, hp]
    exact wordG_snoc _ _ _
   repeat' (first | refine i_s rfl ?_ | refine sw ?_ | refine ja rfl rfl ?_ | refine jd rfl rfl ?_ | refine w_bit rfl rfl hr.1 ?_ | refine w_or rfl rfl ?_)
   refine e_for hlt trivial ⟨⟨?_, rfl, rfl, rfl, trivial⟩, trivial, rfl⟩
   rw [et]
   rfl
 · have hge : ¬ k < s.length := by simpa using h
   have ek : s.take k = s := List.take_of_length_le (by omega)
   repeat' (first | refine i_s rfl ?_ | refine sw ?_ | fail)
   exact e_ret ⟨rfl, _, rfl, by rw [ek]; rfl⟩
def c_space_Words_Start : Cmd :=
 (qS [qq 2 (.mov (.c (.int .u32 0)))]
 (.seq (.ops [qm 3 0, qq 4 (.nilck (.t 3)), qf 5 0 4, ql 6 1 5, qm 2 6]) .ret))
def r_space_Words_Start : List RVar := [.tmp 2]
def n_space_Words_Start : Nat := 7
theorem k_space_Words_Start : chkFn PG 32 n_space_Words_Start r_space_Words_Start c_space_Words_Start = true := by kernel_rfl
theorem f_space_Words_Start (w : Wd) : Fc PG 32 [.cptr .p (wdR w) 0] (u32V w.start) := by
 refine Fn.step mixed k_space_Words_Start ?_
 repeat' (first | refine i_s rfl ?_ | refine sw ?_ | fail)
 exact e_ret ⟨rfl, _, rfl, rfl⟩
theorem factsTo_len (w : W32) : ∀ n, (factsTo w n).length ≤ n
 | 0 => Nat.le_refl _
 | n + 1 => by
  have := factsTo_len w n
  rw [factsTo, List.length_append]
  split <;> simp <;> omega
theorem u32_beq (a b : W32) : ((a.toNat : Int) == (b.toNat : Int)) = (a == b) := by
 by_cases h : a = b
 · subst h; simp
 · have h1 : (a == b) = false := by simpa using h
   have h2 : ¬ a.toNat = b.toNat := fun e => h (BitVec.eq_of_toNat_eq e)
   rw [h1]
   simp only [beq_eq_false_iff_ne, ne_eq, Int.natCast_inj]
   exact h2
def c_space_Facts : Cmd :=
 (qS [qq 2 (.mov (.c (.sl .nil [])))]
 (qS [qq 3 (.newVec 4224193)]
 (qT (qS [qc 5 0]
 (.block 0 (.loop (qS [qv 6 .lss [] 5 32]
 (qT (.cond (.t 6) .skip (.exit 0))
 (qT (.block 1 (qS [qm 7 5, qm 4 7]
 (qS [qm 8 0, qm 9 4, qu 10 .shr [] 8 9, qq 11 (.bin .and false [] (.t 10) (.c (.int .u32 1))), qq 12 (.bin .eql false [.i] (.t 11) (.c (.int .u32 1)))]
 (.cond (.t 12) (.ops [qm 13 3, qm 14 4, qq 15 (.bsl 1 [.t 14]), qq 16 (.append 1 8 3 (.t 13) (.t 15)), qm 3 16]) .skip))))
 (.ops [qv 17 .add [] 5 1, qm 5 17])))))))
 (.seq (.ops [qm 18 3, qm 2 18]) .ret))))
def r_space_Facts : List RVar := [.tmp 2]
def n_space_Facts : Nat := 19
theorem k_space_Facts : chkFn PG 66 n_space_Facts r_space_Facts c_space_Facts = true := by kernel_rfl
theorem f_space_Facts (w : W32) : Fc PG 66 [u32V w] (.sl .p ((facts w).map i64V)) := by
 refine Fn.step mixed k_space_Facts ?_
 repeat (first | refine i_s rfl ?_ | refine sw ?_ | refine i_nv rfl ?_)
 refine c_for 32 (fun k => [(0, u32V w), (3, .sl (.own 4224193) ((factsTo w k).map i64V)), (5, .int .i64 k)]) (fun k => [(4224193, .vec (factsTo w k).length)]) (fun _ => True) trivial ft fun k hk _ => ?_
 repeat (first | refine i_s rfl ?_ | refine sw ?_)
 refine c_cond rfl (fun h => ?_) (fun h => ?_)
 · have hlt : k < 32 := by have : (k : Int) < 32 := by simpa using h
                           omega
   clear h
   have hlen := factsTo_len w k
   have hq := shr_bit w k hlt
   cases hb : w.getLsbD k with
   | true =>
    have et : factsTo w (k + 1) = factsTo w k ++ [(k : Int)] := by rw [factsTo, if_pos hb]
    rw [hb, if_pos rfl] at hq
    repeat' (first | refine i_s rfl ?_ | refine sw ?_ | refine c_t rfl ?_ | refine ja rfl rfl ?_ | refine i_shr rfl rfl (by omega) rfl ?_ | refine i_and rfl rfl rfl hq ?_ | refine i_appM (c := (k : Int)) rfl rfl rfl rfl rfl (by omega) (by omega) ?_)
    all_goals first
     | (exfalso; simp at *; done)
     | (refine e_for hlt trivial ⟨⟨rfl, ?_, rfl, trivial⟩, ⟨?_, trivial⟩, rfl⟩
        · rw [et]; rfl
        · rw [et, List.length_append]; rfl)
   | false =>
    have et : factsTo w (k + 1) = factsTo w k := by rw [factsTo, if_neg (by rw [hb]; decide)]; simp
    rw [hb, if_neg (by decide)] at hq
    repeat' (first | refine i_s rfl ?_ | refine sw ?_ | refine c_f rfl ?_ | refine ja rfl rfl ?_ | refine i_shr rfl rfl (by omega) rfl ?_ | refine i_and rfl rfl rfl hq ?_)
    all_goals first
     | (exfalso; simp at *; done)
     | (refine e_for hlt trivial ⟨⟨rfl, ?_, rfl, trivial⟩, ⟨?_, trivial⟩, rfl⟩
        · rw [et]; rfl
        · rw [et]; rfl)
 · have hge : k = 32 := by have : ¬ (k : Int) < 32 := by simpa using h
                           omega
   subst hge
   repeat' (first | refine i_s rfl ?_ | refine sw ?_ | fail)
   exact e_ret ⟨rfl, _, rfl, rfl⟩
def c_space_Words_Goal : Cmd :=
 (qS [qb 4 false]
 (.seq (.ops [qm 5 1, qm 6 0, qq 7 (.nilck (.t 6)), qf 8 1 7, ql 9 1 8, qu 10 .and [] 5 9, qm 11 0, qq 12 (.nilck (.t 11)), qf 13 1 12, ql 14 1 13, qu 15 .eql [.i] 10 14, qm 4 15]) .ret))
def r_space_Words_Goal : List RVar := [.tmp 4]
def n_space_Words_Goal : Nat := 16
theorem k_space_Words_Goal : chkFn PG 68 n_space_Words_Goal r_space_Words_Goal c_space_Words_Goal = true := by kernel_rfl
theorem f_space_Words_Goal (w : Wd) (s : W32) : Fc PG 68 [.cptr .p (wdR w) 0, u32V s] (.bool (w.isGoal s)) := by
 refine Fn.step mixed k_space_Words_Goal ?_
 repeat' (first | refine i_s rfl ?_ | refine sw ?_ | refine w_and rfl rfl ?_)
 all_goals exact e_ret ⟨rfl, _, rfl, congrArg V.bool (u32_beq _ _).symm⟩
end Hm
end
section
namespace Hm
open Go
set_option maxRecDepth 100000
set_option maxHeartbeats 4000000
theorem f_isNaN_int (a : Int) : Fc PG 105 [.int .i64 a] (.bool false) := by
 refine Fn.step mixed k_cmp_isNaN_int ?_
 repeat' (first | refine i_s rfl ?_ | refine sw ?_ | fail)
 all_goals first
  | exact e_ret ⟨rfl, _, rfl, congrArg V.bool (by simp)⟩
def c_cmp_Compare_int : Cmd :=
 (qS [qc 4 0]
 (qS [qm 7 0, qk 8 105 [7], qm 5 8]
 (qS [qm 9 1, qk 10 105 [9], qm 6 10]
 (qT (qS [qm 11 5]
 (.cond (.t 11) (qT (qS [qm 12 6]
 (.cond (.t 12) (.seq (.ops [qc 4 0]) .ret) .skip))
 (.seq (.ops [qc 4 (-1)]) .ret)) .skip))
 (qT (qS [qm 13 6]
 (.cond (.t 13) (.seq (.ops [qc 4 1]) .ret) .skip))
 (qT (qS [qm 14 0, qm 15 1, qu 16 .lss [] 14 15]
 (.cond (.t 16) (.seq (.ops [qc 4 (-1)]) .ret) .skip))
 (qT (qS [qm 17 0, qm 18 1, qu 19 .gtr [] 17 18]
 (.cond (.t 19) (.seq (.ops [qc 4 1]) .ret) .skip))
 (.seq (.ops [qc 4 0]) .ret))))))))
def r_cmp_Compare_int : List RVar := [.tmp 4]
def n_cmp_Compare_int : Nat := 20
theorem k_cmp_Compare_int : chkFn PG 54 n_cmp_Compare_int r_cmp_Compare_int c_cmp_Compare_int = true := by kernel_rfl
theorem f_Compare_int (a b : Int) : Fc PG 54 [.int .i64 a, .int .i64 b] (.int .i64 (signI a b)) := by
 refine Fn.step mixed k_cmp_Compare_int ?_
 repeat' (first | refine i_s rfl ?_ | refine sw ?_ | refine c_f rfl ?_ | refine c_cond rfl (fun h => ?_) (fun h => ?_) | refine sf rfl rfl (f_isNaN_int a) ?_ | refine sf rfl rfl (f_isNaN_int b) ?_ | fail)
 all_goals first
  | (exfalso; simp at *; done)
  | (refine e_ret ⟨rfl, _, rfl, congrArg (V.int .i64) ?_⟩; unfold signI; simp at *; (repeat' split) <;> omega)
def c_slices_Compare_int : Cmd :=
 (qS [qc 4 0]
 (qT (qS [qm 9 0, qn 10 9, qc 11 0]
 (.block 0 (.loop (qS [qu 12 .lss [] 11 10]
 (qT (.cond (.t 12) .skip (.exit 0))
 (qT (.block 1 (qS [qm 13 11, qi 14 1 9 11, ql 15 1 14, qm 5 13, qm 6 15]
 (qT (qS [qm 16 5, qm 17 1, qn 18 17, qu 19 .geq [] 16 18]
 (.cond (.t 19) (.seq (.ops [qc 4 1]) .ret) .skip))
 (qS [qm 20 1, qm 21 5, qi 22 1 20 21, ql 23 1 22, qm 7 23]
 (qS [qm 24 6, qm 25 7, qk 26 54 [24, 25], qm 8 26]
 (qS [qm 27 8, qv 28 .neq [.i] 27 0]
 (.cond (.t 28) (.seq (.ops [qm 29 8, qm 4 29]) .ret) .skip)))))))
 (.ops [qv 30 .add [] 11 1, qm 11 30])))))))
 (qT (qS [qm 31 0, qn 32 31, qm 33 1, qn 34 33, qu 35 .lss [] 32 34]
 (.cond (.t 35) (.seq (.ops [qc 4 (-1)]) .ret) .skip))
 (.seq (.ops [qc 4 0]) .ret))))
def r_slices_Compare_int : List RVar := [.tmp 4]
def n_slices_Compare_int : Nat := 36
theorem k_slices_Compare_int : chkFn PG 19 n_slices_Compare_int r_slices_Compare_int c_slices_Compare_int = true := by kernel_rfl
theorem f_slices_Compare (a b : List Int) (ha : a.length ≤ 140737488355328) (hb : b.length ≤ 140737488355328) : Fc PG 19 [.sl .p (a.map i64V), .sl .p (b.map i64V)] (.int .i64 (cmpL a b)) := by
 refine Fn.step mixed k_slices_Compare_int ?_
 repeat (first | refine i_len rfl ?_ | refine i_s rfl ?_ | refine sw ?_)
 refine c_for a.length (fun k => [(0, .sl .p (a.map i64V)), (1, .sl .p (b.map i64V)), (9, .sl .p (a.map i64V)), (10, .int .i64 a.length), (11, .int .i64 k)]) (fun _ => []) (fun k => k ≤ b.length ∧ a.take k = b.take k) (by simp) ft fun k hk hi => ?_
 obtain ⟨hkb, hi⟩ := hi
 repeat (first | refine i_s rfl ?_ | refine sw ?_)
 refine c_cond rfl (fun h => ?_) (fun h => ?_)
 · have hlt : k < a.length := by simpa using h
   obtain ⟨x, hx⟩ := get_some hlt
   clear h
   by_cases hk2 : k < b.length
   · obtain ⟨y, hy⟩ := get_some hk2
     by_cases hxy : x = y
     · have hz : signI x y = 0 := signI_zero.2 hxy
       have hs := f_Compare_int x y
       rw [hz] at hs
       repeat' (first | refine i_len rfl ?_ | refine i_s rfl ?_ | refine sw ?_ | refine c_f rfl ?_ | refine ja rfl rfl ?_ | refine jd rfl rfl ?_ | refine c_cond rfl (fun h => ?_) (fun h => ?_) | refine sf rfl rfl hs ?_ | fail)
       all_goals first
        | (exact e_for hlt ⟨hk2, by rw [take_succ_get hx, take_succ_get hy, hi, hxy]⟩ ft)
        | (exfalso; clear hs; simp at *; omega)
     · have hz : signI x y ≠ 0 := fun h => hxy (signI_zero.1 h)
       rw [cmpL_at hi hx hy hxy]
       have hs := f_Compare_int x y
       generalize signI x y = z at *
       repeat' (first | refine i_len rfl ?_ | refine i_s rfl ?_ | refine sw ?_ | refine ja rfl rfl ?_ | refine jd rfl rfl ?_ | refine c_cond rfl (fun h => ?_) (fun h => ?_) | refine sf rfl rfl hs ?_ | fail)
       all_goals first
        | exact e_ret ⟨rfl, _, rfl, rfl⟩
        | (exfalso; clear hs; simp at *; omega)
   · rw [cmpL_end hi (by omega) hkb (.inr (by omega))]
     have hz : signI a.length b.length = 1 := by unfold signI; rw [if_neg (by omega), if_pos (by omega)]
     rw [hz]
     repeat' (first | refine i_len rfl ?_ | refine i_s rfl ?_ | refine sw ?_ | refine jd rfl rfl ?_ | refine c_cond rfl (fun h => ?_) (fun h => ?_))
     all_goals first
      | exact e_ret ⟨rfl, _, rfl, rfl⟩
      | (exfalso; simp at *; omega)
 · have hge : ¬ k < a.length := by simpa using h
   clear h
   rw [cmpL_end hi (by omega) hkb (.inl (by omega))]
   repeat' (first | refine i_len rfl ?_ | refine i_s rfl ?_ | refine sw ?_ | refine c_cond rfl (fun h => ?_) (fun h => ?_))
   all_goals first
    | (refine e_ret ⟨rfl, _, rfl, congrArg (V.int .i64) ?_⟩; unfold signI; simp at *; (repeat' split) <;> omega)
theorem facts_len (w : W32) : (facts w).length ≤ 32 := factsTo_len w 32
def c_space_Checked_1 : Cmd :=
 (qS [qc 4 0]
 (.seq (.ops [qm 5 0, qk 6 66 [5], qm 7 1, qk 8 66 [7], qk 9 19 [6, 8], qm 4 9]) .ret))
def r_space_Checked_1 : List RVar := [.tmp 4]
def n_space_Checked_1 : Nat := 10
theorem k_space_Checked_1 : chkFn PG 65 n_space_Checked_1 r_space_Checked_1 c_space_Checked_1 = true := by kernel_rfl
theorem f_space_Checked_1 (a b : W32) : Fc PG 65 [u32V a, u32V b] (.int .i64 (cmpL (facts a) (facts b))) := by
 have la := facts_len a
 have lb := facts_len b
 have h1 := f_space_Facts a
 have h2 := f_space_Facts b
 have h3 := f_slices_Compare (facts a) (facts b) (by omega) (by omega)
 refine Fn.step mixed k_space_Checked_1 ?_
 repeat' (first | refine i_s rfl ?_ | refine sw ?_ | refine sf rfl rfl h1 ?_ | refine sf rfl rfl h2 ?_ | refine sf rfl rfl h3 ?_ | fail)
 exact e_ret ⟨rfl, _, rfl, rfl⟩
end Hm
end
section
namespace Hm
open Go
set_option maxRecDepth 100000
set_option maxHeartbeats 1000000
def c_multi_IsState : Cmd :=
 (qS [qx 2 4736132 4 0, qb 4 false]
 (qT (qS [qm 7 1, qn 8 7, qf 9 0 2, ql 10 1 9, qn 11 10, qu 12 .neq [.i] 8 11]
 (.cond (.t 12) (.seq (.ops [qb 4 false]) .ret) .skip))
 (qT (qS [qm 13 1, qn 14 13, qc 15 0]
 (.block 0 (.loop (qS [qu 16 .lss [] 15 14]
 (qT (.cond (.t 16) .skip (.exit 0))
 (qT (.block 1 (qS [qm 17 15, qi 18 1 13 15, ql 19 1 18, qm 5 17, qm 6 19]
 (qS [qm 20 6, qv 21 .lss [] 20 0, qm 22 21, qg 23 22 false (.mov (.t 6)), qg 24 22 false (.faddr 0 (.t 2)), qg 25 22 false (.load false 1 (.t 24)), qg 26 22 false (.mov (.t 5)), qg 27 22 false (.iaddr 1 (.t 25) (.t 26)), qg 28 22 false (.load false 1 (.t 27)), qg 29 22 false (.bin .geq false [] (.t 23) (.t 28)), qq 30 (.pick (.t 22) (.c (.bool true)) (.t 29))]
 (.cond (.t 30) (.seq (.ops [qb 4 false]) .ret) .skip))))
 (.ops [qv 31 .add [] 15 1, qm 15 31])))))))
 (.seq (.ops [qb 4 true]) .ret))))
def r_multi_IsState : List RVar := [.tmp 4]
def n_multi_IsState : Nat := 32
theorem k_multi_IsState : chkFn PG 74 n_multi_IsState r_multi_IsState c_multi_IsState = true := by kernel_rfl
theorem f_multi_IsState (m : MTask) (s : List Int) (hs : s.length ≤ 140737488355328) : Fc PG 74 [mtV m, .sl .p (s.map i64V)] (.bool (stB m.sizes s)) := by
 refine Fn.step mixed k_multi_IsState ?_
 repeat' (first | refine i_len rfl ?_ | refine i_s rfl ?_ | refine sw ?_ | refine i_box rfl rfl ?_ | refine c_cond rfl (fun h => ?_) (fun h => ?_))
 · have e : s.length ≠ m.sizes.length := by simp at h; omega
   exact e_ret ⟨rfl, _, rfl, congrArg V.bool (by simp [stB, e])⟩
 have e : s.length = m.sizes.length := by simp at h; omega
 clear h
 refine c_for s.length (fun k => [(2, .bptr 4736132 0), (13, .sl .p (s.map i64V)), (14, .int .i64 s.length), (15, .int .i64 k)]) (fun _ => [(4736132, .box (mtV m))]) (fun k => ∀ j, j < k → stAt m.sizes s j = true) all_zero ft fun k hk hi => ?_
 repeat (first | refine i_s rfl ?_ | refine sw ?_)
 refine c_cond rfl (fun h => ?_) (fun h => ?_)
 · have hlt : k < s.length := by simpa using h
   obtain ⟨x, hx⟩ := get_some hlt
   obtain ⟨z, hzz⟩ := get_some (e ▸ hlt)
   have hat : stAt m.sizes s k = (decide (0 ≤ x) && decide (x < z)) := by simp [stAt, hx, hzz]
   clear h
   repeat' (first | refine i_s rfl ?_ | refine sw ?_ | refine i_gt rfl ?_ | refine i_gf rfl ?_ | refine c_t rfl ?_ | refine ja rfl rfl ?_ | refine jd rfl rfl ?_ | (refine sp ?_ ?_ <;> try intro h) | fail)
   all_goals first
    | exact e_for hlt (all_succ hi (by rw [hat]; grind)) ft
    | refine e_ret ⟨rfl, _, rfl, congrArg V.bool ?_⟩
      have : stAt m.sizes s k = false := by rw [hat]; grind
      simp [stB, allN_bad hlt this]
 · have hge : ¬ k < s.length := by simpa using h
   repeat' (first | refine i_s rfl ?_ | refine sw ?_ | fail)
   exact e_ret ⟨rfl, _, rfl, congrArg V.bool (by simp [stB, e]; exact allN_ok fun j hj => hi j (by omega))⟩
theorem szAt_ok {sizes : List Int} {v : Int} (h0 : 0 ≤ v) (h1 : v < sizes.length) : ∃ z, sizes[v.toNat]? = some z ∧ szAt sizes v = some z := by
 obtain ⟨z, hz⟩ := get_some (l := sizes) (k := v.toNat) (by omega)
 exact ⟨z, hz, by simp [szAt, hz]; omega⟩
theorem szAt_no {sizes : List Int} {v : Int} (h : ¬ (0 ≤ v ∧ v < sizes.length)) : szAt sizes v = none := by
 unfold szAt
 split
 · rfl
 · rw [List.getElem?_eq_none (by omega)]
theorem prev_get {l : List Asg} {k : Nat} {a : Asg} (hk : l[k]? = some a) (v : Int) : (k = 0) ∨ ∃ b, 0 < k ∧ l[((k : Int) - 1).toNat]? = some b ∧ asPrev l k v = decide (b.var < v) := by
 by_cases h : k = 0
 · exact .inl h
 · obtain ⟨b, hb⟩ := get_some (l := l) (k := k - 1) (by have := get_lt hk; omega)
   exact .inr ⟨b, by omega, by rw [show ((k : Int) - 1).toNat = k - 1 from by omega]; exact hb, by simp [asPrev, hb]⟩
def c_multi_assigns : Cmd :=
 (qS [qx 2 4800132 4 0, qb 4 false]
 (qT (qS [qm 7 1, qn 8 7, qc 9 0]
 (.block 0 (.loop (qS [qu 10 .lss [] 9 8]
 (qT (.cond (.t 10) .skip (.exit 0))
 (qT (.block 1 (qS [qm 11 9, qi 12 2 7 9, qL 13 2 12, qq 6 (.alloc 4800386 (.agg [.int .i64 0, .int .i64 0])), qm 5 11, qs 2 6 13]
 (qS [qf 14 0 6, ql 15 1 14, qv 16 .lss [] 15 0, qm 17 16, qg 18 17 false (.faddr 0 (.t 6)), qg 19 17 false (.load false 1 (.t 18)), qg 20 17 false (.faddr 0 (.t 2)), qg 21 17 false (.load false 1 (.t 20)), qg 22 17 false (.len false (.t 21)), qg 23 17 false (.bin .geq false [] (.t 19) (.t 22)), qq 24 (.pick (.t 17) (.c (.bool true)) (.t 23)), qm 25 24, qg 26 25 false (.faddr 1 (.t 6)), qg 27 25 false (.load false 1 (.t 26)), qg 28 25 false (.bin .lss false [] (.t 27) (.c (.int .i64 0))), qq 29 (.pick (.t 25) (.c (.bool true)) (.t 28)), qm 30 29, qg 31 30 false (.faddr 1 (.t 6)), qg 32 30 false (.load false 1 (.t 31)), qg 33 30 false (.faddr 0 (.t 2)), qg 34 30 false (.load false 1 (.t 33)), qg 35 30 false (.faddr 0 (.t 6)), qg 36 30 false (.load false 1 (.t 35)), qg 37 30 false (.iaddr 1 (.t 34) (.t 36)), qg 38 30 false (.load false 1 (.t 37)), qg 39 30 false (.bin .geq false [] (.t 32) (.t 38)), qq 40 (.pick (.t 30) (.c (.bool true)) (.t 39)), qm 41 40, qg 42 41 false (.mov (.t 5)), qg 43 41 false (.bin .gtr false [] (.t 42) (.c (.int .i64 0))), qg 44 41 false (.mov (.t 43)), qg 45 44 true (.faddr 0 (.t 6)), qg 46 44 true (.load false 1 (.t 45)), qg 47 44 true (.mov (.t 1)), qg 48 44 true (.mov (.t 5)), qg 49 44 true (.bin .sub false [] (.t 48) (.c (.int .i64 1))), qg 50 44 true (.iaddr 2 (.t 47) (.t 49)), qg 51 44 true (.faddr 0 (.t 50)), qg 52 44 true (.load false 1 (.t 51)), qg 53 44 true (.bin .leq false [] (.t 46) (.t 52)), qg 54 41 false (.pick (.t 44) (.t 53) (.c (.bool false))), qq 55 (.pick (.t 41) (.c (.bool true)) (.t 54))]
 (.cond (.t 55) (.seq (.ops [qb 4 false]) .ret) .skip))))
 (.ops [qv 56 .add [] 9 1, qm 9 56])))))))
 (.seq (.ops [qb 4 true]) .ret)))
def r_multi_assigns : List RVar := [.tmp 4]
def n_multi_assigns : Nat := 57
theorem k_multi_assigns : chkFn PG 75 n_multi_assigns r_multi_assigns c_multi_assigns = true := by kernel_rfl
theorem f_multi_assigns (m : MTask) (l : List Asg) (hl : l.length ≤ 140737488355328) (hsz : m.sizes.length ≤ 140737488355328) : Fc PG 75 [mtV m, .sl .p (l.map asV)] (.bool (asB m.sizes l)) := by
 refine Fn.step mixed k_multi_assigns ?_
 repeat' (first | refine i_len rfl ?_ | refine i_s rfl ?_ | refine sw ?_ | refine i_box rfl rfl ?_)
 refine c_for l.length (fun k => [(1, .sl .p (l.map asV)), (2, .bptr 4800132 0), (7, .sl .p (l.map asV)), (8, .int .i64 l.length), (9, .int .i64 k)]) (fun _ => [(4800132, .box (mtV m))]) (fun k => ∀ j, j < k → asAt m.sizes l j = true) all_zero ft fun k hk hi => ?_
 repeat (first | refine i_s rfl ?_ | refine sw ?_)
 refine c_cond rfl (fun h => ?_) (fun h => ?_)
 · have hlt : k < l.length := by simpa using h
   obtain ⟨a, ha⟩ := get_some hlt
   clear h
   have bad : asAt m.sizes l k = false → V.bool (asB m.sizes l) = V.bool false := fun h => by rw [asB, allN_bad hlt h]
   have next : asAt m.sizes l k = true → ∀ j, j < k + 1 → asAt m.sizes l j = true := fun h => all_succ hi h
   clear hi
   by_cases hv : 0 ≤ a.var ∧ a.var < m.sizes.length
   · obtain ⟨z, hzz, hsa⟩ := szAt_ok hv.1 hv.2
     obtain ⟨hv0, hv1⟩ := hv
     have hat : asAt m.sizes l k = (decide (0 ≤ a.value) && decide (a.value < z) && (decide (k = 0) || asPrev l k a.var)) := by simp [asAt, ha, hsa]
     rcases prev_get ha a.var with h0 | ⟨b, hk0, hb, hpv⟩
     · repeat' (first | refine i_len rfl ?_ | refine i_s rfl ?_ | refine sw ?_ | refine i_gt rfl ?_ | refine i_gf rfl ?_ | refine i_gd rfl ?_ | refine c_t rfl ?_ | refine c_f rfl ?_ | refine ja rfl rfl ?_ | refine jb rfl rfl ?_ | refine jd rfl rfl ?_ | refine i_stb rfl ?_ | refine i_alloc rfl ?_ | refine i_g rfl (fun h => ?_) (fun h => ?_))
       all_goals first
        | refine e_for hlt (next ?_) ft
        | refine e_ret ⟨rfl, _, rfl, bad ?_⟩
        | exfalso
       all_goals clear next bad ha hzz hsa
       all_goals try rw [hat]
       all_goals clear hat
       all_goals grind
     · rw [hpv] at hat
       repeat' (first | refine i_len rfl ?_ | refine i_s rfl ?_ | refine sw ?_ | refine i_gt rfl ?_ | refine i_gf rfl ?_ | refine i_gd rfl ?_ | refine c_t rfl ?_ | refine c_f rfl ?_ | refine ja rfl rfl ?_ | refine jb rfl rfl ?_ | refine jd rfl rfl ?_ | refine i_stb rfl ?_ | refine i_alloc rfl ?_ | (refine sp ?_ ?_ <;> try intro h) | fail)
       all_goals first
        | refine e_for hlt (next ?_) ft
        | refine e_ret ⟨rfl, _, rfl, bad ?_⟩
        | exfalso
       all_goals clear next bad ha hzz hsa
       all_goals try rw [hat]
       all_goals clear hat
       all_goals grind
   · have hat : asAt m.sizes l k = false := by simp [asAt, ha, szAt_no hv]
     repeat' (first | refine i_len rfl ?_ | refine i_s rfl ?_ | refine sw ?_ | refine i_gt rfl ?_ | refine i_gf rfl ?_ | refine i_gd rfl ?_ | refine c_t rfl ?_ | refine jd rfl rfl ?_ | refine i_stb rfl ?_ | refine i_alloc rfl ?_ | refine i_g rfl (fun h => ?_) (fun h => ?_))
     all_goals first
      | exact e_ret ⟨rfl, _, rfl, bad hat⟩
      | (exfalso; clear next bad ha hat; grind)
 · have hge : ¬ k < l.length := by simpa using h
   repeat' (first | refine i_s rfl ?_ | refine sw ?_ | fail)
   exact e_ret ⟨rfl, _, rfl, congrArg V.bool (allN_ok fun j hj => hi j (by omega))⟩
theorem mFault_sz {m : MTask} (h : m.sizes.length = 0 ∨ m.sizes.length > 8) : mFault m = ⟨2, -1⟩ := by unfold mFault; rw [if_pos h]
structure MF1 (m : MTask) : Prop where
 len : ¬ (m.sizes.length = 0 ∨ m.sizes.length > 8)
 sz : m.sizes.any szBad = false
theorem MF1.rng {m : MTask} (h : MF1 m) : ∀ z ∈ m.sizes, 1 ≤ z ∧ z ≤ 6 := by
 intro z hz
 have := (List.any_eq_false.1 h.sz) z hz
 simp [szBad] at this
 omega
theorem mFault_rg {m : MTask} (h : ¬ (m.sizes.length = 0 ∨ m.sizes.length > 8)) (h2 : m.sizes.any szBad = true) : mFault m = ⟨3, -1⟩ := by unfold mFault; rw [if_neg h, if_pos h2]
theorem mFault_in {m : MTask} (h : MF1 m) (h2 : stB m.sizes m.init = false) : mFault m = ⟨5, -2⟩ := by unfold mFault; rw [if_neg h.len, h.sz, if_neg (by simp), if_pos h2]
theorem mFault_go {m : MTask} (h : MF1 m) (h2 : stB m.sizes m.init = true) (h3 : asB m.sizes m.goal = false) : mFault m = ⟨5, -3⟩ := by unfold mFault; rw [if_neg h.len, h.sz, if_neg (by simp), h2, if_neg (by simp), if_pos h3]
theorem mFault_op {m : MTask} (h : MF1 m) (h2 : stB m.sizes m.init = true) (h3 : asB m.sizes m.goal = true) (h4 : m.ops.length > 40) : mFault m = ⟨2, -1⟩ := by unfold mFault; rw [if_neg h.len, h.sz, if_neg (by simp), h2, if_neg (by simp), h3, if_neg (by simp), if_pos h4]
theorem mFault_el {m : MTask} (h : MF1 m) (h2 : stB m.sizes m.init = true) (h3 : asB m.sizes m.goal = true) (h4 : ¬ m.ops.length > 40) : mFault m = (scan (opBad m.sizes m.ops) 0 m.ops.length).getD okF := by
 unfold mFault; rw [if_neg h.len, h.sz, if_neg (by simp), h2, if_neg (by simp), h3, if_neg (by simp), if_neg h4]
theorem mFault_hit {m : MTask} (hel : mFault m = (scan (opBad m.sizes m.ops) 0 m.ops.length).getD okF) {k : Nat} {f : Flt} (hi : ∀ j, j < k → opBad m.sizes m.ops j = none) (hk : k < m.ops.length) (hf : opBad m.sizes m.ops k = some f) : mFault m = f := by
 rw [hel, scan0_hit hi hk hf]; rfl
def c_multi_Validate_1 : Cmd :=
 (qS [qb 2 false]
 (.seq (.ops [qm 3 0, qv 4 .lss [] 3 1, qm 5 4, qg 6 5 false (.mov (.t 0)), qg 7 5 false (.bin .gtr false [] (.t 6) (.c (.int .i64 6))), qq 8 (.pick (.t 5) (.c (.bool true)) (.t 7)), qm 2 8]) .ret))
def r_multi_Validate_1 : List RVar := [.tmp 2]
def n_multi_Validate_1 : Nat := 9
theorem k_multi_Validate_1 : chkFn PG 73 n_multi_Validate_1 r_multi_Validate_1 c_multi_Validate_1 = true := by kernel_rfl
theorem f_multi_Validate_1 (n : Int) : Fc PG 73 [.int .i64 n] (.bool (szBad n)) := by
 refine Fn.step mixed k_multi_Validate_1 ?_
 repeat' (first | refine i_s rfl ?_ | refine sw ?_ | refine i_gt rfl ?_ | refine i_gf rfl ?_ | refine i_g rfl (fun h => ?_) (fun h => ?_))
 all_goals refine e_ret ⟨rfl, _, rfl, congrArg V.bool ?_⟩
 all_goals unfold szBad
 all_goals grind
def c_multi_Validate : Cmd :=
 (qS [qx 1 2112068 4 0, qq 2 (.alloc 2112130 (.agg [.int .i64 0, .int .i64 0]))]
 (qS [qq 3 (.mov (.c (.fn 73 [])))]
 (qT (.block 0 (qS [qf 7 0 1, ql 8 1 7, qn 9 8, qv 10 .eql [.i] 9 0, qm 11 10, qg 12 11 false (.faddr 0 (.t 1)), qg 13 11 false (.load false 1 (.t 12)), qg 14 11 false (.len false (.t 13)), qg 15 11 false (.bin .gtr false [] (.t 14) (.c (.int .i64 8))), qq 16 (.pick (.t 11) (.c (.bool true)) (.t 15)), qm 6 16]
 (.cond (.t 6) (.seq (.ops [qq 17 (.build [.int .i64 0, .int .i64 0] [(0 , 1 , .c (.int .i64 2)), (1 , 1 , .c (.int .i64 (-1)))]), qs 2 2 17]) .ret) (qS [qf 19 0 1, ql 20 1 19, qm 21 3, qk 22 17 [20, 21], qm 18 22]
 (.cond (.t 18) (.seq (.ops [qq 23 (.build [.int .i64 0, .int .i64 0] [(0 , 1 , .c (.int .i64 3)), (1 , 1 , .c (.int .i64 (-1)))]), qs 2 2 23]) .ret) (qS [qL 25 4 1, qf 26 1 1, ql 27 1 26, qk 28 74 [25, 27], qq 29 (.not (.t 28)), qm 24 29]
 (.cond (.t 24) (.seq (.ops [qq 30 (.build [.int .i64 0, .int .i64 0] [(0 , 1 , .c (.int .i64 5)), (1 , 1 , .c (.int .i64 (-2)))]), qs 2 2 30]) .ret) (qS [qL 32 4 1, qf 33 2 1, ql 34 1 33, qk 35 75 [32, 34], qq 36 (.not (.t 35)), qm 31 36]
 (.cond (.t 31) (.seq (.ops [qq 37 (.build [.int .i64 0, .int .i64 0] [(0 , 1 , .c (.int .i64 5)), (1 , 1 , .c (.int .i64 (-3)))]), qs 2 2 37]) .ret) (qS [qf 39 3 1, ql 40 1 39, qn 41 40, qv 42 .gtr [] 41 40, qm 38 42]
 (.cond (.t 38) (.seq (.ops [qq 43 (.build [.int .i64 0, .int .i64 0] [(0 , 1 , .c (.int .i64 2)), (1 , 1 , .c (.int .i64 (-1)))]), qs 2 2 43]) .ret) .skip)))))))))))
 (qT (qS [qf 44 3 1, ql 45 1 44, qn 46 45, qc 47 0]
 (.block 1 (.loop (qS [qu 48 .lss [] 47 46]
 (qT (.cond (.t 48) .skip (.exit 1))
 (qT (.block 2 (qS [qm 49 47, qi 50 3 45 47, qL 51 3 50, qq 5 (.alloc 2112323 (.agg [.sl .nil [], .sl .nil [], .int .i64 0])), qm 4 49, qs 3 5 51]
 (.block 3 (qS [qL 53 4 1, qf 54 0 5, ql 55 1 54, qk 56 75 [53, 55], qq 57 (.not (.t 56)), qm 58 57, qg 59 58 false (.load true 4 (.t 1)), qg 60 58 false (.faddr 1 (.t 5)), qg 61 58 false (.load false 1 (.t 60)), qg 62 58 false (.call .f (.c (.fn 75 [])) [.t 59, .t 61]), qg 63 58 false (.not (.t 62)), qq 64 (.pick (.t 58) (.c (.bool true)) (.t 63)), qm 52 64]
 (.cond (.t 52) (.seq (.ops [qm 65 4, qq 66 (.build [.int .i64 0, .int .i64 0] [(0 , 1 , .c (.int .i64 5)), (1 , 1 , .t 65)]), qs 2 2 66]) .ret) (qS [qf 68 2 5, ql 69 1 68, qv 70 .lss [] 69 0, qm 71 70, qg 72 71 false (.faddr 2 (.t 5)), qg 73 71 false (.load false 1 (.t 72)), qg 74 71 false (.bin .gtr false [] (.t 73) (.c (.int .i64 100))), qq 75 (.pick (.t 71) (.c (.bool true)) (.t 74)), qm 67 75]
 (.cond (.t 67) (.seq (.ops [qm 76 4, qq 77 (.build [.int .i64 0, .int .i64 0] [(0 , 1 , .c (.int .i64 3)), (1 , 1 , .t 76)]), qs 2 2 77]) .ret) .skip)))))))
 (.ops [qv 78 .add [] 47 1, qm 47 78])))))))
 (.seq (.ops [qq 79 (.build [.int .i64 0, .int .i64 0] []), qs 2 2 79]) .ret)))))
def r_multi_Validate : List RVar := [.cell true 2 2]
def n_multi_Validate : Nat := 80
theorem k_multi_Validate : chkFn PG 33 n_multi_Validate r_multi_Validate c_multi_Validate = true := by kernel_rfl
theorem f_multi_Validate (m : MTask) (ho : MOk m) : Fc PG 33 [mtV m] (ftV (mFault m)) := by
 obtain ⟨l1, l2, l3, l4, l5⟩ := ho
 have hC := f_ContainsFunc_int m.sizes szBad 73 [] l1 (fun _ _ => rfl) rfl (fun n _ => f_multi_Validate_1 n)
 have hI := f_multi_IsState m m.init l2
 have hA := f_multi_assigns m m.goal l3 l1
 by_cases hlen : m.sizes.length = 0 ∨ m.sizes.length > 8
 · refine Fn.step mixed k_multi_Validate ?_
   repeat' (first | refine i_len rfl ?_ | refine i_s rfl ?_ | refine sw ?_ | refine i_gt rfl ?_ | refine i_gf rfl ?_ | refine c_t rfl ?_ | refine i_stb rfl ?_ | refine i_alloc rfl ?_ | refine i_box rfl rfl ?_ | (refine sp ?_ ?_ <;> try intro h) | refine sf rfl rfl hC ?_ | refine sf rfl rfl hI ?_ | refine sf rfl rfl hA ?_ | fail)
   all_goals first
    | exact e_ret ⟨rfl, _, rfl, congr_ft (mFault_sz hlen)⟩
    | (exfalso; clear hC hI hA l5; grind)
 by_cases hrg : m.sizes.any szBad = true
 · rw [hrg] at hC
   refine Fn.step mixed k_multi_Validate ?_
   repeat' (first | refine i_len rfl ?_ | refine i_s rfl ?_ | refine sw ?_ | refine i_gt rfl ?_ | refine i_gf rfl ?_ | refine c_t rfl ?_ | refine i_stb rfl ?_ | refine i_alloc rfl ?_ | refine i_box rfl rfl ?_ | (refine sp ?_ ?_ <;> try intro h) | refine sf rfl rfl hC ?_ | fail)
   all_goals first
    | exact e_ret ⟨rfl, _, rfl, congr_ft (mFault_rg hlen hrg)⟩
    | (exfalso; clear hC hI hA l5; grind)
 have hf : MF1 m := ⟨hlen, by simpa using hrg⟩
 rw [hf.sz] at hC
 have hop : ∀ o ∈ m.ops, Fc PG 75 [mtV m, .sl .p (o.pre.map asV)] (.bool (asB m.sizes o.pre)) ∧ Fc PG 75 [mtV m, .sl .p (o.post.map asV)] (.bool (asB m.sizes o.post)) :=
  fun o h => ⟨f_multi_assigns m o.pre (l5 o h).1 l1, f_multi_assigns m o.post (l5 o h).2 l1⟩
 refine Fn.step mixed k_multi_Validate ?_
 repeat' (first | refine i_len rfl ?_ | refine i_s rfl ?_ | refine sw ?_ | refine i_gt rfl ?_ | refine i_gf rfl ?_ | refine c_t rfl ?_ | refine c_f rfl ?_ | refine i_stb rfl ?_ | refine i_alloc rfl ?_ | refine i_box rfl rfl ?_ | (refine sp ?_ ?_ <;> try intro h) | refine sf rfl rfl hC ?_ | refine sf rfl rfl hI ?_ | refine sf rfl rfl hA ?_ | fail)
 all_goals first
  | (exfalso; clear hC hI hA l5 hop; grind)
  | exact e_ret ⟨rfl, _, rfl, congr_ft (mFault_in hf (by clear hC hI hA l5 hop; grind))⟩
  | exact e_ret ⟨rfl, _, rfl, congr_ft (mFault_go hf (by clear hC hI hA l5 hop; grind) (by clear hC hI hA l5 hop; grind))⟩
  | exact e_ret ⟨rfl, _, rfl, congr_ft (mFault_op hf (by clear hC hI hA l5 hop; grind) (by clear hC hI hA l5 hop; grind) (by clear hC hI hA l5 hop; grind))⟩
  | skip
 have hel := mFault_el hf (by clear hC hI hA l5 hop; grind) (by clear hC hI hA l5 hop; grind) (by clear hC hI hA l5 hop; grind)
 clear hC hI hA
 clear hf hrg hlen l1 l2 l3 l5
 refine c_for m.ops.length (fun k => [(1, .bptr 2112068 0), (2, .bptr 2112130 0), (45, .sl .p (m.ops.map moV)), (46, .int .i64 m.ops.length), (47, .int .i64 k)]) (fun _ => [(2112068, .box (mtV m)), (2112130, .box (ftV okF))]) (fun k => ∀ j, j < k → opBad m.sizes m.ops j = none) all_zero ft fun k hk hi => ?_
 repeat (first | refine i_s rfl ?_ | refine sw ?_)
 refine c_cond rfl (fun h => ?_) (fun h => ?_)
 · have hlt : k < m.ops.length := by simpa using h
   obtain ⟨o, ho⟩ := get_some hlt
   obtain ⟨p1, p2⟩ := hop o (mem_get ho)
   clear hop h
   have hbad : opBad m.sizes m.ops k = if asB m.sizes o.pre = false ∨ asB m.sizes o.post = false then some ⟨5, k⟩ else if o.cost < 0 ∨ o.cost > 100 then some ⟨3, k⟩ else none := by simp [opBad, ho]
   repeat' (first | refine i_s rfl ?_ | refine sw ?_ | refine i_gt rfl ?_ | refine i_gf rfl ?_ | refine c_t rfl ?_ | refine ja rfl rfl ?_ | refine jd rfl rfl ?_ | refine i_stb rfl ?_ | refine i_alloc rfl ?_ | (refine sp ?_ ?_ <;> try intro h) | refine sf rfl rfl p1 ?_ | refine sf rfl rfl p2 ?_ | fail)
   all_goals first
    | exact e_ret ⟨rfl, _, rfl, congr_ft (mFault_hit hel hi hlt (by rw [hbad]; clear p1 p2 hel hi hbad; grind))⟩
    | exact e_for hlt (all_succ hi (by rw [hbad]; clear p1 p2 hel hi hbad; grind)) ft
 · have hge : ¬ k < m.ops.length := by simpa using h
   repeat' (first | refine i_s rfl ?_ | refine sw ?_ | refine i_stb rfl ?_)
   exact e_ret ⟨rfl, _, rfl, congr_ft (by rw [hel, scan0_none fun j hj => hi j (by omega)]; rfl)⟩
end Hm
end
section
namespace Hm
open Go
theorem upt_if (σ : Store) (d : Nat) (b : Blk) (t : Nat) : ups σ d b t = if t = d then b else σ t := by
 by_cases e : t = d
 · subst e; rw [upt_self, if_pos rfl]
 · rw [upt_ne σ b e, if_neg e]
structure QE where
 nm : Nat
 b : Nat
 item : W32
 key : Int
 time : Int
 at_ : Int
def QE.cells (e : QE) : List V := [.int .u32 e.item.toNat, .int .i64 e.key, .int .i64 e.time, .int .i64 e.at_]
def QE.ptr (e : QE) : V := .raw e.b 0
def QE.at' (e : QE) (i : Nat) : QE := ⟨e.nm, e.b, e.item, e.key, e.time, i⟩
def QE.core (e : QE) : Nat × Nat × W32 × Int := (e.nm, e.b, e.item, e.key)
structure HS where
 nQ : Nat
 bq : Nat
 nH : Nat
 bh : Nat
 cap : Nat
 box : List V
 nF : Nat
 time : Int
 es : List QE
def HS.names (h : HS) : List Nat := h.nQ :: h.nH :: h.nF :: h.es.map QE.nm
structure HOk (ns : List Nat) (σ : Store) (h : HS) : Prop where
 hQ : σ h.nQ = .box (.tag h.bq [.rsl h.bh h.es.length h.cap, .mp h.nF, .int .i64 h.time])
 hH : σ h.nH = .box (.tag h.bh h.box)
 hbl : h.box.length = h.cap
 hle : h.es.length ≤ h.cap
 hsz : h.es.length ≤ 1000000
 ht : ∀ (i : Nat) e, h.es[i]? = some e → h.box[i]? = some e.ptr
 hE : ∀ e ∈ h.es, σ e.nm = .box (.tag e.b e.cells)
 hat : ∀ (i : Nat) e, h.es[i]? = some e → e.at_ = i
 nd : h.names.Nodup
 sub : ∀ n ∈ h.names, n ∈ ns
 pur : ∀ v ∈ h.box, pureB v = true
 cl : Cl ns σ
 out : ∀ nm, σ nm ≠ .unused → nm ∈ ns
structure Same (σ : Store) (h : HS) (σ' : Store) (h' : HS) : Prop where
 nQ : h'.nQ = h.nQ
 bq : h'.bq = h.bq
 nF : h'.nF = h.nF
 time : h'.time = h.time
 core : (h'.es.map QE.core).Perm (h.es.map QE.core)
 fm : σ' h.nF = σ h.nF
theorem Same.refl (σ : Store) (h : HS) : Same σ h σ h := ⟨rfl, rfl, rfl, rfl, List.Perm.refl _, rfl⟩
theorem Same.trans {σ σ' σ'' : Store} {h h' h'' : HS} (k : Same σ h σ' h') (k' : Same σ' h' σ'' h'') : Same σ h σ'' h'' :=
 ⟨k'.nQ.trans k.nQ, k'.bq.trans k.bq, k'.nF.trans k.nF, k'.time.trans k.time, k'.core.trans k.core, by rw [← k.fm, ← k.nF]; exact k'.fm⟩
theorem Same.len {σ σ' : Store} {h h' : HS} (k : Same σ h σ' h') : h'.es.length = h.es.length := by simpa using k.core.length_eq
section
variable {ns : List Nat} {σ : Store} {h : HS}
theorem HOk.len_cap (ho : HOk ns σ h) {i : Nat} (hi : i < h.es.length) : i < h.box.length := by have := ho.hbl; have := ho.hle; omega
theorem HOk.eNd (ho : HOk ns σ h) : (h.es.map QE.nm).Nodup := (List.nodup_cons.1 (List.nodup_cons.1 (List.nodup_cons.1 ho.nd).2).2).2
theorem HOk.neE (ho : HOk ns σ h) {i j : Nat} {e e' : QE} (hi : h.es[i]? = some e) (hj : h.es[j]? = some e') (hne : i ≠ j) : e.nm ≠ e'.nm := by
 intro he
 have h1 : (h.es.map QE.nm)[i]? = some e.nm := by rw [List.getElem?_map, hi]; rfl
 have h2 : (h.es.map QE.nm)[j]? = some e.nm := by rw [List.getElem?_map, hj]; exact congrArg some he.symm
 obtain ⟨h3, h4⟩ := List.getElem?_eq_some_iff.1 h1
 obtain ⟨h5, h6⟩ := List.getElem?_eq_some_iff.1 h2
 exact hne ((List.getElem_inj ho.eNd).1 (h4.trans h6.symm))
theorem HOk.QH (ho : HOk ns σ h) : h.nQ ≠ h.nH := fun e => (List.nodup_cons.1 ho.nd).1 (by rw [e]; simp)
theorem HOk.QF (ho : HOk ns σ h) : h.nQ ≠ h.nF := fun e => (List.nodup_cons.1 ho.nd).1 (by rw [e]; simp)
theorem HOk.HF (ho : HOk ns σ h) : h.nH ≠ h.nF := fun e => (List.nodup_cons.1 (List.nodup_cons.1 ho.nd).2).1 (by rw [e]; simp)
theorem HOk.EQ (ho : HOk ns σ h) {e : QE} (he : e ∈ h.es) : h.nQ ≠ e.nm := fun k => (List.nodup_cons.1 ho.nd).1 (by rw [k]; simp only [List.mem_cons]; exact .inr (.inr (List.mem_map.2 ⟨e, he, rfl⟩)))
theorem HOk.EH (ho : HOk ns σ h) {e : QE} (he : e ∈ h.es) : h.nH ≠ e.nm := fun k => (List.nodup_cons.1 (List.nodup_cons.1 ho.nd).2).1 (by rw [k]; simp only [List.mem_cons]; exact .inr (List.mem_map.2 ⟨e, he, rfl⟩))
theorem HOk.EF (ho : HOk ns σ h) {e : QE} (he : e ∈ h.es) : h.nF ≠ e.nm := fun k => (List.nodup_cons.1 (List.nodup_cons.1 (List.nodup_cons.1 ho.nd).2).2).1 (by rw [k]; exact List.mem_map.2 ⟨e, he, rfl⟩)
theorem HOk.inE (ho : HOk ns σ h) {e : QE} (he : e ∈ h.es) : e.nm ∈ ns := ho.sub _ (by unfold HS.names; simp only [List.mem_cons]; exact .inr (.inr (.inr (List.mem_map.2 ⟨e, he, rfl⟩))))
theorem HOk.inQ (ho : HOk ns σ h) : h.nQ ∈ ns := ho.sub _ (by simp [HS.names])
theorem HOk.inH (ho : HOk ns σ h) : h.nH ∈ ns := ho.sub _ (by simp [HS.names])
theorem HOk.inF (ho : HOk ns σ h) : h.nF ∈ ns := ho.sub _ (by simp [HS.names])
theorem box_closed (ns : List Nat) {b : Nat} {l : List V} (h : ∀ v ∈ l, pureB v = true) : closedB ns (.tag b l) = true := closedL_pure ns l (pureL_all h)
theorem mem_closed {ns : List Nat} {n : Nat} (h : n ∈ ns) : closedB ns (.mp n) = true := (memB_iff n ns).2 h
theorem qbox_closed {ns : List Nat} {b n c bh nF : Nat} {t : Int} (h : nF ∈ ns) : closedB ns (.tag b [.rsl bh n c, .mp nF, .int .i64 t]) = true := by
 show (true && (closedB ns (.mp nF) && (true && true))) = true
 rw [mem_closed h]
 rfl
theorem HOk.re (ho : HOk ns σ h) : HOk ns (restr ns σ) h := by rw [restr_all ho.out]; exact ho
theorem Same.re {σ' : Store} {h' : HS} (k : Same σ h σ' h') (ho : HOk ns σ' h') : Same σ h (restr ns σ') h' := by rw [restr_all ho.out]; exact k
theorem ldx {l : List V} {i : Nat} {v : V} (h : l[i]? = some v) (hv : fz v = some v) : fzA (ldrow false 1 ((i : Int).toNat * 1) (.agg l)) = some v := by
 rw [Nat.mul_one, Int.toNat_natCast]
 have e : ldrow false 1 i (.agg l) = some v := h
 rw [e]
 cases v <;> first
  | rfl
  | exact fzA_agg _
  | (simp only [fzA, fzL_all])
theorem stx {l : List V} {i : Nat} {v : V} (h : i < l.length) (hv : leafB v = true) : fzA (strow 1 ((i : Int).toNat * 1) (.agg l) v) = some (.agg (l.set i v)) := by
 rw [Nat.mul_one, Int.toNat_natCast]
 have e : Nat.ble (i + 1) l.length = true := Nat.ble_eq_true_of_le h
 have e2 : strow 1 i (.agg l) v = some (.agg (l.set i v)) := by
  cases v <;> first
   | (cases hv; done)
   | (simp only [strow, e, hv, Bool.and_true, Bool.and_self]; rfl)
 rw [e2]
 exact fzA_agg _
def swapH (h : HS) (i j : Nat) (ei ej : QE) : HS := { h with es := (h.es.set i (ej.at' i)).set j (ei.at' j), box := (h.box.set i ej.ptr).set j ei.ptr }
theorem swap_get {h : HS} {i j : Nat} {ei ej : QE} (hi : i < h.es.length) (hj : j < h.es.length) (k : Nat) : (swapH h i j ei ej).es[k]? = if k = j then some (ei.at' j) else if k = i then some (ej.at' i) else h.es[k]? := by
 unfold swapH
 simp only [List.getElem?_set, List.length_set]
 by_cases c : k = j
 · subst c; simp [hj]
 · rw [if_neg (fun e => c e.symm), if_neg c]
   by_cases c2 : k = i
   · subst c2; simp [hi]
   · rw [if_neg (fun e => c2 e.symm), if_neg c2]
theorem perm_set2 {α : Type} : ∀ {l : List α} {i j : Nat} {a b : α}, l[i]? = some a → l[j]? = some b → ((l.set i b).set j a).Perm l := fun {l i j a b} hi hj => by
 obtain ⟨h1, h2⟩ := List.getElem?_eq_some_iff.1 hi
 obtain ⟨h3, h4⟩ := List.getElem?_eq_some_iff.1 hj
 subst h2 h4
 exact List.set_set_perm h1 h3
theorem HOk.swap (ho : HOk ns σ h) {i j : Nat} {ei ej : QE} (hi : h.es[i]? = some ei) (hj : h.es[j]? = some ej) {σ' : Store}
  (hσ : ∀ n, σ' n = if n = ei.nm then .box (.tag ei.b (ei.at' j).cells) else if n = ej.nm then .box (.tag ej.b (ej.at' i).cells) else if n = h.nH then .box (.tag h.bh (swapH h i j ei ej).box) else σ n) :
  HOk ns σ' (swapH h i j ei ej) ∧ Same σ h σ' (swapH h i j ei ej) := by
 have li := get_lt hi
 have lj := get_lt hj
 have mi := mem_get hi
 have mj := mem_get hj
 have hg := swap_get (h := h) (ei := ei) (ej := ej) li lj
 have hlen : (swapH h i j ei ej).es.length = h.es.length := by simp [swapH]
 have hcore : ((swapH h i j ei ej).es.map QE.core).Perm (h.es.map QE.core) := by
  have e : (swapH h i j ei ej).es.map QE.core = ((h.es.map QE.core).set i ej.core).set j ei.core := by simp only [swapH, List.map_set]; rfl
  rw [e]
  exact perm_set2 (by rw [List.getElem?_map, hi]; rfl) (by rw [List.getElem?_map, hj]; rfl)
 have hnm : ((swapH h i j ei ej).es.map QE.nm).Perm (h.es.map QE.nm) := by
  have := hcore.map Prod.fst
  rw [List.map_map, List.map_map] at this
  exact this
 have hnames : (swapH h i j ei ej).names.Perm h.names := ((hnm.cons _).cons _).cons _
 have hQ' : σ' h.nQ = σ h.nQ := by rw [hσ, if_neg (ho.EQ mi), if_neg (ho.EQ mj), if_neg ho.QH]
 have hF' : σ' h.nF = σ h.nF := by rw [hσ, if_neg (ho.EF mi), if_neg (ho.EF mj), if_neg (fun e => ho.HF e.symm)]
 have hH' : σ' h.nH = .box (.tag h.bh (swapH h i j ei ej).box) := by rw [hσ, if_neg (ho.EH mi), if_neg (ho.EH mj), if_pos rfl]
 have hpur : ∀ v ∈ (swapH h i j ei ej).box, pureB v = true := fun v hv => by
  rcases List.mem_or_eq_of_mem_set hv with h1 | rfl
  · rcases List.mem_or_eq_of_mem_set h1 with h1 | rfl
    · exact ho.pur v h1
    · rfl
  · rfl
 refine ⟨⟨?_, hH', by simp [swapH, ho.hbl], by rw [hlen]; exact ho.hle, by rw [hlen]; exact ho.hsz, fun k e hk => ?_, fun e he => ?_, fun k e hk => ?_, hnames.nodup_iff.2 ho.nd, fun n hn => ho.sub n (hnames.mem_iff.1 hn), hpur, ?_, ?_⟩, ⟨rfl, rfl, rfl, rfl, hcore, hF'⟩⟩
 · rw [hlen]; exact hQ'.trans ho.hQ
 · rw [hg] at hk
   have hbi := ho.len_cap li
   have hbj := ho.len_cap lj
   show ((h.box.set i ej.ptr).set j ei.ptr)[k]? = _
   simp only [List.getElem?_set, List.length_set]
   by_cases c : k = j
   · subst c
     simp only [if_true] at hk
     cases hk
     simp [hbj, QE.ptr, QE.at']
   · rw [if_neg c] at hk
     rw [if_neg (fun e => c e.symm)]
     by_cases c2 : k = i
     · subst c2
       simp only [if_true] at hk
       cases hk
       simp [hbi, QE.ptr, QE.at']
     · rw [if_neg c2] at hk
       rw [if_neg (fun e => c2 e.symm)]
       exact ho.ht k e hk
 · obtain ⟨k, hk⟩ := List.getElem?_of_mem he
   rw [hg] at hk
   rw [hσ]
   by_cases c : k = j
   · rw [if_pos c] at hk
     cases hk
     exact if_pos rfl
   · rw [if_neg c] at hk
     by_cases c2 : k = i
     · rw [if_pos c2] at hk
       cases hk
       have : ej.nm ≠ ei.nm := ho.neE hj hi (by omega)
       exact (if_neg this).trans (if_pos rfl)
     · rw [if_neg c2] at hk
       rw [if_neg (ho.neE hk hi c2), if_neg (ho.neE hk hj c), if_neg (fun e2 => ho.EH (mem_get hk) e2.symm)]
       exact ho.hE e (mem_get hk)
 · rw [hg] at hk
   by_cases c : k = j
   · rw [if_pos c] at hk; cases hk; subst c; rfl
   · rw [if_neg c] at hk
     by_cases c2 : k = i
     · rw [if_pos c2] at hk; cases hk; subst c2; rfl
     · rw [if_neg c2] at hk; exact ho.hat k e hk
 · refine (closedSt_iff _ _ _).2 fun n hn row hr => ?_
   rw [hσ] at hr
   split at hr
   · cases hr; rfl
   · split at hr
     · cases hr; rfl
     · split at hr
       · cases hr; exact box_closed ns hpur
       · exact ho.cl.at hn hr
 · intro n hn
   rw [hσ] at hn
   split at hn
   · rename_i e; exact e ▸ ho.inE mi
   · split at hn
     · rename_i e; exact e ▸ ho.inE mj
     · split at hn
       · rename_i e; exact e ▸ ho.inH
       · exact ho.out n hn
end
end Hm
end
section
namespace Hm
open Go
set_option maxRecDepth 100000
set_option maxHeartbeats 2000000
def c_openlist_order_uint32_Len : Cmd :=
 (qS [qc 2 0]
 (.seq (.ops [qm 3 0, qn 4 3, qm 2 4]) .ret))
def r_openlist_order_uint32_Len : List RVar := [.tmp 2]
def n_openlist_order_uint32_Len : Nat := 5
theorem k_openlist_order_uint32_Len : chkFn PG 236 n_openlist_order_uint32_Len r_openlist_order_uint32_Len c_openlist_order_uint32_Len = true := by kernel_rfl
theorem f_order_Len (b n c : Nat) : Fc PG 236 [.rsl b n c] (.int .i64 n) := by
 refine Fn.step mixed k_openlist_order_uint32_Len ?_
 repeat' (first | refine i_s rfl ?_ | refine sw ?_ | fail)
 exact e_ret ⟨rfl, _, rfl, rfl⟩
def c_openlist_order_uint32_Less : Cmd :=
 (qS [qb 6 false]
 (.seq (.ops [qm 7 0, qm 8 1, qi 9 1 7 8, ql 10 1 9, qq 11 (.nilck (.t 10)), qf 12 1 11, ql 13 1 12, qm 14 0, qm 15 2, qi 16 1 14 15, ql 17 1 16, qq 18 (.nilck (.t 17)), qf 19 1 18, ql 20 1 19, qu 21 .lss [] 13 20, qm 22 21, qg 23 22 false (.mov (.t 0)), qg 24 22 false (.mov (.t 1)), qg 25 22 false (.iaddr 1 (.t 23) (.t 24)), qg 26 22 false (.load false 1 (.t 25)), qg 27 22 false (.nilck (.t 26)), qg 28 22 false (.faddr 1 (.t 27)), qg 29 22 false (.load false 1 (.t 28)), qg 30 22 false (.mov (.t 0)), qg 31 22 false (.mov (.t 2)), qg 32 22 false (.iaddr 1 (.t 30) (.t 31)), qg 33 22 false (.load false 1 (.t 32)), qg 34 22 false (.nilck (.t 33)), qg 35 22 false (.faddr 1 (.t 34)), qg 36 22 false (.load false 1 (.t 35)), qg 37 22 false (.bin .eql false [.i] (.t 29) (.t 36)), qg 38 22 false (.mov (.t 37)), qg 39 38 true (.mov (.t 0)), qg 40 38 true (.mov (.t 1)), qg 41 38 true (.iaddr 1 (.t 39) (.t 40)), qg 42 38 true (.load false 1 (.t 41)), qg 43 38 true (.nilck (.t 42)), qg 44 38 true (.faddr 2 (.t 43)), qg 45 38 true (.load false 1 (.t 44)), qg 46 38 true (.mov (.t 0)), qg 47 38 true (.mov (.t 2)), qg 48 38 true (.iaddr 1 (.t 46) (.t 47)), qg 49 38 true (.load false 1 (.t 48)), qg 50 38 true (.nilck (.t 49)), qg 51 38 true (.faddr 2 (.t 50)), qg 52 38 true (.load false 1 (.t 51)), qg 53 38 true (.bin .lss false [] (.t 45) (.t 52)), qg 54 22 false (.pick (.t 38) (.t 53) (.c (.bool false))), qq 55 (.pick (.t 22) (.c (.bool true)) (.t 54)), qm 6 55]) .ret))
def r_openlist_order_uint32_Less : List RVar := [.tmp 6]
def n_openlist_order_uint32_Less : Nat := 56
theorem k_openlist_order_uint32_Less : chkFn PG 237 n_openlist_order_uint32_Less r_openlist_order_uint32_Less c_openlist_order_uint32_Less = true := by kernel_rfl
theorem ct_Less {G : Type} {H : HT G} {g : G} {ns : List Nat} {σ : Store} {q : HS} (ho : HOk ns σ q) (i j : Nat) (hi : i < q.es.length) (hj : j < q.es.length) :
  Cc PG H 237 [.rsl q.bh q.es.length q.cap, .int .i64 i, .int .i64 j] ns σ g fun v σ' g' => (∃ b, v = .bool b) ∧ σ' = σ ∧ g' = g := by
 obtain ⟨ei, hei⟩ := get_some hi
 obtain ⟨ej, hej⟩ := get_some hj
 have bi := ho.ht i ei hei
 have bj := ho.ht j ej hej
 have si := ho.hE ei (mem_get hei)
 have sj := ho.hE ej (mem_get hej)
 refine CT.step _ mixed k_openlist_order_uint32_Less ho.out fun hM => ?_
 repeat' (first | refine i_s rfl ?_ | refine sw ?_ | refine i_gt rfl ?_ | refine i_gf rfl ?_ | refine i_gd rfl ?_ | refine i_g rfl (fun h => ?_) (fun h => ?_) | refine i_irs rfl rfl (by omega) (by omega) ?_ | refine i_ldr q.nH rfl ho.hH (ldx bi rfl) ?_ | refine i_ldr q.nH rfl ho.hH (ldx bj rfl) ?_ | refine i_ldr ei.nm rfl si rfl ?_ | refine i_ldr ej.nm rfl sj rfl ?_)
 all_goals exact e_ret ⟨rfl, _, rfl, rfl, ho.cl, ⟨_, rfl⟩, restr_all ho.out, rfl⟩
def c_openlist_order_uint32_Swap : Cmd :=
 (qS [qm 6 0, qm 7 1, qm 8 0, qm 9 2, qm 10 0, qm 11 2, qi 12 1 10 11, ql 13 1 12, qm 14 0, qm 15 1, qi 16 1 14 15, ql 17 1 16, qi 18 1 6 7, qs 1 18 13, qi 19 1 8 9, qs 1 19 17]
 (.ops [qm 20 0, qm 21 1, qi 22 1 20 21, ql 23 1 22, qm 24 0, qm 25 2, qi 26 1 24 25, ql 27 1 26, qm 28 1, qm 29 2, qq 30 (.nilck (.t 23)), qf 31 3 30, qs 1 31 28, qq 32 (.nilck (.t 27)), qf 33 3 32, qs 1 33 29]))
def r_openlist_order_uint32_Swap : List RVar := []
def n_openlist_order_uint32_Swap : Nat := 34
theorem k_openlist_order_uint32_Swap : chkFn PG 238 n_openlist_order_uint32_Swap r_openlist_order_uint32_Swap c_openlist_order_uint32_Swap = true := by kernel_rfl
theorem ct_Swap {G : Type} {H : HT G} {g : G} {ns : List Nat} {σ : Store} {q : HS} (ho : HOk ns σ q) (i j : Nat) (hi : i < q.es.length) (hj : j < q.es.length) :
  Cc PG H 238 [.rsl q.bh q.es.length q.cap, .int .i64 i, .int .i64 j] ns σ g fun v σ' g' => (∃ h', HOk ns σ' h' ∧ Same σ q σ' h') ∧ g' = g := by
 obtain ⟨ei, hei⟩ := get_some hi
 obtain ⟨ej, hej⟩ := get_some hj
 have bi := ho.ht i ei hei
 have bj := ho.ht j ej hej
 have mi := mem_get hei
 have mj := mem_get hej
 have li := ho.len_cap hi
 have lj := ho.len_cap hj
 refine CT.step _ mixed k_openlist_order_uint32_Swap ho.out fun hM => ?_
 repeat' (first | refine i_s rfl ?_ | refine sw ?_ | refine i_irs rfl rfl (by omega) (by omega) ?_ | refine i_ldr q.nH rfl ho.hH (ldx bi rfl) ?_ | refine i_ldr q.nH rfl ho.hH (ldx bj rfl) ?_)
 refine i_str q.nH rfl ho.hH (stx (v := ej.ptr) li rfl) ?_
 skip
 refine i_irs rfl rfl (by omega) (by omega) ?_
 refine i_str q.nH rfl (upt_self _ _ _) (stx (v := ei.ptr) (by simpa using lj) rfl) ?_
 repeat (first | refine i_s rfl ?_ | refine sw ?_)
 have hb : ((q.box.set i ej.ptr).set j ei.ptr)[j]? = some ei.ptr := by simp [lj]
 have hb2 : ((q.box.set i ej.ptr).set j ei.ptr)[i]? = some ej.ptr := by
  by_cases c : i = j
  · subst c
    rw [hei] at hej
    cases hej
    exact hb
  · rw [List.getElem?_set_ne (fun e => c e.symm)]
    simp [li]
 refine i_irs rfl rfl (by omega) (by omega) ?_
 refine i_ldr q.nH rfl (upt_self _ _ _) (ldx hb2 rfl) ?_
 repeat refine i_s rfl ?_
 refine i_irs rfl rfl (by omega) (by omega) ?_
 refine i_ldr q.nH rfl (upt_self _ _ _) (ldx hb rfl) ?_
 repeat refine i_s rfl ?_
 refine i_str ej.nm rfl (by rw [upt_ne _ _ (fun e => ho.EH mj e.symm), upt_ne _ _ (fun e => ho.EH mj e.symm)]; exact ho.hE ej mj) rfl ?_
 repeat refine i_s rfl ?_
 by_cases c : i = j
 · subst c
   rw [hei] at hej
   cases hej
   refine i_str ei.nm rfl (upt_self _ _ _) rfl ?_
   obtain ⟨k1, k2⟩ := ho.swap hei hei (σ' := ups (ups (ups (ups σ q.nH (.box (.tag q.bh (q.box.set i ei.ptr)))) q.nH (.box (.tag q.bh ((q.box.set i ei.ptr).set i ei.ptr)))) ei.nm (.box (.tag ei.b (ei.at' i).cells))) ei.nm (.box (.tag ei.b (ei.at' i).cells))) (fun n => by
    simp only [upt_if]
    by_cases c1 : n = ei.nm
    · simp [c1]
    · simp only [c1, if_false]
      by_cases c2 : n = q.nH
      · simp [c2, swapH]
      · simp [c2])
   repeat refine sw ?_
   exact e_end ⟨rfl, _, rfl, rfl, k1.cl, ⟨_, k1.re, k2.re k1⟩, rfl⟩
 · refine i_str ei.nm rfl (by rw [upt_ne _ _ (ho.neE hei hej c), upt_ne _ _ (fun e => ho.EH mi e.symm), upt_ne _ _ (fun e => ho.EH mi e.symm)]; exact ho.hE ei mi) rfl ?_
   obtain ⟨k1, k2⟩ := ho.swap hei hej (σ' := ups (ups (ups (ups σ q.nH (.box (.tag q.bh (q.box.set i ej.ptr)))) q.nH (.box (.tag q.bh ((q.box.set i ej.ptr).set j ei.ptr)))) ej.nm (.box (.tag ej.b (ej.at' i).cells))) ei.nm (.box (.tag ei.b (ei.at' j).cells))) (fun n => by
    simp only [upt_if]
    by_cases c1 : n = ei.nm
    · simp [c1]
    · simp only [c1, if_false]
      by_cases c3 : n = ej.nm
      · simp [c3]
      · simp only [c3, if_false]
        by_cases c2 : n = q.nH
        · simp [c2, swapH]
        · simp [c2])
   repeat refine sw ?_
   exact e_end ⟨rfl, _, rfl, rfl, k1.cl, ⟨_, k1.re, k2.re k1⟩, rfl⟩
end Hm
end
section
namespace Hm
open Go
section
variable {G : Type} {P : Program} {H : HT G} {pn : List Nat} {Q : Exit → Env → Store → G → Prop} {fs : List (Frm G)} {ρ : Env} {σ : Store} {g : G} {r : List GItem} {d : Nat} {dst : Option Nat}
theorem i_ap0 (nm' : Nat) {m bytes et : Nat} {v : V} {x y : Opd} (hx : ev ρ x = .sl .nil []) (hy : srcR σ (ev ρ y) = some [v]) (hc : v.cells.length = m ∧ v.cells.all leafB = true) (hb : bytes ≤ 1000) (hs' : σ nm' = .unused) (ht : nm' < 1000000000000)
  (h : ∀ b2 c2 l2, l2.length = c2 * m → 1 ≤ c2 → l2.take m = v.cells → ((∀ u ∈ v.cells, pureB u = true) → ∀ u ∈ l2, pureB u = true) → WI P H pn Q fs r (upd ρ d (.rsl b2 1 c2)) (ups σ nm' (.box (.tag b2 l2))) g) :
  WI P H pn Q fs (.op (some d) none (.appR m bytes et x y) :: r) ρ σ g := by
 refine i_apn nm' hx hy (by simp) (fun row hr => by rw [List.mem_singleton.1 hr]; exact hc) (by simp; omega) (by simp) hs' (ty_low ht) fun b c hle => ?_
 have hle : 1 ≤ c := hle
 have e : flatC [v] = v.cells := List.append_nil _
 rw [e]
 refine h b c _ ?_ hle ?_ ?_
 · rw [List.length_append, List.length_replicate, hc.1]
   show m + (c - 1) * m = c * m
   rw [Nat.sub_mul, Nat.one_mul]
   have := Nat.mul_le_mul_right m hle
   omega
 · rw [List.take_left' hc.1]
 · intro hp u hu
   rcases List.mem_append.1 hu with h1 | h1
   · exact hp u h1
   · rw [(List.mem_replicate.1 h1).2]; rfl
theorem i_ap1 (nm nm' : Nat) {m bytes et b n c : Nat} {v : V} {l : List V} {x y : Opd} (hx : ev ρ x = .rsl b n c) (hy : srcR σ (ev ρ y) = some [v]) (hc : v.cells.length = m ∧ v.cells.all leafB = true) (hb : bytes ≤ 1000) (hn : n ≤ 100000000000) (hs : σ nm = .box (.tag b l)) (hl : l.length = c * m) (hle : n ≤ c) (hs' : σ nm' = .unused) (ht : nm' < 1000000000000)
  (h : ∀ nm2 b2 c2 l2, nm2 = nm ∨ nm2 = nm' → l2.length = c2 * m → n + 1 ≤ c2 → l2.take (n * m) = l.take (n * m) → (l2.drop (n * m)).take m = v.cells → ((∀ u ∈ l, pureB u = true) → (∀ u ∈ v.cells, pureB u = true) → ∀ u ∈ l2, pureB u = true) → WI P H pn Q fs r (upd ρ d (.rsl b2 (n + 1) c2)) (ups σ nm2 (.box (.tag b2 l2))) g) :
  WI P H pn Q fs (.op (some d) none (.appR m bytes et x y) :: r) ρ σ g := by
 have e : flatC [v] = v.cells := List.append_nil _
 have hlt : (l.take (n * m)).length = n * m := by
  rw [List.length_take, hl]
  have := Nat.mul_le_mul_right m hle
  omega
 refine i_apr nm hx hy (by simp) (fun row hr => by rw [List.mem_singleton.1 hr]; exact hc) ?_ ?_ hs (by omega) (fun hle2 => ?_) (fun hlt2 => ⟨nm', hs', ty_low ht, fun b' c' hle2 => ?_⟩)
 · have : (n + 1) * bytes ≤ (n + 1) * 1000 := Nat.mul_le_mul_left _ hb
   show (n + 1) * bytes ≤ _
   omega
 · show n + 1 ≤ _
   omega
 · have hle2 : n + 1 ≤ c := hle2
   rw [e]
   have h2 := Nat.mul_le_mul_right m hle2
   rw [Nat.add_mul, Nat.one_mul] at h2
   refine h nm b c _ (.inl rfl) ?_ hle2 ?_ ?_ ?_
   · simp only [List.length_append, hlt, hc.1, List.length_drop, hl]
     omega
   · rw [List.append_assoc, List.take_left' hlt]
   · rw [List.append_assoc, List.drop_left' hlt, List.take_left' hc.1]
   · intro hp hq u hu
     rcases List.mem_append.1 hu with h1 | h1
     · rcases List.mem_append.1 h1 with h1 | h1
       · exact hp u (List.mem_of_mem_take h1)
       · exact hq u h1
     · exact hp u (List.mem_of_mem_drop h1)
 · have hle2 : n + 1 ≤ c' := hle2
   rw [e]
   have h2 := Nat.mul_le_mul_right m hle2
   rw [Nat.add_mul, Nat.one_mul] at h2
   refine h nm' b' c' _ (.inr rfl) ?_ hle2 ?_ ?_ ?_
   · simp only [List.length_append, hlt, hc.1, List.length_replicate]
     show n * m + m + (c' - (n + 1)) * m = c' * m
     rw [Nat.sub_mul, Nat.add_mul, Nat.one_mul]
     omega
   · rw [List.append_assoc, List.take_left' hlt]
   · rw [List.append_assoc, List.drop_left' hlt, List.take_left' hc.1]
   · intro hp hq u hu
     rcases List.mem_append.1 hu with h1 | h1
     · rcases List.mem_append.1 h1 with h1 | h1
       · exact hp u (List.mem_of_mem_take h1)
       · exact hq u h1
     · rw [(List.mem_replicate.1 h1).2]; rfl
end
structure HZ (ns : List Nat) (σ : Store) (h : HS) : Prop where
 hQ : σ h.nQ = .box (.tag h.bq [.sl .nil [], .mp h.nF, .int .i64 h.time])
 es : h.es = []
 HH : h.nH ≠ h.nQ ∧ h.nH ≠ h.nF ∧ h.nH ∈ ns
 Hu : σ h.nH = .unused
 QF : h.nQ ≠ h.nF
 inQ : h.nQ ∈ ns
 inF : h.nF ∈ ns
 cl : Cl ns σ
 out : ∀ nm, σ nm ≠ .unused → nm ∈ ns
structure HB (ns : List Nat) (σ : Store) (h : HS) : Prop where
 hsz : h.es.length ≤ 1000000
 hE : ∀ e ∈ h.es, σ e.nm = .box (.tag e.b e.cells)
 hat : ∀ (i : Nat) e, h.es[i]? = some e → e.at_ = i
 nd : (h.nQ :: h.nF :: h.es.map QE.nm).Nodup
 sub : ∀ n ∈ h.nQ :: h.nF :: h.es.map QE.nm, n ∈ ns
 cl : Cl ns σ
 out : ∀ nm, σ nm ≠ .unused → nm ∈ ns
def HAny (ns : List Nat) (σ : Store) (h : HS) : Prop := HOk ns σ h ∨ HZ ns σ h
def HS.nm2 (h : HS) : List Nat := h.nQ :: h.nF :: h.es.map QE.nm
section
variable {ns : List Nat} {σ : Store} {h : HS}
theorem HOk.base (ho : HOk ns σ h) : HB ns σ h := by
 have h1 := List.nodup_cons.1 ho.nd
 have h2 := List.nodup_cons.1 h1.2
 refine ⟨ho.hsz, ho.hE, ho.hat, List.nodup_cons.2 ⟨fun hm => h1.1 (List.mem_cons_of_mem _ hm), h2.2⟩, fun n hn => ho.sub n ?_, ho.cl, ho.out⟩
 rcases List.mem_cons.1 hn with rfl | hn
 · simp [HS.names]
 · exact List.mem_cons_of_mem _ (List.mem_cons_of_mem _ hn)
theorem HZ.base (hz : HZ ns σ h) : HB ns σ h := by
 have e := hz.es
 refine ⟨by rw [e]; simp, (fun x hx => by rw [e] at hx; cases hx), (fun i x hx => by rw [e] at hx; simp at hx), (by rw [e]; simpa using hz.QF), fun n hn => ?_, hz.cl, hz.out⟩
 rw [e] at hn
 simp at hn
 rcases hn with rfl | rfl
 · exact hz.inQ
 · exact hz.inF
theorem HAny.base (ha : HAny ns σ h) : HB ns σ h := ha.elim HOk.base HZ.base
theorem HB.push (ho : HB ns σ h) {e : QE} (hlen : h.es.length < 1000000) (he1 : e.nm ∈ ns) (he2 : e.nm ∉ h.nm2) {nm2 b2 c2 : Nat} {l2 : List V} (hm1 : nm2 ∈ ns) (hm2 : nm2 ∉ h.nm2) (hm3 : nm2 ≠ e.nm)
  (k1 : l2.length = c2) (k2 : h.es.length + 1 ≤ c2) (k3 : ∀ (i : Nat) x, h.es[i]? = some x → l2[i]? = some x.ptr) (k4 : l2[h.es.length]? = some e.ptr) (k5 : ∀ v ∈ l2, pureB v = true) {σ' : Store}
  (hσ : ∀ n, σ' n = if n = h.nQ then .box (.tag h.bq [.rsl b2 (h.es.length + 1) c2, .mp h.nF, .int .i64 h.time]) else if n = nm2 then .box (.tag b2 l2) else if n = e.nm then .box (.tag e.b (e.at' h.es.length).cells) else σ n) :
  HOk ns σ' { h with nH := nm2, bh := b2, cap := c2, box := l2, es := h.es ++ [e.at' h.es.length] } ∧ σ' h.nF = σ h.nF := by
 simp only [HS.nm2, List.mem_cons, not_or] at he2 hm2
 have hnd1 := List.nodup_cons.1 ho.nd
 have hnd2 := List.nodup_cons.1 hnd1.2
 have hQF : h.nF ≠ h.nQ := fun e => hnd1.1 (by rw [e]; simp)
 have hF' : σ' h.nF = σ h.nF := by rw [hσ, if_neg hQF, if_neg (fun e => hm2.2.1 e.symm), if_neg (fun e => he2.2.1 e.symm)]
 have hcl : Cl ns σ' := (closedSt_iff _ _ _).2 fun n hn row hr => by
  rw [hσ] at hr
  split at hr
  · cases hr; exact qbox_closed (ho.sub _ (by simp))
  · split at hr
    · cases hr; exact box_closed ns k5
    · split at hr
      · cases hr; rfl
      · exact ho.cl.at hn hr
 have hE0 : ∀ x ∈ h.es, x.nm ≠ h.nQ ∧ x.nm ≠ nm2 ∧ x.nm ≠ e.nm := fun x hx => by
  have hx2 : x.nm ∈ h.es.map QE.nm := List.mem_map.2 ⟨x, hx, rfl⟩
  exact ⟨fun k => hnd1.1 (by rw [← k]; simp [hx2]), fun k => hm2.2.2 (k ▸ hx2), fun k => he2.2.2 (k ▸ hx2)⟩
 refine ⟨⟨?_, ?_, k1, ?_, ?_, fun i x hx => ?_, fun x hx => ?_, fun i x hx => ?_, ?_, fun n hn => ?_, k5, hcl, fun n hn => ?_⟩, hF'⟩
 · show σ' h.nQ = .box (.tag h.bq [.rsl b2 (h.es ++ [e.at' h.es.length]).length c2, .mp h.nF, .int .i64 h.time])
   rw [List.length_append, List.length_singleton, hσ, if_pos rfl]
 · show σ' nm2 = _
   rw [hσ, if_neg hm2.1, if_pos rfl]
 · show (h.es ++ [e.at' h.es.length]).length ≤ c2
   rw [List.length_append, List.length_singleton]
   exact k2
 · show (h.es ++ [e.at' h.es.length]).length ≤ _
   rw [List.length_append, List.length_singleton]
   omega
 · have hx : (h.es ++ [e.at' h.es.length])[i]? = some x := hx
   show l2[i]? = _
   by_cases c : i < h.es.length
   · rw [List.getElem?_append_left c] at hx
     exact k3 i x hx
   · rw [List.getElem?_append_right (by omega)] at hx
     have hi : i = h.es.length := by have := get_lt hx; simp at this; omega
     subst hi
     rw [Nat.sub_self] at hx
     cases hx
     exact k4
 · rcases List.mem_append.1 hx with hx | hx
   · obtain ⟨q1, q2, q3⟩ := hE0 x hx
     rw [hσ, if_neg q1, if_neg q2, if_neg q3]
     exact ho.hE x hx
   · rw [List.mem_singleton.1 hx]
     show σ' e.nm = _
     rw [hσ, if_neg he2.1, if_neg (fun k => hm3 k.symm), if_pos rfl]
     rfl
 · have hx : (h.es ++ [e.at' h.es.length])[i]? = some x := hx
   by_cases c : i < h.es.length
   · rw [List.getElem?_append_left c] at hx
     exact ho.hat i x hx
   · rw [List.getElem?_append_right (by omega)] at hx
     have hi : i = h.es.length := by have := get_lt hx; simp at this; omega
     subst hi
     rw [Nat.sub_self] at hx
     cases hx
     rfl
 · show (h.nQ :: nm2 :: h.nF :: (h.es ++ [e.at' h.es.length]).map QE.nm).Nodup
   have e1 : (h.es ++ [e.at' h.es.length]).map QE.nm = h.es.map QE.nm ++ [e.nm] := by rw [List.map_append]; rfl
   rw [e1]
   have hn3 : (h.es.map QE.nm ++ [e.nm]).Nodup := List.nodup_append.2 ⟨hnd2.2, by simp, fun a ha b hb => by rw [List.mem_singleton.1 hb]; exact fun k => he2.2.2 (k ▸ ha)⟩
   refine List.nodup_cons.2 ⟨?_, List.nodup_cons.2 ⟨?_, List.nodup_cons.2 ⟨?_, hn3⟩⟩⟩
   · simp only [List.mem_cons, List.mem_append, List.not_mem_nil, or_false, not_or]
     exact ⟨fun k => hm2.1 k.symm, fun k => hQF k.symm, fun k => hnd1.1 (List.mem_cons_of_mem _ k), fun k => he2.1 k.symm⟩
   · simp only [List.mem_cons, List.mem_append, List.not_mem_nil, or_false, not_or]
     exact ⟨hm2.2.1, hm2.2.2, hm3⟩
   · simp only [List.mem_cons, List.mem_append, List.not_mem_nil, or_false, not_or]
     exact ⟨hnd2.1, fun k => he2.2.1 k.symm⟩
 · have hn : n ∈ h.nQ :: nm2 :: h.nF :: (h.es ++ [e.at' h.es.length]).map QE.nm := hn
   simp only [List.mem_cons, List.map_append, List.mem_append, List.map_nil, List.map_cons, List.not_mem_nil, or_false] at hn
   rcases hn with rfl | rfl | rfl | hn | rfl
   · exact ho.sub _ (by simp)
   · exact hm1
   · exact ho.sub _ (by simp)
   · exact ho.sub n (by simp only [List.mem_cons]; exact .inr (.inr hn))
   · exact he1
 · rw [hσ] at hn
   split at hn
   · rename_i c; rw [c]; exact ho.sub _ (by simp)
   · split at hn
     · rename_i c; rw [c]; exact hm1
     · split at hn
       · rename_i c; rw [c]; exact he1
       · exact ho.out n hn
theorem HOk.pop (ho : HOk ns σ h) {es : List QE} {e : QE} (hs : h.es = es ++ [e]) {σ' : Store} (hσ : ∀ n, σ' n = if n = h.nQ then .box (.tag h.bq [.rsl h.bh es.length h.cap, .mp h.nF, .int .i64 h.time]) else σ n) :
  HOk ns σ' { h with es := es } ∧ σ' h.nF = σ h.nF ∧ σ' e.nm = .box (.tag e.b e.cells) := by
 have hl : h.es.length = es.length + 1 := by rw [hs]; simp
 have hsub : ∀ x ∈ es, x ∈ h.es := fun x hx => by rw [hs]; exact List.mem_append_left _ hx
 have hget : ∀ (i : Nat) x, es[i]? = some x → h.es[i]? = some x := fun i x hx => by rw [hs, List.getElem?_append_left (get_lt hx)]; exact hx
 have he : e ∈ h.es := by rw [hs]; simp
 have hF' : σ' h.nF = σ h.nF := by rw [hσ, if_neg (fun k => ho.QF k.symm)]
 have hnm : h.names = h.nQ :: h.nH :: h.nF :: (es.map QE.nm ++ [e.nm]) := by unfold HS.names; rw [hs, List.map_append]; rfl
 have hsl : (HS.names { h with es := es }).Sublist h.names := by
  rw [hnm]
  show (h.nQ :: h.nH :: h.nF :: es.map QE.nm).Sublist _
  exact (((List.sublist_append_left _ _).cons_cons _).cons_cons _).cons_cons _
 refine ⟨⟨?_, ?_, ho.hbl, ?_, ?_, fun i x hx => ho.ht i x (hget i x hx), fun x hx => ?_, fun i x hx => ho.hat i x (hget i x hx), hsl.nodup ho.nd, fun n hn => ho.sub n (hsl.subset hn), ho.pur, ?_, fun n hn => ?_⟩, hF', ?_⟩
 · show σ' h.nQ = _
   rw [hσ, if_pos rfl]
 · show σ' h.nH = _
   rw [hσ, if_neg (fun k => ho.QH k.symm)]
   exact ho.hH
 · show es.length ≤ h.cap
   have := ho.hle; omega
 · show es.length ≤ _
   have := ho.hsz; omega
 · rw [hσ, if_neg (fun k => ho.EQ (hsub x hx) k.symm)]
   exact ho.hE x (hsub x hx)
 · refine (closedSt_iff _ _ _).2 fun n hn row hr => ?_
   rw [hσ] at hr
   split at hr
   · cases hr; exact qbox_closed ho.inF
   · exact ho.cl.at hn hr
 · rw [hσ] at hn
   split at hn
   · rename_i c; rw [c]; exact ho.inQ
   · exact ho.out n hn
 · rw [hσ, if_neg (fun k => ho.EQ he k.symm)]
   exact ho.hE e he
end
end Hm
end
section
namespace Hm
open Go
set_option maxRecDepth 100000
set_option maxHeartbeats 2000000
section
variable {G : Type} {P : Program} {H : HT G} {pn : List Nat} {Q : Exit → Env → Store → G → Prop} {fs : List (Frm G)} {ρ : Env} {σ : Store} {g : G} {r : List GItem} {dst : Option Nat}
theorem i_dMn (ns : List Nat) {name : String} {x : Opd} {args : List Opd} {t fid : Nat} {pr : Bool} {v0 u : V} {us : List V} (hx : ev ρ x = .ifv t v0) (hm : methF P t name = some (fid, pr)) (hr : recv σ pr v0 u) (has : fzL (args.map (ev ρ)) = some us)
  (hcl : closedL ns (u :: us) = true) (hcs : Cl ns σ) (ho : ∀ nm, σ nm ≠ .unused → nm ∈ ns) {K : V → Store → G → Prop} (hc : Cc P H fid (u :: us) ns σ g K) (hK : ∀ v σ' g', K v σ' g' → ∀ nm, σ' nm ≠ .unused → nm ∈ ns)
  (h : ∀ v σ' g', K v σ' g' → WI P H pn Q fs r (put ρ dst v) σ' g') : WI P H pn Q fs (.op dst none (.callM .d name x args) :: r) ρ σ g :=
 i_dM ns hx hm hr has hcl hcs (by rw [restr_all ho]; exact hc) fun v σ' g' hk => by rw [merge_all ho (hK v σ' g' hk)]; exact h v σ' g' hk
theorem i_cdn (ns : List Nat) {f : Opd} {args : List Opd} {fid : Nat} {us : List V} (hf : calv ρ f args = some (fid, us)) (hcl : closedL ns us = true) (hcs : Cl ns σ) (ho : ∀ nm, σ nm ≠ .unused → nm ∈ ns) {K : V → Store → G → Prop} (hc : Cc P H fid us ns σ g K)
  (hK : ∀ v σ' g', K v σ' g' → ∀ nm, σ' nm ≠ .unused → nm ∈ ns) (h : ∀ v σ' g', K v σ' g' → WI P H pn Q fs r (put ρ dst v) σ' g') : WI P H pn Q fs (.op dst none (.call .d f args) :: r) ρ σ g :=
 i_cd ns hf hcl hcs (by rw [restr_all ho]; exact hc) fun v σ' g' hk => by rw [merge_all ho (hK v σ' g' hk)]; exact h v σ' g' hk
end
abbrev tO : Nat := 227
abbrev tE : Nat := 222
theorem m_Len : methF PG tO "Len" = some (236, false) := by kernel_rfl
theorem m_Less : methF PG tO "Less" = some (237, false) := by kernel_rfl
theorem m_Swap : methF PG tO "Swap" = some (238, false) := by kernel_rfl
theorem m_Push : methF PG tO "Push" = some (240, true) := by kernel_rfl
theorem m_Pop : methF PG tO "Pop" = some (239, true) := by kernel_rfl
theorem ups3 (σ : Store) (a b c : Nat) (x y z : Blk) (n : Nat) : ups (ups (ups σ a x) b y) c z n = if n = c then z else if n = b then y else if n = a then x else σ n := by simp only [upt_if]
def Pushed (ns : List Nat) (σ : Store) (q : HS) (e : QE) (σ' : Store) : Prop := ∃ h', HOk ns σ' h' ∧ h'.nQ = q.nQ ∧ h'.bq = q.bq ∧ h'.nF = q.nF ∧ h'.time = q.time ∧ h'.es = q.es ++ [e.at' q.es.length] ∧ σ' q.nF = σ q.nF
def c_openlist_order_uint32_Push : Cmd :=
 (qS [qm 5 1, qq 6 (.tass 222 (.t 5)), qm 4 6]
 (qS [qm 7 4, qm 8 0, qq 9 (.nilck (.t 8)), ql 10 1 9, qn 11 10, qq 12 (.nilck (.t 7)), qf 13 3 12, qs 1 13 11]
 (.ops [qm 14 0, qm 15 0, qq 16 (.nilck (.t 15)), ql 17 1 16, qm 18 4, qq 19 (.bsl 1 [.t 18]), qq 20 (.appR 1 8 222 (.t 17) (.t 19)), qq 21 (.nilck (.t 14)), qs 1 21 20])))
def r_openlist_order_uint32_Push : List RVar := []
def n_openlist_order_uint32_Push : Nat := 22
theorem k_openlist_order_uint32_Push : chkFn PG 240 n_openlist_order_uint32_Push r_openlist_order_uint32_Push c_openlist_order_uint32_Push = true := by kernel_rfl
theorem ct_PushM {G : Type} {H : HT G} {g : G} {ns : List Nat} {σ : Store} {q : HS} (ha : HAny ns σ q) (hlen : q.es.length < 1000000) {e : QE} (he : σ e.nm = .box (.tag e.b e.cells)) (he1 : e.nm ∈ ns) (he2 : e.nm ∉ q.names) {f : Nat} (hf1 : f ∈ ns) (hfF : f ≠ q.nF) (hf4 : σ f = .unused) (hf5 : f < 1000000000000) :
  Cc PG H 240 [.raw q.bq 0, .ifv tE (.raw e.b 0)] ns σ g fun v σ' g' => Pushed ns σ q e σ' ∧ g' = g := by
 have hb := ha.base
 have hne : e.nm ≠ q.nQ ∧ e.nm ≠ q.nH ∧ e.nm ≠ q.nF ∧ e.nm ∉ q.es.map QE.nm := by
  simp only [HS.names, List.mem_cons, not_or] at he2
  exact he2
 have he3 : e.nm ∉ q.nm2 := by
  simp only [HS.nm2, List.mem_cons, not_or]
  exact ⟨hne.1, hne.2.2.1, hne.2.2.2⟩
 have hfe : f ≠ e.nm := fun k => by rw [k, he] at hf4; cases hf4
 refine CT.step _ mixed k_openlist_order_uint32_Push hb.out fun hM => ?_
 rcases ha with ho | hz
 · have hfQ : f ≠ q.nQ := fun k => by rw [k, ho.hQ] at hf4; cases hf4
   have hfH : f ≠ q.nH := fun k => by rw [k, ho.hH] at hf4; cases hf4
   have hfE : f ∉ q.es.map QE.nm := fun hm => by
    obtain ⟨x, hx, rfl⟩ := List.mem_map.1 hm
    rw [ho.hE x hx] at hf4; cases hf4
   have hle := ho.hle
   have hl1 : q.box.length = q.cap * 1 := by rw [Nat.mul_one]; exact ho.hbl
   repeat' (first | refine i_s rfl ?_ | refine sw ?_ | refine i_tas rfl ?_ | refine i_ldr q.nQ rfl ho.hQ rfl ?_)
   refine i_str e.nm rfl he rfl ?_
   repeat (first | refine i_s rfl ?_ | refine sw ?_)
   refine i_ldr q.nQ rfl ((upt_ne _ _ (fun k => hne.1 k.symm)).trans ho.hQ) rfl ?_
   repeat refine i_s rfl ?_
   refine i_ap1 q.nH f rfl rfl ⟨rfl, rfl⟩ (by decide) (by omega) ((upt_ne _ _ (fun k => hne.2.1 k.symm)).trans ho.hH) hl1 ho.hle ((upt_ne _ _ hfe).trans hf4) hf5 (fun nm2 b2 c2 l2 k0 k1 k2 k3 k4 k5 => ?_)
   rw [Nat.mul_one] at k1 k3 k4
   repeat refine i_s rfl ?_
   have hQ2 : nm2 ≠ q.nQ := by
    rcases k0 with k0 | k0
    · rw [k0]; exact fun k => ho.QH k.symm
    · rw [k0]; exact hfQ
   refine i_str q.nQ rfl ((upt_ne _ _ (fun k => hQ2 k.symm)).trans ((upt_ne _ _ (fun k => hne.1 k.symm)).trans ho.hQ)) rfl ?_
   repeat refine sw ?_
   obtain ⟨p1, p2⟩ := hb.push hlen he1 he3 (nm2 := nm2) (b2 := b2) (c2 := c2) (l2 := l2) (by rcases k0 with k0 | k0 <;> rw [k0]; exact ho.inH; exact hf1) (by
     simp only [HS.nm2, List.mem_cons, not_or]
     rcases k0 with k0 | k0 <;> rw [k0]
     · exact ⟨fun k => ho.QH k.symm, ho.HF, fun hm => by
        obtain ⟨x, hx, k⟩ := List.mem_map.1 hm
        exact ho.EH hx k.symm⟩
     · exact ⟨hfQ, fun k => hfF k, hfE⟩) (by rcases k0 with k0 | k0 <;> rw [k0]; exact fun k => hne.2.1 k.symm; exact hfe) k1 k2 (fun i x hx => by
     have h1 := ho.ht i x hx
     have h2 := get_lt hx
     have h3 := congrArg (fun l => l[i]?) k3
     simp only [List.getElem?_take, if_pos h2] at h3
     exact h3.trans h1) (by
     have h3 := congrArg (fun l => l[0]?) k4
     simp only [List.getElem?_take, List.getElem?_drop] at h3
     simp at h3
     exact h3) (k5 ho.pur (fun u hu => by rw [List.mem_singleton.1 hu]; rfl))
    (fun n => ups3 σ e.nm nm2 q.nQ (.box (.tag e.b (e.at' q.es.length).cells)) (.box (.tag b2 l2)) (.box (.tag q.bq [.rsl b2 (q.es.length + 1) c2, .mp q.nF, .int .i64 q.time])) n)
   exact e_end ⟨rfl, _, rfl, rfl, p1.cl, ⟨_, p1.re, rfl, rfl, rfl, rfl, rfl, (restr_at ho.inF).trans p2⟩, rfl⟩
 · have hes := hz.es
   have hfQ : f ≠ q.nQ := fun k => by rw [k, hz.hQ] at hf4; cases hf4
   have h0 : q.es.length = 0 := by rw [hes]; rfl
   repeat' (first | refine i_s rfl ?_ | refine sw ?_ | refine i_tas rfl ?_ | refine i_ldr q.nQ rfl hz.hQ rfl ?_)
   refine i_str e.nm rfl he rfl ?_
   repeat (first | refine i_s rfl ?_ | refine sw ?_)
   refine i_ldr q.nQ rfl ((upt_ne _ _ (fun k => hne.1 k.symm)).trans hz.hQ) rfl ?_
   repeat refine i_s rfl ?_
   refine i_ap0 f rfl rfl ⟨rfl, rfl⟩ (by decide) ((upt_ne _ _ hfe).trans hf4) hf5 (fun b2 c2 l2 k1 k2 k3 k5 => ?_)
   rw [Nat.mul_one] at k1
   repeat refine i_s rfl ?_
   refine i_str q.nQ rfl ((upt_ne _ _ (fun k => hfQ k.symm)).trans ((upt_ne _ _ (fun k => hne.1 k.symm)).trans hz.hQ)) rfl ?_
   repeat refine sw ?_
   obtain ⟨p1, p2⟩ := hb.push hlen he1 he3 (nm2 := f) (b2 := b2) (c2 := c2) (l2 := l2) hf1 (by
     simp only [HS.nm2, List.mem_cons, not_or, hes]
     exact ⟨hfQ, fun k => hfF k, by simp⟩) hfe k1 (by omega) (fun i x hx => by rw [hes] at hx; simp at hx) (by
     rw [h0]
     have h3 := congrArg (fun l => l[0]?) k3
     simp only [List.getElem?_take] at h3
     simp at h3
     exact h3) (k5 (fun u hu => by rw [List.mem_singleton.1 hu]; rfl))
    (fun n => ups3 σ e.nm f q.nQ (.box (.tag e.b (e.at' q.es.length).cells)) (.box (.tag b2 l2)) (.box (.tag q.bq [.rsl b2 (q.es.length + 1) c2, .mp q.nF, .int .i64 q.time])) n)
   rw [h0] at p1
   exact e_end ⟨rfl, _, rfl, rfl, p1.cl, ⟨_, p1.re, rfl, rfl, rfl, rfl, by rw [h0], (restr_at hz.inF).trans (by rw [h0] at p2; exact p2)⟩, rfl⟩
end Hm
end
section
namespace Hm
open Go
set_option maxRecDepth 100000
set_option maxHeartbeats 4000000
def c_openlist_order_uint32_Pop : Cmd :=
 (qS [qq 2 (.mov (.c (.any)))]
 (qS [qm 5 0, qq 6 (.nilck (.t 5)), ql 7 1 6, qm 3 7]
 (qS [qm 8 3, qm 9 3, qn 10 9, qv 11 .sub [] 10 1, qi 12 1 8 11, ql 13 1 12, qm 4 13]
 (qS [qm 14 0, qm 15 3, qm 16 3, qn 17 16, qv 18 .sub [] 17 1, qq 19 (.slice false 1 (.t 15) none (some (.t 18))), qq 20 (.nilck (.t 14)), qs 1 20 19]
 (.seq (.ops [qm 21 4, qq 22 (.mkifc 222 (.t 21)), qm 2 22]) .ret)))))
def r_openlist_order_uint32_Pop : List RVar := [.tmp 2]
def n_openlist_order_uint32_Pop : Nat := 23
theorem k_openlist_order_uint32_Pop : chkFn PG 239 n_openlist_order_uint32_Pop r_openlist_order_uint32_Pop c_openlist_order_uint32_Pop = true := by kernel_rfl
theorem ct_PopM {G : Type} {H : HT G} {g : G} {ns : List Nat} {σ : Store} {q : HS} (ho : HOk ns σ q) {es : List QE} {e : QE} (hs : q.es = es ++ [e]) :
  Cc PG H 239 [.raw q.bq 0] ns σ g fun v σ' g' => (v = .ifv tE (.raw e.b 0) ∧ HOk ns σ' { q with es := es } ∧ σ' q.nF = σ q.nF ∧ σ' e.nm = .box (.tag e.b e.cells)) ∧ g' = g := by
 have hl : q.es.length = es.length + 1 := by rw [hs]; simp
 have hsz := ho.hsz
 have e1 : ((q.es.length : Nat) : Int) - 1 = (es.length : Nat) := by omega
 have hge : q.es[es.length]? = some e := by rw [hs]; simp
 have bi := ho.ht es.length e hge
 have he : e ∈ q.es := mem_get hge
 refine CT.step _ mixed k_openlist_order_uint32_Pop ho.out fun hM => ?_
 repeat' (first | refine i_s rfl ?_ | refine sw ?_ | refine jb rfl rfl ?_ | refine i_ldr q.nQ rfl ho.hQ rfl ?_)
 rw [e1]
 refine i_irs rfl rfl (by omega) (by omega) ?_
 refine i_ldr q.nH rfl ho.hH (ldx bi rfl) ?_
 repeat' (first | refine i_s rfl ?_ | refine sw ?_ | refine jb rfl rfl ?_ | fail)
 rw [e1]
 refine i_slr rfl rfl rfl (by omega) (by omega) ?_
 rw [Int.toNat_natCast]
 repeat refine i_s rfl ?_
 refine i_str q.nQ rfl ho.hQ rfl ?_
 repeat' (first | refine i_s rfl ?_ | refine sw ?_ | refine i_ifc rfl ?_)
 obtain ⟨p1, p2, p3⟩ := ho.pop hs (σ' := ups σ q.nQ (.box (.tag q.bq [.rsl q.bh es.length q.cap, .mp q.nF, .int .i64 q.time]))) (fun n => upt_if _ _ _ n)
 exact e_ret ⟨rfl, _, rfl, rfl, p1.cl, ⟨rfl, p1.re, (restr_at ho.inF).trans p2, (restr_at (ho.inE he)).trans p3⟩, rfl⟩
def c_container_heap_up : Cmd :=
 (.block 0 (.loop (.block 1 (qS [qm 5 1, qv 6 .sub [] 5 1, qv 7 .quo [] 6 2, qm 4 7]
 (qT (qS [qm 8 4, qm 9 1, qu 10 .eql [.i] 8 9, qm 11 10, qg 12 11 false (.mov (.t 0)), qg 13 11 false (.mov (.t 1)), qg 14 11 false (.mov (.t 4)), qg 15 11 false (.callM .d "Less" (.t 12) [.t 13, .t 14]), qg 16 11 false (.not (.t 15)), qq 17 (.pick (.t 11) (.c (.bool true)) (.t 16))]
 (.cond (.t 17) (.exit 0) .skip))
 (qS [qm 18 0, qm 19 4, qm 20 1, qq 21 (.callM .d "Swap" (.t 18) [.t 19, .t 20])]
 (.ops [qm 22 4, qm 1 22])))))))
def r_container_heap_up : List RVar := []
def n_container_heap_up : Nat := 23
theorem k_container_heap_up : chkFn PG 152 n_container_heap_up r_container_heap_up c_container_heap_up = true := by kernel_rfl
theorem ct_up {G : Type} {H : HT G} {g : G} {ns : List Nat} {σ : Store} {q : HS} (ho : HOk ns σ q) (j : Nat) (hj : j < q.es.length) :
  Cc PG H 152 [.ifv tO (.raw q.bq 0), .int .i64 j] ns σ g fun v σ' g' => (∃ q', HOk ns σ' q' ∧ Same σ q σ' q') ∧ g' = g := by
 refine CT.step _ mixed k_container_heap_up ho.out fun hM => ?_
 repeat refine sw ?_
 refine c_lp (fun u : Store × HS × Nat => [(0, .ifv tO (.raw u.2.1.bq 0)), (1, .int .i64 u.2.2)]) (fun u => lsn ns u.1) (fun u => HOk ns u.1 u.2.1 ∧ Same σ q u.1 u.2.1 ∧ u.2.2 < u.2.1.es.length) (fun u => u.2.2) (σ, q, j) ⟨ho, Same.refl _ _, hj⟩
  (fit_ns ⟨rfl, rfl, trivial⟩ (fun _ _ => rfl) rfl ho.cl (fun n hn => hn)) fun u hu => ?_
 obtain ⟨σ1, q1, k⟩ := u
 obtain ⟨ho1, hs1, hk⟩ := hu
 dsimp only at ho1 hs1 hk
 clear hj
 have hsz := ho1.hsz
 show WC _ _ _ _ _ _ _ (stOf (lsn ns σ1)) _
 rw [stOf_lsn, restr_all ho1.out]
 have hdiv : ((k : Int) - 1).tdiv 2 = ((k - 1) / 2 : Nat) := by
  cases k with
  | zero => rfl
  | succ k =>
   rw [show ((k + 1 : Nat) : Int) - 1 = (k : Nat) by omega, show k + 1 - 1 = k by omega]
   rfl
 repeat (first | refine i_s rfl ?_ | refine sw ?_ | refine jb rfl rfl ?_)
 refine i_quo rfl rfl (by decide) (by rw [hdiv]; simp only [InR]; omega) ?_
 rw [hdiv]
 repeat (first | refine i_s rfl ?_ | refine sw ?_)
 refine i_g rfl (fun hne => ?_) (fun heq => ?_)
 · have hlt : (k - 1) / 2 < k := by
    have : ¬ ((((k - 1) / 2 : Nat) : Int) = (k : Int)) := by simpa using hne
    omega
   repeat (first | refine i_s rfl ?_ | refine i_gt rfl ?_)
   refine i_dMn ns rfl m_Less ⟨_, _, _, _, rfl, ho1.hQ, rfl⟩ rfl rfl ho1.cl ho1.out (ct_Less ho1 k ((k - 1) / 2) hk (by omega)) (fun v σ' g' h => by rw [h.2.1]; exact ho1.out) ?_
   rintro v σ' g' ⟨⟨b, rfl⟩, rfl, rfl⟩
   cases b with
   | false =>
    repeat' (first | refine i_s rfl ?_ | refine sw ?_ | refine i_gt rfl ?_ | refine c_t rfl ?_)
    exact e_end ⟨rfl, _, rfl, rfl, ho1.cl, ⟨_, ho1.re, hs1.re ho1⟩, rfl⟩
   | true =>
    repeat (first | refine i_s rfl ?_ | refine sw ?_ | refine i_gt rfl ?_ | refine c_f rfl ?_)
    refine i_dMn ns rfl m_Swap ⟨_, _, _, _, rfl, ho1.hQ, rfl⟩ rfl rfl ho1.cl ho1.out (ct_Swap ho1 ((k - 1) / 2) k (by omega) hk) (fun v σ' g' h => by obtain ⟨⟨_, h, _⟩, _⟩ := h; exact h.out) ?_
    rintro v σ2 g' ⟨⟨q2, ho2, hs2⟩, rfl⟩
    repeat (first | refine i_s rfl ?_ | refine sw ?_)
    exact e_lp (σ2, q2, (k - 1) / 2) ⟨ho2, hs1.trans hs2, by show (k - 1) / 2 < q2.es.length; rw [hs2.len]; omega⟩ hlt (fit_ns ⟨by rw [hs2.bq]; rfl, rfl, trivial⟩ (fun _ _ => rfl) rfl ho2.cl (fun n hn => hn))
 · repeat' (first | refine i_s rfl ?_ | refine sw ?_ | refine i_gf rfl ?_ | refine c_t rfl ?_)
   exact e_end ⟨rfl, _, rfl, rfl, ho1.cl, ⟨_, ho1.re, hs1.re ho1⟩, rfl⟩
def c_container_heap_down : Cmd :=
 (qS [qb 6 false]
 (qS [qm 11 1, qm 7 11]
 (qT (.block 0 (.loop (.block 1 (qS [qm 12 7, qq 13 (.bin .mul false [] (.c (.int .i64 2)) (.t 12)), qv 14 .add [] 13 1, qm 8 14]
 (qT (qS [qm 15 8, qm 16 2, qu 17 .geq [] 15 16, qm 18 17, qg 19 18 false (.mov (.t 8)), qg 20 18 false (.bin .lss false [] (.t 19) (.c (.int .i64 0))), qq 21 (.pick (.t 18) (.c (.bool true)) (.t 20))]
 (.cond (.t 21) (.exit 0) .skip))
 (qS [qm 22 8, qm 9 22]
 (qT (qS [qm 23 8, qv 24 .add [] 23 1, qm 10 24]
 (qS [qm 25 10, qm 26 2, qu 27 .lss [] 25 26, qm 28 27, qg 29 28 true (.mov (.t 0)), qg 30 28 true (.mov (.t 10)), qg 31 28 true (.mov (.t 8)), qg 32 28 true (.callM .d "Less" (.t 29) [.t 30, .t 31]), qq 33 (.pick (.t 28) (.t 32) (.c (.bool false)))]
 (.cond (.t 33) (.ops [qm 34 10, qm 9 34]) .skip)))
 (qT (qS [qm 35 0, qm 36 9, qm 37 7, qq 38 (.callM .d "Less" (.t 35) [.t 36, .t 37]), qq 39 (.not (.t 38))]
 (.cond (.t 39) (.exit 0) .skip))
 (qS [qm 40 0, qm 41 7, qm 42 9, qq 43 (.callM .d "Swap" (.t 40) [.t 41, .t 42])]
 (.ops [qm 44 9, qm 7 44]))))))))))
 (.seq (.ops [qm 45 7, qm 46 1, qu 47 .gtr [] 45 46, qm 6 47]) .ret))))
def r_container_heap_down : List RVar := [.tmp 6]
def n_container_heap_down : Nat := 48
theorem k_container_heap_down : chkFn PG 151 n_container_heap_down r_container_heap_down c_container_heap_down = true := by kernel_rfl
theorem ct_down {G : Type} {H : HT G} {g : G} {ns : List Nat} {σ : Store} {q : HS} (ho : HOk ns σ q) (i n : Nat) (hi : i < q.es.length) (hn : n ≤ q.es.length) :
  Cc PG H 151 [.ifv tO (.raw q.bq 0), .int .i64 i, .int .i64 n] ns σ g fun v σ' g' => (∃ b, v = .bool b) ∧ (∃ q', HOk ns σ' q' ∧ Same σ q σ' q') ∧ g' = g := by
 refine CT.step _ mixed k_container_heap_down ho.out fun hM => ?_
 repeat (first | refine i_s rfl ?_ | refine sw ?_)
 refine c_lp (fun u : Store × HS × Nat => [(0, .ifv tO (.raw u.2.1.bq 0)), (1, .int .i64 i), (2, .int .i64 n), (7, .int .i64 u.2.2)]) (fun u => lsn ns u.1) (fun u => HOk ns u.1 u.2.1 ∧ Same σ q u.1 u.2.1 ∧ u.2.2 < u.2.1.es.length ∧ n ≤ u.2.1.es.length) (fun u => q.es.length - u.2.2) (σ, q, i) ⟨ho, Same.refl _ _, hi, hn⟩
  (fit_ns ⟨rfl, rfl, rfl, rfl, trivial⟩ (fun _ _ => rfl) rfl ho.cl (fun n hn => hn)) fun u hu => ?_
 obtain ⟨σ1, q1, k⟩ := u
 obtain ⟨ho1, hs1, hk, hn1⟩ := hu
 dsimp only at ho1 hs1 hk hn1
 have hsz := ho1.hsz
 have hlen := hs1.len
 show WC _ _ _ _ _ _ _ (stOf (lsn ns σ1)) _
 rw [stOf_lsn, restr_all ho1.out]
 have e1 : (2 : Int) * (k : Int) + 1 = (2 * k + 1 : Nat) := by omega
 have e2 : ((2 * k + 1 : Nat) : Int) + 1 = (2 * k + 2 : Nat) := by omega
 repeat (first | refine i_s rfl ?_ | refine sw ?_)
 refine i_mul rfl rfl (by simp only [InR]; omega) ?_
 refine i_add rfl rfl (by simp only [InR]; omega) ?_
 rw [e1]
 have fin : ∀ (b : Bool), ∃ q', HOk ns (restr ns σ1) q' ∧ Same σ q (restr ns σ1) q' := fun _ => ⟨_, ho1.re, hs1.re ho1⟩
 repeat (first | refine i_s rfl ?_ | refine sw ?_)
 refine i_g rfl (fun hlt => ?_) (fun hge => ?_)
 rotate_left
 · repeat' (first | refine i_s rfl ?_ | refine sw ?_ | refine i_gf rfl ?_ | refine c_t rfl ?_)
   exact e_ret ⟨rfl, _, rfl, rfl, ho1.cl, ⟨_, rfl⟩, fin true, rfl⟩
 have hlt : 2 * k + 1 < n := by
  have : ¬ (((2 * k + 1 : Nat) : Int) ≥ (n : Int)) := by simpa using hlt
  omega
 have hnn : decide (((2 * k + 1 : Nat) : Int) < 0) = false := decide_eq_false (by omega)
 repeat (first | refine i_s rfl ?_ | refine sw ?_ | refine i_gt rfl ?_ | refine c_f rfl ?_ | refine ja rfl rfl ?_)
 rw [hnn]
 skip
 rw [e2]
 skip
 refine i_g rfl (fun h2 => ?_) (fun h2 => ?_)
 · have h2 : 2 * k + 2 < n := by
    have : ((2 * k + 2 : Nat) : Int) < (n : Int) := by simpa using h2
    omega
   repeat (first | refine i_s rfl ?_ | refine i_gt rfl ?_)
   refine i_dMn ns rfl m_Less ⟨_, _, _, _, rfl, ho1.hQ, rfl⟩ rfl rfl ho1.cl ho1.out (ct_Less ho1 (2 * k + 2) (2 * k + 1) (by omega) (by omega)) (fun v σ' g' h => by rw [h.2.1]; exact ho1.out) ?_
   rintro v σ' g' ⟨⟨b, rfl⟩, rfl, rfl⟩
   cases b
   all_goals
    repeat (first | refine i_s rfl ?_ | refine sw ?_ | refine c_t rfl ?_ | refine c_f rfl ?_)
    refine i_dMn ns rfl m_Less ⟨_, _, _, _, rfl, ho1.hQ, rfl⟩ rfl rfl ho1.cl ho1.out (ct_Less ho1 _ k (by omega) (by omega)) (fun v σ' g' h => by rw [h.2.1]; exact ho1.out) ?_
    rintro v σ' g' ⟨⟨b, rfl⟩, rfl, rfl⟩
    cases b with
    | false =>
     repeat' (first | refine i_s rfl ?_ | refine sw ?_ | refine c_t rfl ?_)
     exact e_ret ⟨rfl, _, rfl, rfl, ho1.cl, ⟨_, rfl⟩, fin true, rfl⟩
    | true =>
     repeat (first | refine i_s rfl ?_ | refine sw ?_ | refine c_f rfl ?_)
     refine i_dMn ns rfl m_Swap ⟨_, _, _, _, rfl, ho1.hQ, rfl⟩ rfl rfl ho1.cl ho1.out (ct_Swap ho1 k _ hk (by omega)) (fun v σ' g' h => by obtain ⟨⟨_, h, _⟩, _⟩ := h; exact h.out) ?_
     rintro v σ2 g' ⟨⟨q2, ho2, hs2⟩, rfl⟩
     have hl2 := hs2.len
     repeat (first | refine i_s rfl ?_ | refine sw ?_)
     first
      | exact e_lp (σ2, q2, 2 * k + 1) ⟨ho2, hs1.trans hs2, by show 2 * k + 1 < q2.es.length; omega, by show n ≤ q2.es.length; omega⟩ (by show q.es.length - (2 * k + 1) < q.es.length - k; omega) (fit_ns ⟨by rw [hs2.bq]; rfl, rfl, rfl, rfl, trivial⟩ (fun _ _ => rfl) rfl ho2.cl (fun n hn => hn))
      | exact e_lp (σ2, q2, 2 * k + 2) ⟨ho2, hs1.trans hs2, by show 2 * k + 2 < q2.es.length; omega, by show n ≤ q2.es.length; omega⟩ (by show q.es.length - (2 * k + 2) < q.es.length - k; omega) (fit_ns ⟨by rw [hs2.bq]; rfl, rfl, rfl, rfl, trivial⟩ (fun _ _ => rfl) rfl ho2.cl (fun n hn => hn))
 · repeat (first | refine i_s rfl ?_ | refine sw ?_ | refine i_gf rfl ?_ | refine c_f rfl ?_)
   refine i_dMn ns rfl m_Less ⟨_, _, _, _, rfl, ho1.hQ, rfl⟩ rfl rfl ho1.cl ho1.out (ct_Less ho1 (2 * k + 1) k (by omega) (by omega)) (fun v σ' g' h => by rw [h.2.1]; exact ho1.out) ?_
   rintro v σ' g' ⟨⟨b, rfl⟩, rfl, rfl⟩
   cases b with
   | false =>
    repeat' (first | refine i_s rfl ?_ | refine sw ?_ | refine c_t rfl ?_)
    exact e_ret ⟨rfl, _, rfl, rfl, ho1.cl, ⟨_, rfl⟩, fin true, rfl⟩
   | true =>
    repeat (first | refine i_s rfl ?_ | refine sw ?_ | refine c_f rfl ?_)
    refine i_dMn ns rfl m_Swap ⟨_, _, _, _, rfl, ho1.hQ, rfl⟩ rfl rfl ho1.cl ho1.out (ct_Swap ho1 k (2 * k + 1) hk (by omega)) (fun v σ' g' h => by obtain ⟨⟨_, h, _⟩, _⟩ := h; exact h.out) ?_
    rintro v σ2 g' ⟨⟨q2, ho2, hs2⟩, rfl⟩
    have hl2 := hs2.len
    repeat (first | refine i_s rfl ?_ | refine sw ?_)
    exact e_lp (σ2, q2, 2 * k + 1) ⟨ho2, hs1.trans hs2, by show 2 * k + 1 < q2.es.length; omega, by show n ≤ q2.es.length; omega⟩ (by show q.es.length - (2 * k + 1) < q.es.length - k; omega) (fit_ns ⟨by rw [hs2.bq]; rfl, rfl, rfl, rfl, trivial⟩ (fun _ _ => rfl) rfl ho2.cl (fun n hn => hn))
def c_container_heap_Fix : Cmd :=
 (qS [qm 4 0, qm 5 1, qm 6 0, qq 7 (.callM .f "Len" (.t 6) []), qq 8 (.call .d (.c (.fn 151 [])) [.t 4, .t 5, .t 7]), qq 9 (.not (.t 8))]
 (.cond (.t 9) (.ops [qm 10 0, qm 11 1, qq 12 (.call .d (.c (.fn 152 [])) [.t 10, .t 11])]) .skip))
def r_container_heap_Fix : List RVar := []
def n_container_heap_Fix : Nat := 13
theorem k_container_heap_Fix : chkFn PG 114 n_container_heap_Fix r_container_heap_Fix c_container_heap_Fix = true := by kernel_rfl
theorem ct_Fix {G : Type} {H : HT G} {g : G} {ns : List Nat} {σ : Store} {q : HS} (ho : HOk ns σ q) (i : Nat) (hi : i < q.es.length) :
  Cc PG H 114 [.ifv tO (.raw q.bq 0), .int .i64 i] ns σ g fun v σ' g' => (∃ q', HOk ns σ' q' ∧ Same σ q σ' q') ∧ g' = g := by
 refine CT.step _ mixed k_container_heap_Fix ho.out fun hM => ?_
 repeat (first | refine i_s rfl ?_ | refine sw ?_)
 refine i_fM rfl m_Len ⟨_, _, _, _, rfl, ho.hQ, rfl⟩ rfl rfl (f_order_Len _ _ _) rfl ?_
 skip
 refine i_cdn ns rfl rfl ho.cl ho.out (ct_down ho i q.es.length hi (Nat.le_refl _)) (fun v σ' g' h => by obtain ⟨_, ⟨_, h, _⟩, _⟩ := h; exact h.out) ?_
 rintro v σ2 g' ⟨⟨b, rfl⟩, ⟨q2, ho2, hs2⟩, rfl⟩
 have hl2 := hs2.len
 cases b with
 | true =>
  repeat' (first | refine i_s rfl ?_ | refine sw ?_ | refine c_f rfl ?_)
  exact e_end ⟨rfl, _, rfl, rfl, ho2.cl, ⟨_, ho2.re, hs2.re ho2⟩, rfl⟩
 | false =>
  rw [← hs2.bq]
  repeat (first | refine i_s rfl ?_ | refine sw ?_ | refine c_t rfl ?_)
  refine i_cdn ns rfl rfl ho2.cl ho2.out (ct_up ho2 i (by omega)) (fun v σ' g' h => by obtain ⟨⟨_, h, _⟩, _⟩ := h; exact h.out) ?_
  rintro v σ3 g' ⟨⟨q3, ho3, hs3⟩, rfl⟩
  have hs := hs2.trans hs3
  repeat refine sw ?_
  exact e_end ⟨rfl, _, rfl, rfl, ho3.cl, ⟨_, ho3.re, hs.re ho3⟩, rfl⟩
structure Kept (ns : List Nat) (σ : Store) (q : HS) (σ' : Store) (q' : HS) : Prop where
 ok : HOk ns σ' q'
 nQ : q'.nQ = q.nQ
 bq : q'.bq = q.bq
 nF : q'.nF = q.nF
 time : q'.time = q.time
 fm : σ' q.nF = σ q.nF
def c_container_heap_Push : Cmd :=
 (qS [qm 4 0, qm 5 1, qq 6 (.callM .d "Push" (.t 4) [.t 5])]
 (.ops [qm 7 0, qm 8 0, qq 9 (.callM .f "Len" (.t 8) []), qv 10 .sub [] 9 1, qq 11 (.call .d (.c (.fn 152 [])) [.t 7, .t 10])]))
def r_container_heap_Push : List RVar := []
def n_container_heap_Push : Nat := 12
theorem k_container_heap_Push : chkFn PG 115 n_container_heap_Push r_container_heap_Push c_container_heap_Push = true := by kernel_rfl
theorem ct_heapPush {G : Type} {H : HT G} {g : G} {ns : List Nat} {σ : Store} {q : HS} (ha : HAny ns σ q) (hlen : q.es.length < 1000000) {e : QE} (he : σ e.nm = .box (.tag e.b e.cells)) (he1 : e.nm ∈ ns) (he2 : e.nm ∉ q.names) {f : Nat} (hf1 : f ∈ ns) (hfF : f ≠ q.nF) (hf4 : σ f = .unused) (hf5 : f < 1000000000000) :
  Cc PG H 115 [.ifv tO (.raw q.bq 0), .ifv tE (.raw e.b 0)] ns σ g fun v σ' g' => (∃ q', Kept ns σ q σ' q' ∧ (q'.es.map QE.core).Perm (e.core :: q.es.map QE.core)) ∧ g' = g := by
 have hb := ha.base
 refine CT.step _ mixed k_container_heap_Push hb.out fun hM => ?_
 repeat (first | refine i_s rfl ?_ | refine sw ?_)
 refine i_dMn ns rfl m_Push rfl rfl rfl hb.cl hb.out (ct_PushM ha hlen he he1 he2 hf1 hfF hf4 hf5) (fun v σ' g' h => by obtain ⟨⟨_, h, _⟩, _⟩ := h; exact h.out) ?_
 rintro v σ2 g' ⟨⟨q2, ho2, j1, j2, j3, j4, j5, j6⟩, rfl⟩
 have hl2 : q2.es.length = q.es.length + 1 := by rw [j5]; simp
 have hsz2 := ho2.hsz
 have e1 : ((q2.es.length : Nat) : Int) - 1 = (q.es.length : Nat) := by omega
 rw [← j2]
 repeat (first | refine i_s rfl ?_ | refine sw ?_)
 refine i_fM rfl m_Len ⟨_, _, _, _, rfl, ho2.hQ, rfl⟩ rfl rfl (f_order_Len _ _ _) rfl ?_
 repeat refine jb rfl rfl ?_
 rw [e1]
 skip
 refine i_cdn ns rfl rfl ho2.cl ho2.out (ct_up ho2 q.es.length (by omega)) (fun v σ' g' h => by obtain ⟨⟨_, h, _⟩, _⟩ := h; exact h.out) ?_
 rintro v σ3 g' ⟨⟨q3, ho3, hs3⟩, rfl⟩
 repeat refine sw ?_
 refine e_end ⟨rfl, _, rfl, rfl, ho3.cl, ⟨q3, ⟨ho3.re, hs3.nQ.trans j1, hs3.bq.trans j2, hs3.nF.trans j3, hs3.time.trans j4, (restr_at (hb.sub _ (by simp))).trans ?_⟩, ?_⟩, rfl⟩
 · rw [← j3, hs3.fm, j3, j6]
 · refine hs3.core.trans ?_
   rw [j5, List.map_append]
   exact List.perm_append_comm
def c_container_heap_Pop : Cmd :=
 (qS [qq 2 (.mov (.c (.any)))]
 (qS [qm 4 0, qq 5 (.callM .f "Len" (.t 4) []), qv 6 .sub [] 5 1, qm 3 6]
 (qS [qm 7 0, qm 8 3, qq 9 (.callM .d "Swap" (.t 7) [.c (.int .i64 0), .t 8])]
 (qS [qm 10 0, qm 11 3, qq 12 (.call .d (.c (.fn 151 [])) [.t 10, .c (.int .i64 0), .t 11])]
 (.seq (.ops [qm 13 0, qq 14 (.callM .d "Pop" (.t 13) []), qm 2 14]) .ret)))))
def r_container_heap_Pop : List RVar := [.tmp 2]
def n_container_heap_Pop : Nat := 15
theorem k_container_heap_Pop : chkFn PG 117 n_container_heap_Pop r_container_heap_Pop c_container_heap_Pop = true := by kernel_rfl
theorem ct_heapPop {G : Type} {H : HT G} {g : G} {ns : List Nat} {σ : Store} {q : HS} (ho : HOk ns σ q) (hne : q.es ≠ []) :
  Cc PG H 117 [.ifv tO (.raw q.bq 0)] ns σ g fun v σ' g' => (∃ (q' : HS) (e : QE), Kept ns σ q σ' q' ∧ (q.es.map QE.core).Perm (e.core :: q'.es.map QE.core) ∧ v = .ifv tE (.raw e.b 0) ∧ σ' e.nm = .box (.tag e.b e.cells) ∧ e.nm ≠ q.nF) ∧ g' = g := by
 have hpos : 0 < q.es.length := List.length_pos_iff.2 hne
 have e1 : ((q.es.length : Nat) : Int) - 1 = (q.es.length - 1 : Nat) := by omega
 have hsz := ho.hsz
 refine CT.step _ mixed k_container_heap_Pop ho.out fun hM => ?_
 repeat (first | refine i_s rfl ?_ | refine sw ?_)
 refine i_fM rfl m_Len ⟨_, _, _, _, rfl, ho.hQ, rfl⟩ rfl rfl (f_order_Len _ _ _) rfl ?_
 repeat (first | refine i_s rfl ?_ | refine sw ?_ | refine jb rfl rfl ?_)
 rw [e1]
 skip
 refine i_dMn ns rfl m_Swap ⟨_, _, _, _, rfl, ho.hQ, rfl⟩ rfl rfl ho.cl ho.out (ct_Swap ho 0 (q.es.length - 1) hpos (by omega)) (fun v σ' g' h => by obtain ⟨⟨_, h, _⟩, _⟩ := h; exact h.out) ?_
 rintro v σ2 g' ⟨⟨q2, ho2, hs2⟩, rfl⟩
 have hl2 := hs2.len
 rw [← hs2.bq]
 repeat (first | refine i_s rfl ?_ | refine sw ?_)
 refine i_cdn ns rfl rfl ho2.cl ho2.out (ct_down ho2 0 (q.es.length - 1) (by omega) (by omega)) (fun v σ' g' h => by obtain ⟨_, ⟨_, h, _⟩, _⟩ := h; exact h.out) ?_
 rintro v σ3 g' ⟨⟨b, rfl⟩, ⟨q3, ho3, hs3⟩, rfl⟩
 have hl3 := hs3.len
 rw [← hs3.bq]
 obtain ⟨es, e, hes⟩ : ∃ es e, q3.es = es ++ [e] := by
  rcases List.eq_nil_or_concat q3.es with h | ⟨l, x, h⟩
  · rw [h] at hl3; simp at hl3; omega
  · exact ⟨l, x, by rw [h, List.concat_eq_append]⟩
 repeat (first | refine i_s rfl ?_ | refine sw ?_)
 refine i_dMn ns rfl m_Pop rfl rfl rfl ho3.cl ho3.out (ct_PopM ho3 hes) (fun v σ' g' h => by obtain ⟨⟨_, h, _⟩, _⟩ := h; exact h.out) ?_
 rintro v σ4 g' ⟨⟨rfl, ho4, j1, j2⟩, rfl⟩
 repeat (first | refine i_s rfl ?_ | refine sw ?_)
 have he : e ∈ q3.es := by rw [hes]; simp
 refine e_ret ⟨rfl, _, rfl, rfl, ho4.cl, ⟨_, e, ⟨ho4.re, hs3.nQ.trans hs2.nQ, hs3.bq.trans hs2.bq, hs3.nF.trans hs2.nF, hs3.time.trans hs2.time, (restr_at ho.inF).trans ?_⟩, ?_, rfl, (restr_at (ho3.inE he)).trans j2, ?_⟩, rfl⟩
 · rw [← hs2.nF, ← hs3.nF, j1, hs3.nF, hs3.fm, hs2.nF, hs2.fm]
 · have := (hs3.core.trans hs2.core).symm
   rw [hes, List.map_append] at this
   exact this.trans List.perm_append_comm
 · rw [← hs2.nF, ← hs3.nF]
   exact fun k => ho3.EF he k.symm
end Hm
end
