/- The program of this seat, and the stepping layer. -/
import Derived.Test.YtdncnfiinemnpaaCoreC
import Derived.Test.YtdncnfiinemnpaaProg
import Derived.ProofKit
section
/- The program of this seat, and the stepping layer. -/
namespace Hm
open Go
theorem mixed : Go.Proofs.Try.prog.follows .mixedOrders = true := by kernel_rfl
end Hm
end

section
/- Types and objects of domains: what the functions answer, in plain terms. No program in sight. -/
namespace Hm
open Go
structure Flt where
  code : Int
  index : Int
instance : DecidableEq Flt := fun a b => if h : a.code = b.code ∧ a.index = b.index then isTrue (by cases a; cases b; simp only at h; rw [h.1, h.2]) else isFalse (by rintro rfl; exact h ⟨rfl, rfl⟩)
def ftV (f : Flt) : V := .agg [.int .i64 f.code, .int .i64 f.index]
def okF : Flt := ⟨0, 0⟩
structure Typ where
  name : List UInt8
  parent : Int
structure Obj where
  name : List UInt8
  type : Int
def tyV (t : Typ) : V := .agg [.str t.name, .int .i64 t.parent]
def obV (o : Obj) : V := .agg [.str o.name, .int .i64 o.type]
def i64V (n : Int) : V := .int .i64 n
def nameAt (i : Nat) (c : UInt8) : Bool := (decide (97 ≤ c.toNat) && decide (c.toNat ≤ 122)) || (decide (0 < i) && ((decide (48 ≤ c.toNat) && decide (c.toNat ≤ 57)) || c.toNat == 45))
def namesFrom : Nat → List UInt8 → Bool
  | _, [] => true
  | i, c :: r => nameAt i c && namesFrom (i + 1) r
def nameB (s : List UInt8) : Bool := namesFrom 0 s && decide (1 ≤ s.length) && decide (s.length ≤ 12)
theorem namesFrom_take (s : List UInt8) : ∀ k, (∀ j, j < k → ∀ c, s[j]? = some c → nameAt j c = true) → s.length ≤ k → namesFrom 0 s = true := by
  have key : ∀ (s : List UInt8) (i k : Nat), (∀ j, j < k → ∀ c, s[j]? = some c → nameAt (i + j) c = true) → s.length ≤ k → namesFrom i s = true := by
    intro s
    induction s with
    | nil => intros; rfl
    | cons c r ih =>
      intro i k h hl
      simp only [List.length_cons] at hl
      simp only [namesFrom, Bool.and_eq_true]
      refine ⟨h 0 (by omega) c rfl, ih (i + 1) (k - 1) (fun j hj c' hc => ?_) (by omega)⟩
      have := h (j + 1) (by omega) c' (by simpa using hc)
      rwa [show i + 1 + j = i + (j + 1) from by omega]
  intro k h hl
  exact key s 0 k (fun j hj c hc => by rw [Nat.zero_add]; exact h j hj c hc) hl
theorem namesFrom_false {s : List UInt8} {k : Nat} {c : UInt8} (hc : s[k]? = some c) (hn : nameAt k c = false) : namesFrom 0 s = false := by
  have key : ∀ (s : List UInt8) (i k : Nat), s[k]? = some c → nameAt (i + k) c = false → namesFrom i s = false := by
    intro s
    induction s with
    | nil => intro i k h; simp at h
    | cons a r ih =>
      intro i k h hn
      simp only [namesFrom]
      cases k with
      | zero => simp at h; subst h; rw [show i + 0 = i from rfl] at hn; rw [hn]; rfl
      | succ k => rw [ih (i + 1) k (by simpa using h) (by rw [show i + 1 + k = i + (k + 1) from by omega]; exact hn)]; simp
  exact key s 0 k hc (by rw [Nat.zero_add]; exact hn)
def objectS : List UInt8 := [111, 98, 106, 101, 99, 116]
/-- The fault of one type. -/
def tyBad (l : List Typ) (i : Nat) : Option Flt := match l[i]? with
  | none => none
  | some t => if nameB t.name = false ∨ t.name = objectS then some ⟨12, i⟩ else if (l.take i).any (fun u => u.name == t.name) = true then some ⟨7, i⟩
    else if t.parent < -1 ∨ t.parent ≥ i then some ⟨3, i⟩ else none
def typesFault (l : List Typ) : Flt := if l.length > 8 then ⟨2, -1⟩ else (scan (tyBad l) 0 l.length).getD okF
def obBad (n : Nat) (l : List Obj) (i : Nat) : Option Flt := match l[i]? with
  | none => none
  | some t => if nameB t.name = false then some ⟨12, -10 - i⟩ else if (l.take i).any (fun u => u.name == t.name) = true then some ⟨7, -10 - i⟩
    else if t.type < -1 ∨ t.type ≥ n then some ⟨3, -10 - i⟩ else none
def objectsFault (n : Nat) (l : List Obj) : Flt := if l.length > 8 then ⟨2, -3⟩ else (scan (obBad n l) 0 l.length).getD okF
def badT (n : Nat) (a : Int) : Bool := decide (a < -1) || decide (a ≥ n)
def usedFault (l : List Typ) (a b : Int) : Flt := if typesFault l = okF then (if badT l.length a || badT l.length b then ⟨3, -2⟩ else okF) else typesFault l
def parentOf (l : List Typ) (t : Int) : Int := match l[t.toNat]? with
  | some x => x.parent
  | none => -1
/-- A type and its supertypes. -/
def supersN (l : List Typ) : Nat → Int → List Int
  | 0, _ => [-1]
  | n + 1, t => if t < 0 then [-1] else t :: supersN l n (parentOf l t)
def supers (l : List Typ) (t : Int) : List Int := supersN l (t.toNat + 1) t
def subB (l : List Typ) (a b : Int) : Bool := decide (b ∈ supers l a)
def joinOf (l : List Typ) (a b : Int) : Int := ((supers l a).find? fun t => subB l b t).getD (-1)
def membersOf (l : List Typ) (os : List Obj) (t : Int) : List Int := ((List.range os.length).filter fun i => match os[i]? with
  | some o => subB l o.type t
  | none => false).map Int.ofNat
end Hm
end

section
/- Types: valid hierarchies; supertypes. No program in sight. -/
namespace Hm
open Go
def TyValid (l : List Typ) : Prop := l.length ≤ 8 ∧ ∀ (i : Nat) (t : Typ), l[i]? = some t → -1 ≤ t.parent ∧ t.parent < i
theorem scan_all {α : Type} {bad : Nat → Option α} : ∀ (n i : Nat), scan bad i n = none → ∀ j, i ≤ j → j < i + n → bad j = none
  | 0, i, _, j, h1, h2 => by omega
  | n + 1, i, h, j, h1, h2 => by
    simp only [scan] at h
    split at h
    · cases h
    · rename_i e
      by_cases hj : j = i
      · rw [hj]; exact e
      · exact scan_all n (i + 1) h j (by omega) (by omega)
theorem getD_ok {o : Option Flt} (hc : ∀ f, o = some f → f.code ≠ 0) (h : o.getD okF = okF) : o = none := by
  cases o with
  | none => rfl
  | some f => exact absurd (by rw [show f = okF from h]; rfl) (hc f rfl)
theorem scan_prop {α : Type} {bad : Nat → Option α} (p : Option α → Prop) (h0 : p none) (h : ∀ i, p (bad i)) : ∀ n i, p (scan bad i n)
  | 0, _ => h0
  | n + 1, i => by
    simp only [scan]
    have := h i
    split
    · rename_i f e; rw [e] at this; exact this
    · exact scan_prop p h0 h n (i + 1)
theorem tyBad_code (l : List Typ) (i : Nat) : ∀ f, tyBad l i = some f → f.code ≠ 0 := by
  intro f h
  unfold tyBad at h
  split at h
  · cases h
  · repeat' split at h
    all_goals cases h
    all_goals simp
theorem typesFault_valid {l : List Typ} (h : typesFault l = okF) : TyValid l := by
  unfold typesFault at h
  split at h
  · cases h
  · rename_i h8
    have hs := getD_ok (scan_prop (bad := tyBad l) (fun o => ∀ f, o = some f → f.code ≠ 0) (by simp) (fun i => tyBad_code l i) l.length 0) h
    refine ⟨by omega, fun i t ht => ?_⟩
    have := scan_all _ _ hs i (Nat.zero_le _) (by have := get_lt ht; omega)
    unfold tyBad at this
    rw [ht] at this
    simp only at this
    split at this
    · cases this
    · split at this
      · cases this
      · split at this
        · cases this
        · omega
theorem parent_ok {l : List Typ} (hv : TyValid l) {t : Int} (h0 : 0 ≤ t) (h1 : t < l.length) : ∃ x, l[t.toNat]? = some x ∧ parentOf l t = x.parent ∧ -1 ≤ x.parent ∧ x.parent < t := by
  obtain ⟨x, hx⟩ := get_some (l := l) (k := t.toNat) (by omega)
  have := hv.2 _ _ hx
  exact ⟨x, hx, by simp [parentOf, hx], this.1, by omega⟩
theorem supersN_succ {l : List Typ} {n : Nat} {t : Int} (h : ¬ t < 0) : supersN l (n + 1) t = t :: supersN l n (parentOf l t) := if_neg h
theorem supersN_fuel {l : List Typ} (hv : TyValid l) : ∀ (n : Nat) (t : Int), t < n → t < l.length → supersN l n t = supersN l (t.toNat + 1) t
  | 0, t, h, _ => by simp [supersN, h, show t < 0 from by omega]
  | n + 1, t, h, h1 => by
    by_cases h0 : t < 0
    · simp [supersN, h0]
    · obtain ⟨x, hx, hp, h2, h3⟩ := parent_ok hv (by omega) h1
      by_cases hn : t.toNat = n
      · rw [hn]
      · rw [← supersN_fuel hv n t (by omega) h1]
        cases n with
        | zero => omega
        | succ m =>
          rw [supersN_succ h0, supersN_succ h0, hp, supersN_fuel hv (m + 1) x.parent (by omega) (by omega), supersN_fuel hv m x.parent (by omega) (by omega)]
theorem supers_neg {l : List Typ} {t : Int} (h : t < 0) : supers l t = [-1] := by simp [supers, supersN, h]
theorem supers_cons {l : List Typ} (hv : TyValid l) {t : Int} (h0 : 0 ≤ t) (h1 : t < l.length) {x : Typ} (hx : l[t.toNat]? = some x) : supers l t = t :: supers l x.parent := by
  obtain ⟨x', hx', hp, h2, h3⟩ := parent_ok hv h0 h1
  rw [hx] at hx'; cases hx'
  unfold supers
  rw [show supersN l (t.toNat + 1) t = t :: supersN l t.toNat (parentOf l t) from by simp [supersN, show ¬ t < 0 from by omega], hp, supersN_fuel hv _ _ (by omega) (by omega)]
theorem supers_len {l : List Typ} : ∀ (n : Nat) (t : Int), (supersN l n t).length ≤ n + 1
  | 0, _ => by simp [supersN]
  | n + 1, t => by
    simp only [supersN]
    split
    · simp
    · have := supers_len (l := l) n (parentOf l t)
      simp only [List.length_cons]; omega
theorem supers_length {l : List Typ} {t : Int} (h : t < l.length) (hv : TyValid l) : (supers l t).length ≤ 10 := by
  have := supers_len (l := l) (t.toNat + 1) t
  have := hv.1
  unfold supers
  omega
end Hm
end

section
/- Contracts: small functions of the references, and of names. -/
namespace Hm
open Go
set_option maxRecDepth 100000
set_option linter.unusedSimpArgs false
set_option linter.unusedVariables false
def c_R1_In : Cmd :=
  (.seq
   (.ops [
   .op (some 6) none (.mov (.c (.bool false)))])
   (.cut
   (.seq
   (.ops [
   .op (some 7) none (.mov (.t 0)),
   .op (some 8) none (.mov (.t 1)),
   .op (some 9) none (.bin .geq false [] (.t 7) (.t 8)),
   .op (some 10) none (.mov (.t 9)),
   .op (some 11) (some (10, true)) (.mov (.t 0)),
   .op (some 12) (some (10, true)) (.mov (.t 2)),
   .op (some 13) (some (10, true)) (.bin .leq false [] (.t 11) (.t 12)),
   .op (some 14) none (.pick (.t 10) (.t 13) (.c (.bool false))),
   .op (some 6) none (.mov (.t 14))])
   .ret)))
def r_R1_In : List RVar := [.tmp 6]
def n_R1_In : Nat := 15
theorem k_R1_In : chkFn Go.Proofs.Try.prog 40 n_R1_In r_R1_In c_R1_In = true := by kernel_rfl
theorem f_R1_In (x lo hi : Int) : Fc Go.Proofs.Try.prog 40 [.int .i64 x, .int .i64 lo, .int .i64 hi] (.bool (decide (lo ≤ x) && decide (x ≤ hi))) := by
  refine Fn.step mixed k_R1_In ?_
  repeat' (first | refine i_s rfl ?_ | refine c_seq ?_ | refine c_cut0 ?_ | refine c_ops ?_ | refine i_nil ?_ | refine e_seq ?_ | refine e_block ?_ | refine c_block ?_ | refine c_skip ?_ | refine c_ret ?_ | refine c_exit ?_ | refine e_exit rfl ?_ | refine i_s0 rfl ?_ | refine c_leaf ?_ | refine i_gt rfl ?_ | refine i_gf rfl ?_ | refine i_gd rfl ?_ | refine c_t rfl ?_ | refine c_f rfl ?_ | refine i_conv rfl (by simp only [InR, List.length_map]; omega) ?_ | refine i_add rfl rfl (by simp only [InR, List.length_map]; omega) ?_ | refine i_sub rfl rfl (by simp only [InR, List.length_map]; omega) ?_ | refine i_ixm rfl rfl (by assumption) ?_ | refine i_iam rfl rfl (by assumption) rfl ?_ | refine i_tk rfl rfl (by omega) ?_ | refine i_stb rfl ?_ | refine i_alloc rfl ?_ | refine i_box rfl rfl ?_ | refine i_nv rfl ?_ | refine c_node ?_ ?_ | refine i_g rfl (fun h => ?_) (fun h => ?_) | refine c_cond rfl (fun h => ?_) (fun h => ?_))
  all_goals refine e_ret ⟨rfl, _, rfl, congrArg V.bool ?_⟩
  · have := of_decide_eq_true h; simp; omega
  · have := of_decide_eq_false h; simp; omega
def c_R1_At : Cmd :=
  (.seq
   (.ops [
   .op (some 4) none (.alloc 2240258 (.agg [.int .i64 (0), .int .i64 (0)]))])
   (.cut
   (.seq
   (.ops [
   .op (some 5) none (.mov (.t 0)),
   .op (some 6) none (.mov (.t 1)),
   .op (some 7) none (.build [.int .i64 (0), .int .i64 (0)] [(0, 1, .t 5), (1, 1, .t 6)]),
   .op none none (.store 2 (.t 4) (.t 7))])
   .ret)))
def r_R1_At : List RVar := [.cell true 2 4]
def n_R1_At : Nat := 8
theorem k_R1_At : chkFn Go.Proofs.Try.prog 35 n_R1_At r_R1_At c_R1_At = true := by kernel_rfl
theorem f_R1_At (c i : Int) : Fc Go.Proofs.Try.prog 35 [.int .i64 c, .int .i64 i] (.agg [.int .i64 c, .int .i64 i]) := by
  refine Fn.step mixed k_R1_At ?_
  repeat' (first | refine i_s rfl ?_ | refine c_seq ?_ | refine c_cut0 ?_ | refine c_ops ?_ | refine i_nil ?_ | refine e_seq ?_ | refine e_block ?_ | refine c_block ?_ | refine c_skip ?_ | refine c_ret ?_ | refine c_exit ?_ | refine e_exit rfl ?_ | refine i_s0 rfl ?_ | refine c_leaf ?_ | refine i_gt rfl ?_ | refine i_gf rfl ?_ | refine i_gd rfl ?_ | refine c_t rfl ?_ | refine c_f rfl ?_ | refine i_conv rfl (by simp only [InR, List.length_map]; omega) ?_ | refine i_add rfl rfl (by simp only [InR, List.length_map]; omega) ?_ | refine i_sub rfl rfl (by simp only [InR, List.length_map]; omega) ?_ | refine i_ixm rfl rfl (by assumption) ?_ | refine i_iam rfl rfl (by assumption) rfl ?_ | refine i_tk rfl rfl (by omega) ?_ | refine i_stb rfl ?_ | refine i_alloc rfl ?_ | refine i_box rfl rfl ?_ | refine i_nv rfl ?_ | refine c_node ?_ ?_ | refine i_g rfl (fun h => ?_) (fun h => ?_) | refine c_cond rfl (fun h => ?_) (fun h => ?_))
  exact e_ret ⟨rfl, _, rfl, rfl⟩
def c_R1_Has : Cmd :=
  (.seq
   (.ops [
   .op (some 4) none (.mov (.c (.bool false)))])
   (.cut
   (.seq
   (.seq
   (.ops [
   .op (some 5) none (.mov (.c (.int .i64 (0))))])
   (.cut
   (.block 0
   (.loop
   (.seq
   (.seq
   (.ops [
   .op (some 6) none (.mov (.t 5)),
   .op (some 7) none (.mov (.t 0)),
   .op (some 8) none (.len false (.t 7)),
   .op (some 9) none (.bin .lss false [] (.t 6) (.t 8))])
   (.cut
   (.cond (.t 9)
   .skip
   (.exit 0))))
   (.cut
   (.seq
   (.block 1
   (.seq
   (.ops [
   .op (some 12) none (.mov (.t 0)),
   .op (some 13) none (.mov (.t 5)),
   .op (some 14) none (.iaddr 1 (.t 12) (.t 13)),
   .op (some 15) none (.load false 1 (.t 14)),
   .op (some 16) none (.mov (.t 1)),
   .op (some 17) none (.bin .eql false [.i] (.t 15) (.t 16))])
   (.cut
   (.cond (.t 17)
   (.seq
   (.ops [
   .op (some 4) none (.mov (.c (.bool true)))])
   .ret)
   .skip))))
   (.cut
   (.ops [
   .op (some 10) none (.mov (.t 5)),
   .op (some 11) none (.bin .add false [] (.t 10) (.c (.int .i64 (1)))),
   .op (some 5) none (.mov (.t 11))])))))))))
   (.cut
   (.seq
   (.ops [
   .op (some 4) none (.mov (.c (.bool false)))])
   .ret)))))
def r_R1_Has : List RVar := [.tmp 4]
def n_R1_Has : Nat := 18
theorem k_R1_Has : chkFn Go.Proofs.Try.prog 44 n_R1_Has r_R1_Has c_R1_Has = true := by kernel_rfl
theorem f_R1_Has (xs : List Int) (n : Int) (hl : xs.length ≤ 140737488355328) : Fc Go.Proofs.Try.prog 44 [.sl .p (xs.map i64V), .int .i64 n] (.bool (decide (n ∈ xs))) := by
  refine Fn.step mixed k_R1_Has ?_
  repeat (first | refine i_s rfl ?_ | refine c_seq ?_ | refine c_cut0 ?_ | refine c_ops ?_ | refine i_nil ?_ | refine e_seq ?_ | refine e_block ?_ | refine c_block ?_ | refine c_skip ?_ | refine c_ret ?_ | refine c_exit ?_ | refine e_exit rfl ?_ | refine i_s0 rfl ?_ | refine c_leaf ?_ | refine i_gt rfl ?_ | refine i_gf rfl ?_ | refine i_gd rfl ?_ | refine c_t rfl ?_ | refine c_f rfl ?_ | refine i_conv rfl (by simp only [InR, List.length_map]; omega) ?_ | refine i_add rfl rfl (by simp only [InR, List.length_map]; omega) ?_ | refine i_sub rfl rfl (by simp only [InR, List.length_map]; omega) ?_ | refine i_ixm rfl rfl (by assumption) ?_ | refine i_iam rfl rfl (by assumption) rfl ?_ | refine i_tk rfl rfl (by omega) ?_ | refine i_stb rfl ?_ | refine i_alloc rfl ?_ | refine i_box rfl rfl ?_ | refine i_nv rfl ?_)
  refine c_for xs.length (fun k => [(0, .sl .p (xs.map i64V)), (1, .int .i64 n), (5, .int .i64 k)]) (fun _ => []) (fun k => n ∉ xs.take k) (by simp) ⟨by repeat (first | exact trivial | refine ⟨rfl, ?_⟩), by repeat (first | exact trivial | refine ⟨rfl, ?_⟩), rfl⟩ fun k hk hi => ?_
  repeat (first | refine i_s rfl ?_ | refine c_seq ?_ | refine c_cut0 ?_ | refine c_ops ?_ | refine i_nil ?_ | refine e_seq ?_ | refine e_block ?_ | refine c_block ?_ | refine c_skip ?_ | refine c_ret ?_ | refine c_exit ?_ | refine e_exit rfl ?_ | refine i_s0 rfl ?_ | refine c_leaf ?_ | refine i_gt rfl ?_ | refine i_gf rfl ?_ | refine i_gd rfl ?_ | refine c_t rfl ?_ | refine c_f rfl ?_ | refine i_conv rfl (by simp only [InR, List.length_map]; omega) ?_ | refine i_add rfl rfl (by simp only [InR, List.length_map]; omega) ?_ | refine i_sub rfl rfl (by simp only [InR, List.length_map]; omega) ?_ | refine i_ixm rfl rfl (by assumption) ?_ | refine i_iam rfl rfl (by assumption) rfl ?_ | refine i_tk rfl rfl (by omega) ?_ | refine i_stb rfl ?_ | refine i_alloc rfl ?_ | refine i_box rfl rfl ?_ | refine i_nv rfl ?_)
  refine c_cond rfl (fun h => ?_) (fun h => ?_)
  · have hlt : k < xs.length := by simpa using h
    obtain ⟨c, hc⟩ := get_some hlt
    repeat' (first | refine i_s rfl ?_ | refine c_seq ?_ | refine c_cut0 ?_ | refine c_ops ?_ | refine i_nil ?_ | refine e_seq ?_ | refine e_block ?_ | refine c_block ?_ | refine c_skip ?_ | refine c_ret ?_ | refine c_exit ?_ | refine e_exit rfl ?_ | refine i_s0 rfl ?_ | refine c_leaf ?_ | refine i_gt rfl ?_ | refine i_gf rfl ?_ | refine i_gd rfl ?_ | refine c_t rfl ?_ | refine c_f rfl ?_ | refine i_conv rfl (by simp only [InR, List.length_map]; omega) ?_ | refine i_add rfl rfl (by simp only [InR, List.length_map]; omega) ?_ | refine i_sub rfl rfl (by simp only [InR, List.length_map]; omega) ?_ | refine i_ixm rfl rfl (by assumption) ?_ | refine i_iam rfl rfl (by assumption) rfl ?_ | refine i_tk rfl rfl (by omega) ?_ | refine i_stb rfl ?_ | refine i_alloc rfl ?_ | refine i_box rfl rfl ?_ | refine i_nv rfl ?_ | refine c_node ?_ ?_ | refine i_g rfl (fun h => ?_) (fun h => ?_) | refine c_cond rfl (fun h => ?_) (fun h => ?_))
    · refine e_ret ⟨rfl, _, rfl, congrArg V.bool ?_⟩
      have e : c = n := by simpa using h
      exact decide_eq_true (e ▸ mem_get hc)
    · refine e_for hlt ?_ ⟨by repeat (first | exact trivial | refine ⟨rfl, ?_⟩), by repeat (first | exact trivial | refine ⟨rfl, ?_⟩), rfl⟩
      have e : c ≠ n := by simpa using h
      rw [take_succ_get hc, List.mem_append]
      simp [hi, Ne.symm e]
  · have hge : ¬ k < xs.length := by simpa using h
    rw [List.take_of_length_le (by omega)] at hi
    repeat' (first | refine i_s rfl ?_ | refine c_seq ?_ | refine c_cut0 ?_ | refine c_ops ?_ | refine i_nil ?_ | refine e_seq ?_ | refine e_block ?_ | refine c_block ?_ | refine c_skip ?_ | refine c_ret ?_ | refine c_exit ?_ | refine e_exit rfl ?_ | refine i_s0 rfl ?_ | refine c_leaf ?_ | refine i_gt rfl ?_ | refine i_gf rfl ?_ | refine i_gd rfl ?_ | refine c_t rfl ?_ | refine c_f rfl ?_ | refine i_conv rfl (by simp only [InR, List.length_map]; omega) ?_ | refine i_add rfl rfl (by simp only [InR, List.length_map]; omega) ?_ | refine i_sub rfl rfl (by simp only [InR, List.length_map]; omega) ?_ | refine i_ixm rfl rfl (by assumption) ?_ | refine i_iam rfl rfl (by assumption) rfl ?_ | refine i_tk rfl rfl (by omega) ?_ | refine i_stb rfl ?_ | refine i_alloc rfl ?_ | refine i_box rfl rfl ?_ | refine i_nv rfl ?_ | refine c_node ?_ ?_ | refine i_g rfl (fun h => ?_) (fun h => ?_) | refine c_cond rfl (fun h => ?_) (fun h => ?_))
    exact e_ret ⟨rfl, _, rfl, congrArg V.bool (decide_eq_false hi)⟩
def c_R1_Ints : Cmd :=
  (.seq
   (.ops [
   .op (some 4) none (.mov (.c (.bool false)))])
   (.cut
   (.seq
   (.seq
   (.ops [
   .op (some 6) none (.mov (.t 0)),
   .op (some 7) none (.len false (.t 6)),
   .op (some 8) none (.mov (.t 1)),
   .op (some 9) none (.len false (.t 8)),
   .op (some 10) none (.bin .neq false [.i] (.t 7) (.t 9))])
   (.cut
   (.cond (.t 10)
   (.seq
   (.ops [
   .op (some 4) none (.mov (.c (.bool false)))])
   .ret)
   .skip)))
   (.cut
   (.seq
   (.seq
   (.ops [
   .op (some 5) none (.mov (.c (.int .i64 (0))))])
   (.cut
   (.block 0
   (.loop
   (.seq
   (.seq
   (.ops [
   .op (some 11) none (.mov (.t 5)),
   .op (some 12) none (.mov (.t 0)),
   .op (some 13) none (.len false (.t 12)),
   .op (some 14) none (.bin .lss false [] (.t 11) (.t 13))])
   (.cut
   (.cond (.t 14)
   .skip
   (.exit 0))))
   (.cut
   (.seq
   (.block 1
   (.seq
   (.ops [
   .op (some 17) none (.mov (.t 0)),
   .op (some 18) none (.mov (.t 5)),
   .op (some 19) none (.iaddr 1 (.t 17) (.t 18)),
   .op (some 20) none (.load false 1 (.t 19)),
   .op (some 21) none (.mov (.t 1)),
   .op (some 22) none (.mov (.t 5)),
   .op (some 23) none (.iaddr 1 (.t 21) (.t 22)),
   .op (some 24) none (.load false 1 (.t 23)),
   .op (some 25) none (.bin .neq false [.i] (.t 20) (.t 24))])
   (.cut
   (.cond (.t 25)
   (.seq
   (.ops [
   .op (some 4) none (.mov (.c (.bool false)))])
   .ret)
   .skip))))
   (.cut
   (.ops [
   .op (some 15) none (.mov (.t 5)),
   .op (some 16) none (.bin .add false [] (.t 15) (.c (.int .i64 (1)))),
   .op (some 5) none (.mov (.t 16))])))))))))
   (.cut
   (.seq
   (.ops [
   .op (some 4) none (.mov (.c (.bool true)))])
   .ret)))))))
def r_R1_Ints : List RVar := [.tmp 4]
def n_R1_Ints : Nat := 26
theorem k_R1_Ints : chkFn Go.Proofs.Try.prog 22 n_R1_Ints r_R1_Ints c_R1_Ints = true := by kernel_rfl
theorem f_R1_Ints (xs ys : List Int) (hl : xs.length ≤ 140737488355328) : Fc Go.Proofs.Try.prog 22 [.sl .p (xs.map i64V), .sl .p (ys.map i64V)] (.bool (decide (xs = ys))) := by
  refine Fn.step mixed k_R1_Ints ?_
  repeat' (first | refine i_s rfl ?_ | refine c_seq ?_ | refine c_cut0 ?_ | refine c_ops ?_ | refine i_nil ?_ | refine e_seq ?_ | refine e_block ?_ | refine c_block ?_ | refine c_skip ?_ | refine c_ret ?_ | refine c_exit ?_ | refine e_exit rfl ?_ | refine i_s0 rfl ?_ | refine c_leaf ?_ | refine i_gt rfl ?_ | refine i_gf rfl ?_ | refine i_gd rfl ?_ | refine c_t rfl ?_ | refine c_f rfl ?_ | refine i_conv rfl (by simp only [InR, List.length_map]; omega) ?_ | refine i_add rfl rfl (by simp only [InR, List.length_map]; omega) ?_ | refine i_sub rfl rfl (by simp only [InR, List.length_map]; omega) ?_ | refine i_ixm rfl rfl (by assumption) ?_ | refine i_iam rfl rfl (by assumption) rfl ?_ | refine i_tk rfl rfl (by omega) ?_ | refine i_stb rfl ?_ | refine i_alloc rfl ?_ | refine i_box rfl rfl ?_ | refine i_nv rfl ?_ | refine c_node ?_ ?_ | refine i_g rfl (fun h => ?_) (fun h => ?_) | refine c_cond rfl (fun h => ?_) (fun h => ?_))
  · have e : xs.length ≠ ys.length := by simp at h; omega
    refine e_ret ⟨rfl, _, rfl, congrArg V.bool (decide_eq_false fun e' => e (by rw [e']))⟩
  have e : xs.length = ys.length := by simp at h; omega
  refine c_for xs.length (fun k => [(0, .sl .p (xs.map i64V)), (1, .sl .p (ys.map i64V)), (5, .int .i64 k)]) (fun _ => []) (fun k => xs.take k = ys.take k) (by simp) ⟨by repeat (first | exact trivial | refine ⟨rfl, ?_⟩), by repeat (first | exact trivial | refine ⟨rfl, ?_⟩), rfl⟩ fun k hk hi => ?_
  repeat (first | refine i_s rfl ?_ | refine c_seq ?_ | refine c_cut0 ?_ | refine c_ops ?_ | refine i_nil ?_ | refine e_seq ?_ | refine e_block ?_ | refine c_block ?_ | refine c_skip ?_ | refine c_ret ?_ | refine c_exit ?_ | refine e_exit rfl ?_ | refine i_s0 rfl ?_ | refine c_leaf ?_ | refine i_gt rfl ?_ | refine i_gf rfl ?_ | refine i_gd rfl ?_ | refine c_t rfl ?_ | refine c_f rfl ?_ | refine i_conv rfl (by simp only [InR, List.length_map]; omega) ?_ | refine i_add rfl rfl (by simp only [InR, List.length_map]; omega) ?_ | refine i_sub rfl rfl (by simp only [InR, List.length_map]; omega) ?_ | refine i_ixm rfl rfl (by assumption) ?_ | refine i_iam rfl rfl (by assumption) rfl ?_ | refine i_tk rfl rfl (by omega) ?_ | refine i_stb rfl ?_ | refine i_alloc rfl ?_ | refine i_box rfl rfl ?_ | refine i_nv rfl ?_)
  refine c_cond rfl (fun h => ?_) (fun h => ?_)
  · have hlt : k < xs.length := by simpa using h
    obtain ⟨c, hc⟩ := get_some hlt
    obtain ⟨c', hc'⟩ := get_some (e ▸ hlt)
    repeat' (first | refine i_s rfl ?_ | refine c_seq ?_ | refine c_cut0 ?_ | refine c_ops ?_ | refine i_nil ?_ | refine e_seq ?_ | refine e_block ?_ | refine c_block ?_ | refine c_skip ?_ | refine c_ret ?_ | refine c_exit ?_ | refine e_exit rfl ?_ | refine i_s0 rfl ?_ | refine c_leaf ?_ | refine i_gt rfl ?_ | refine i_gf rfl ?_ | refine i_gd rfl ?_ | refine c_t rfl ?_ | refine c_f rfl ?_ | refine i_conv rfl (by simp only [InR, List.length_map]; omega) ?_ | refine i_add rfl rfl (by simp only [InR, List.length_map]; omega) ?_ | refine i_sub rfl rfl (by simp only [InR, List.length_map]; omega) ?_ | refine i_ixm rfl rfl (by assumption) ?_ | refine i_iam rfl rfl (by assumption) rfl ?_ | refine i_tk rfl rfl (by omega) ?_ | refine i_stb rfl ?_ | refine i_alloc rfl ?_ | refine i_box rfl rfl ?_ | refine i_nv rfl ?_ | refine c_node ?_ ?_ | refine i_g rfl (fun h => ?_) (fun h => ?_) | refine c_cond rfl (fun h => ?_) (fun h => ?_))
    · refine e_ret ⟨rfl, _, rfl, congrArg V.bool (decide_eq_false fun e' => ?_)⟩
      subst e'
      rw [hc] at hc'
      cases hc'
      simp at h
    · refine e_for hlt ?_ ⟨by repeat (first | exact trivial | refine ⟨rfl, ?_⟩), by repeat (first | exact trivial | refine ⟨rfl, ?_⟩), rfl⟩
      have e : c = c' := by simpa using h
      rw [take_succ_get hc, take_succ_get hc', hi, e]
  · have hge : ¬ k < xs.length := by simpa using h
    rw [List.take_of_length_le (by omega), List.take_of_length_le (by omega)] at hi
    repeat' (first | refine i_s rfl ?_ | refine c_seq ?_ | refine c_cut0 ?_ | refine c_ops ?_ | refine i_nil ?_ | refine e_seq ?_ | refine e_block ?_ | refine c_block ?_ | refine c_skip ?_ | refine c_ret ?_ | refine c_exit ?_ | refine e_exit rfl ?_ | refine i_s0 rfl ?_ | refine c_leaf ?_ | refine i_gt rfl ?_ | refine i_gf rfl ?_ | refine i_gd rfl ?_ | refine c_t rfl ?_ | refine c_f rfl ?_ | refine i_conv rfl (by simp only [InR, List.length_map]; omega) ?_ | refine i_add rfl rfl (by simp only [InR, List.length_map]; omega) ?_ | refine i_sub rfl rfl (by simp only [InR, List.length_map]; omega) ?_ | refine i_ixm rfl rfl (by assumption) ?_ | refine i_iam rfl rfl (by assumption) rfl ?_ | refine i_tk rfl rfl (by omega) ?_ | refine i_stb rfl ?_ | refine i_alloc rfl ?_ | refine i_box rfl rfl ?_ | refine i_nv rfl ?_ | refine c_node ?_ ?_ | refine i_g rfl (fun h => ?_) (fun h => ?_) | refine c_cond rfl (fun h => ?_) (fun h => ?_))
    exact e_ret ⟨rfl, _, rfl, congrArg V.bool (decide_eq_true hi)⟩
end Hm
end

section
/- Contracts: names; searching in lists of types and objects. -/
namespace Hm
open Go
set_option maxRecDepth 100000
set_option linter.unusedSimpArgs false
set_option linter.unusedVariables false
theorem u8le (c : UInt8) : c.toNat ≤ 255 := by have := c.toNat_lt; omega
def c_R1_Name : Cmd :=
  (.seq
   (.ops [
   .op (some 2) none (.mov (.c (.bool false)))])
   (.cut
   (.seq
   (.seq
   (.ops [
   .op (some 3) none (.mov (.c (.int .i64 (0))))])
   (.cut
   (.block 0
   (.loop
   (.seq
   (.seq
   (.ops [
   .op (some 5) none (.mov (.t 3)),
   .op (some 6) none (.mov (.t 0)),
   .op (some 7) none (.len true (.t 6)),
   .op (some 8) none (.bin .lss false [] (.t 5) (.t 7))])
   (.cut
   (.cond (.t 8)
   .skip
   (.exit 0))))
   (.cut
   (.seq
   (.block 1
   (.seq
   (.ops [
   .op (some 11) none (.mov (.t 0)),
   .op (some 12) none (.mov (.t 3)),
   .op (some 13) none (.index (.t 11) (.t 12)),
   .op (some 14) none (.conv .i64 (.t 13)),
   .op (some 4) none (.mov (.t 14))])
   (.cut
   (.seq
   (.ops [
   .op (some 15) none (.mov (.t 4)),
   .op (some 16) none (.call .f (.c (.fn 40 [])) [.t 15, .c (.int .i64 (97)), .c (.int .i64 (122))]),
   .op (some 17) none (.not (.t 16)),
   .op (some 18) none (.mov (.t 17)),
   .op (some 19) (some (18, true)) (.mov (.t 3)),
   .op (some 20) (some (18, true)) (.bin .eql false [.i] (.t 19) (.c (.int .i64 (0)))),
   .op (some 21) (some (18, true)) (.mov (.t 20)),
   .op (some 22) (some (21, false)) (.mov (.t 4)),
   .op (some 23) (some (21, false)) (.call .f (.c (.fn 40 [])) [.t 22, .c (.int .i64 (48)), .c (.int .i64 (57))]),
   .op (some 24) (some (21, false)) (.not (.t 23)),
   .op (some 25) (some (21, false)) (.mov (.t 24)),
   .op (some 26) (some (25, true)) (.mov (.t 4)),
   .op (some 27) (some (25, true)) (.bin .neq false [.i] (.t 26) (.c (.int .i64 (45)))),
   .op (some 28) (some (21, false)) (.pick (.t 25) (.t 27) (.c (.bool false))),
   .op (some 29) (some (18, true)) (.pick (.t 21) (.c (.bool true)) (.t 28)),
   .op (some 30) none (.pick (.t 18) (.t 29) (.c (.bool false)))])
   (.cut
   (.cond (.t 30)
   (.seq
   (.ops [
   .op (some 2) none (.mov (.c (.bool false)))])
   .ret)
   .skip))))))
   (.cut
   (.ops [
   .op (some 9) none (.mov (.t 3)),
   .op (some 10) none (.bin .add false [] (.t 9) (.c (.int .i64 (1)))),
   .op (some 3) none (.mov (.t 10))])))))))))
   (.cut
   (.seq
   (.ops [
   .op (some 31) none (.mov (.t 0)),
   .op (some 32) none (.len true (.t 31)),
   .op (some 33) none (.call .f (.c (.fn 40 [])) [.t 32, .c (.int .i64 (1)), .c (.int .i64 (12))]),
   .op (some 2) none (.mov (.t 33))])
   .ret)))))
def r_R1_Name : List RVar := [.tmp 2]
def n_R1_Name : Nat := 34
theorem k_R1_Name : chkFn Go.Proofs.Try.prog 39 n_R1_Name r_R1_Name c_R1_Name = true := by kernel_rfl
theorem f_R1_Name (s : List UInt8) (hl : s.length ≤ 140737488355328) : Fc Go.Proofs.Try.prog 39 [.str s] (.bool (nameB s)) := by
  refine Fn.step mixed k_R1_Name ?_
  repeat (first | refine i_s rfl ?_ | refine c_seq ?_ | refine c_cut0 ?_ | refine c_ops ?_ | refine i_nil ?_ | refine e_seq ?_ | refine e_block ?_ | refine c_block ?_ | refine c_skip ?_ | refine c_ret ?_ | refine c_exit ?_ | refine e_exit rfl ?_ | refine i_s0 rfl ?_ | refine c_leaf ?_ | refine i_gt rfl ?_ | refine i_gf rfl ?_ | refine i_gd rfl ?_ | refine c_t rfl ?_ | refine c_f rfl ?_ | refine i_conv rfl (by simp only [InR, List.length_map]; omega) ?_ | refine i_add rfl rfl (by simp only [InR, List.length_map]; omega) ?_ | refine i_sub rfl rfl (by simp only [InR, List.length_map]; omega) ?_ | refine i_ixm rfl rfl (by assumption) ?_ | refine i_iam rfl rfl (by assumption) rfl ?_ | refine i_tk rfl rfl (by omega) ?_ | refine i_stb rfl ?_ | refine i_alloc rfl ?_ | refine i_box rfl rfl ?_ | refine i_nv rfl ?_)
  refine c_for s.length (fun k => [(0, .str s), (3, .int .i64 k)]) (fun _ => []) (fun k => ∀ j, j < k → ∀ c, s[j]? = some c → nameAt j c = true) all_zero ⟨by repeat (first | exact trivial | refine ⟨rfl, ?_⟩), by repeat (first | exact trivial | refine ⟨rfl, ?_⟩), rfl⟩ fun k hk hi => ?_
  repeat (first | refine i_s rfl ?_ | refine c_seq ?_ | refine c_cut0 ?_ | refine c_ops ?_ | refine i_nil ?_ | refine e_seq ?_ | refine e_block ?_ | refine c_block ?_ | refine c_skip ?_ | refine c_ret ?_ | refine c_exit ?_ | refine e_exit rfl ?_ | refine i_s0 rfl ?_ | refine c_leaf ?_ | refine i_gt rfl ?_ | refine i_gf rfl ?_ | refine i_gd rfl ?_ | refine c_t rfl ?_ | refine c_f rfl ?_ | refine i_conv rfl (by simp only [InR, List.length_map]; omega) ?_ | refine i_add rfl rfl (by simp only [InR, List.length_map]; omega) ?_ | refine i_sub rfl rfl (by simp only [InR, List.length_map]; omega) ?_ | refine i_ixm rfl rfl (by assumption) ?_ | refine i_iam rfl rfl (by assumption) rfl ?_ | refine i_tk rfl rfl (by omega) ?_ | refine i_stb rfl ?_ | refine i_alloc rfl ?_ | refine i_box rfl rfl ?_ | refine i_nv rfl ?_)
  refine c_cond rfl (fun h => ?_) (fun h => ?_)
  · have hlt : k < s.length := by simpa using h
    obtain ⟨c, hc⟩ := get_some hlt
    have hb := u8le c
    have next : nameAt k c = true → ∀ j, j < k + 1 → ∀ c, s[j]? = some c → nameAt j c = true := fun hn => all_succ hi fun c' hc' => by
      rw [hc] at hc'; injection hc' with hc'; rw [← hc']; exact hn
    have bad : nameAt k c = false → V.bool (nameB s) = V.bool false := fun hn => by simp [nameB, namesFrom_false hc hn]
    clear hi h
    repeat' (first | refine i_s rfl ?_ | refine c_seq ?_ | refine c_cut0 ?_ | refine c_ops ?_ | refine i_nil ?_ | refine e_seq ?_ | refine e_block ?_ | refine c_block ?_ | refine c_skip ?_ | refine c_ret ?_ | refine c_exit ?_ | refine e_exit rfl ?_ | refine i_s0 rfl ?_ | refine c_leaf ?_ | refine i_gt rfl ?_ | refine i_gf rfl ?_ | refine i_gd rfl ?_ | refine c_t rfl ?_ | refine c_f rfl ?_ | refine i_conv rfl (by simp only [InR, List.length_map]; omega) ?_ | refine i_add rfl rfl (by simp only [InR, List.length_map]; omega) ?_ | refine i_sub rfl rfl (by simp only [InR, List.length_map]; omega) ?_ | refine i_ixm rfl rfl (by assumption) ?_ | refine i_iam rfl rfl (by assumption) rfl ?_ | refine i_tk rfl rfl (by omega) ?_ | refine i_stb rfl ?_ | refine i_alloc rfl ?_ | refine i_box rfl rfl ?_ | refine i_nv rfl ?_ | refine c_node ?_ ?_ | refine i_g rfl (fun h => ?_) (fun h => ?_) | refine c_cond rfl (fun h => ?_) (fun h => ?_) | refine i_f rfl rfl (f_R1_In _ _ _) rfl ?_)
    all_goals first
      | refine e_for hlt (next (by simp [nameAt] at *; omega)) ⟨by repeat (first | exact trivial | refine ⟨rfl, ?_⟩), by repeat (first | exact trivial | refine ⟨rfl, ?_⟩), rfl⟩
      | refine e_ret ⟨rfl, _, rfl, bad (by simp [nameAt] at *; omega)⟩
  · have hge : ¬ k < s.length := by simpa using h
    have hall := namesFrom_take s k hi (by omega)
    clear hi
    repeat (first | refine i_s rfl ?_ | refine c_seq ?_ | refine c_cut0 ?_ | refine c_ops ?_ | refine i_nil ?_ | refine e_seq ?_ | refine e_block ?_ | refine c_block ?_ | refine c_skip ?_ | refine c_ret ?_ | refine c_exit ?_ | refine e_exit rfl ?_ | refine i_s0 rfl ?_ | refine c_leaf ?_ | refine i_gt rfl ?_ | refine i_gf rfl ?_ | refine i_gd rfl ?_ | refine c_t rfl ?_ | refine c_f rfl ?_ | refine i_conv rfl (by simp only [InR, List.length_map]; omega) ?_ | refine i_add rfl rfl (by simp only [InR, List.length_map]; omega) ?_ | refine i_sub rfl rfl (by simp only [InR, List.length_map]; omega) ?_ | refine i_ixm rfl rfl (by assumption) ?_ | refine i_iam rfl rfl (by assumption) rfl ?_ | refine i_tk rfl rfl (by omega) ?_ | refine i_stb rfl ?_ | refine i_alloc rfl ?_ | refine i_box rfl rfl ?_ | refine i_nv rfl ?_ | refine i_f rfl rfl (f_R1_In _ _ _) rfl ?_)
    refine e_ret ⟨rfl, _, rfl, congrArg V.bool ?_⟩
    simp only [nameB, hall, Bool.true_and]
    congr 1 <;> exact decide_eq_decide.2 (by omega)
def c_types_IsName : Cmd :=
  (.seq
   (.ops [
   .op (some 2) none (.mov (.c (.bool false)))])
   (.cut
   (.seq
   (.seq
   (.ops [
   .op (some 5) none (.mov (.t 0)),
   .op (some 6) none (.len true (.t 5)),
   .op (some 7) none (.mov (.c (.int .i64 (0))))])
   (.cut
   (.block 0
   (.loop
   (.seq
   (.ops [
   .op (some 8) none (.bin .lss false [] (.t 7) (.t 6))])
   (.cut
   (.seq
   (.cond (.t 8)
   .skip
   (.exit 0))
   (.cut
   (.seq
   (.block 1
   (.seq
   (.ops [
   .op (some 9) none (.mov (.t 7)),
   .op (some 3) none (.mov (.t 9))])
   (.cut
   (.seq
   (.ops [
   .op (some 10) none (.mov (.t 0)),
   .op (some 11) none (.mov (.t 3)),
   .op (some 12) none (.index (.t 10) (.t 11)),
   .op (some 4) none (.mov (.t 12))])
   (.cut
   (.seq
   (.ops [
   .op (some 13) none (.mov (.t 4)),
   .op (some 14) none (.bin .geq false [] (.t 13) (.c (.int .u8 (97)))),
   .op (some 15) none (.mov (.t 14)),
   .op (some 16) (some (15, true)) (.mov (.t 4)),
   .op (some 17) (some (15, true)) (.bin .leq false [] (.t 16) (.c (.int .u8 (122)))),
   .op (some 18) none (.pick (.t 15) (.t 17) (.c (.bool false))),
   .op (some 19) none (.mov (.t 18)),
   .op (some 20) (some (19, false)) (.mov (.t 3)),
   .op (some 21) (some (19, false)) (.bin .gtr false [] (.t 20) (.c (.int .i64 (0)))),
   .op (some 22) (some (19, false)) (.mov (.t 21)),
   .op (some 23) (some (22, true)) (.mov (.t 4)),
   .op (some 24) (some (22, true)) (.bin .geq false [] (.t 23) (.c (.int .u8 (48)))),
   .op (some 25) (some (22, true)) (.mov (.t 24)),
   .op (some 26) (some (25, true)) (.mov (.t 4)),
   .op (some 27) (some (25, true)) (.bin .leq false [] (.t 26) (.c (.int .u8 (57)))),
   .op (some 28) (some (22, true)) (.pick (.t 25) (.t 27) (.c (.bool false))),
   .op (some 29) (some (22, true)) (.mov (.t 28)),
   .op (some 30) (some (29, false)) (.mov (.t 4)),
   .op (some 31) (some (29, false)) (.bin .eql false [.i] (.t 30) (.c (.int .u8 (45)))),
   .op (some 32) (some (22, true)) (.pick (.t 29) (.c (.bool true)) (.t 31)),
   .op (some 33) (some (19, false)) (.pick (.t 22) (.t 32) (.c (.bool false))),
   .op (some 34) none (.pick (.t 19) (.c (.bool true)) (.t 33)),
   .op (some 35) none (.not (.t 34))])
   (.cut
   (.cond (.t 35)
   (.seq
   (.ops [
   .op (some 2) none (.mov (.c (.bool false)))])
   .ret)
   .skip))))))))
   (.cut
   (.ops [
   .op (some 36) none (.bin .add false [] (.t 7) (.c (.int .i64 (1)))),
   .op (some 7) none (.mov (.t 36))])))))))))))
   (.cut
   (.seq
   (.ops [
   .op (some 37) none (.mov (.t 0)),
   .op (some 38) none (.len true (.t 37)),
   .op (some 39) none (.bin .geq false [] (.t 38) (.c (.int .i64 (1)))),
   .op (some 40) none (.mov (.t 39)),
   .op (some 41) (some (40, true)) (.mov (.t 0)),
   .op (some 42) (some (40, true)) (.len true (.t 41)),
   .op (some 43) (some (40, true)) (.bin .leq false [] (.t 42) (.c (.int .i64 (12)))),
   .op (some 44) none (.pick (.t 40) (.t 43) (.c (.bool false))),
   .op (some 2) none (.mov (.t 44))])
   .ret)))))
def r_types_IsName : List RVar := [.tmp 2]
def n_types_IsName : Nat := 45
theorem k_types_IsName : chkFn Go.Proofs.Try.prog 36 n_types_IsName r_types_IsName c_types_IsName = true := by kernel_rfl
theorem f_types_IsName (s : List UInt8) (hl : s.length ≤ 140737488355328) : Fc Go.Proofs.Try.prog 36 [.str s] (.bool (nameB s)) := by
  refine Fn.step mixed k_types_IsName ?_
  repeat (first | refine i_s rfl ?_ | refine c_seq ?_ | refine c_cut0 ?_ | refine c_ops ?_ | refine i_nil ?_ | refine e_seq ?_ | refine e_block ?_ | refine c_block ?_ | refine c_skip ?_ | refine c_ret ?_ | refine c_exit ?_ | refine e_exit rfl ?_ | refine i_s0 rfl ?_ | refine c_leaf ?_ | refine i_gt rfl ?_ | refine i_gf rfl ?_ | refine i_gd rfl ?_ | refine c_t rfl ?_ | refine c_f rfl ?_ | refine i_conv rfl (by simp only [InR, List.length_map]; omega) ?_ | refine i_add rfl rfl (by simp only [InR, List.length_map]; omega) ?_ | refine i_sub rfl rfl (by simp only [InR, List.length_map]; omega) ?_ | refine i_ixm rfl rfl (by assumption) ?_ | refine i_iam rfl rfl (by assumption) rfl ?_ | refine i_tk rfl rfl (by omega) ?_ | refine i_stb rfl ?_ | refine i_alloc rfl ?_ | refine i_box rfl rfl ?_ | refine i_nv rfl ?_)
  refine c_for s.length (fun k => [(0, .str s), (6, .int .i64 s.length), (7, .int .i64 k)]) (fun _ => []) (fun k => ∀ j, j < k → ∀ c, s[j]? = some c → nameAt j c = true) all_zero ⟨by repeat (first | exact trivial | refine ⟨rfl, ?_⟩), by repeat (first | exact trivial | refine ⟨rfl, ?_⟩), rfl⟩ fun k hk hi => ?_
  repeat (first | refine i_s rfl ?_ | refine c_seq ?_ | refine c_cut0 ?_ | refine c_ops ?_ | refine i_nil ?_ | refine e_seq ?_ | refine e_block ?_ | refine c_block ?_ | refine c_skip ?_ | refine c_ret ?_ | refine c_exit ?_ | refine e_exit rfl ?_ | refine i_s0 rfl ?_ | refine c_leaf ?_ | refine i_gt rfl ?_ | refine i_gf rfl ?_ | refine i_gd rfl ?_ | refine c_t rfl ?_ | refine c_f rfl ?_ | refine i_conv rfl (by simp only [InR, List.length_map]; omega) ?_ | refine i_add rfl rfl (by simp only [InR, List.length_map]; omega) ?_ | refine i_sub rfl rfl (by simp only [InR, List.length_map]; omega) ?_ | refine i_ixm rfl rfl (by assumption) ?_ | refine i_iam rfl rfl (by assumption) rfl ?_ | refine i_tk rfl rfl (by omega) ?_ | refine i_stb rfl ?_ | refine i_alloc rfl ?_ | refine i_box rfl rfl ?_ | refine i_nv rfl ?_)
  refine c_cond rfl (fun h => ?_) (fun h => ?_)
  · have hlt : k < s.length := by simpa using h
    obtain ⟨c, hc⟩ := get_some hlt
    have next : nameAt k c = true → ∀ j, j < k + 1 → ∀ c, s[j]? = some c → nameAt j c = true := fun hn => all_succ hi fun c' hc' => by
      rw [hc] at hc'; injection hc' with hc'; rw [← hc']; exact hn
    have bad : nameAt k c = false → V.bool (nameB s) = V.bool false := fun hn => by simp [nameB, namesFrom_false hc hn]
    clear hi h
    repeat' (first | refine i_s rfl ?_ | refine c_seq ?_ | refine c_cut0 ?_ | refine c_ops ?_ | refine i_nil ?_ | refine e_seq ?_ | refine e_block ?_ | refine c_block ?_ | refine c_skip ?_ | refine c_ret ?_ | refine c_exit ?_ | refine e_exit rfl ?_ | refine i_s0 rfl ?_ | refine c_leaf ?_ | refine i_gt rfl ?_ | refine i_gf rfl ?_ | refine i_gd rfl ?_ | refine c_t rfl ?_ | refine c_f rfl ?_ | refine i_conv rfl (by simp only [InR, List.length_map]; omega) ?_ | refine i_add rfl rfl (by simp only [InR, List.length_map]; omega) ?_ | refine i_sub rfl rfl (by simp only [InR, List.length_map]; omega) ?_ | refine i_ixm rfl rfl (by assumption) ?_ | refine i_iam rfl rfl (by assumption) rfl ?_ | refine i_tk rfl rfl (by omega) ?_ | refine i_stb rfl ?_ | refine i_alloc rfl ?_ | refine i_box rfl rfl ?_ | refine i_nv rfl ?_ | refine c_node ?_ ?_ | refine i_g rfl (fun h => ?_) (fun h => ?_) | refine c_cond rfl (fun h => ?_) (fun h => ?_))
    all_goals first
      | refine e_for hlt (next (by simp [nameAt] at *; omega)) ⟨by repeat (first | exact trivial | refine ⟨rfl, ?_⟩), by repeat (first | exact trivial | refine ⟨rfl, ?_⟩), rfl⟩
      | refine e_ret ⟨rfl, _, rfl, bad (by simp [nameAt] at *; omega)⟩
  · have hge : ¬ k < s.length := by simpa using h
    have hall := namesFrom_take s k hi (by omega)
    clear hi
    repeat' (first | refine i_s rfl ?_ | refine c_seq ?_ | refine c_cut0 ?_ | refine c_ops ?_ | refine i_nil ?_ | refine e_seq ?_ | refine e_block ?_ | refine c_block ?_ | refine c_skip ?_ | refine c_ret ?_ | refine c_exit ?_ | refine e_exit rfl ?_ | refine i_s0 rfl ?_ | refine c_leaf ?_ | refine i_gt rfl ?_ | refine i_gf rfl ?_ | refine i_gd rfl ?_ | refine c_t rfl ?_ | refine c_f rfl ?_ | refine i_conv rfl (by simp only [InR, List.length_map]; omega) ?_ | refine i_add rfl rfl (by simp only [InR, List.length_map]; omega) ?_ | refine i_sub rfl rfl (by simp only [InR, List.length_map]; omega) ?_ | refine i_ixm rfl rfl (by assumption) ?_ | refine i_iam rfl rfl (by assumption) rfl ?_ | refine i_tk rfl rfl (by omega) ?_ | refine i_stb rfl ?_ | refine i_alloc rfl ?_ | refine i_box rfl rfl ?_ | refine i_nv rfl ?_ | refine c_node ?_ ?_ | refine i_g rfl (fun h => ?_) (fun h => ?_) | refine c_cond rfl (fun h => ?_) (fun h => ?_))
    all_goals refine e_ret ⟨rfl, _, rfl, congrArg V.bool ?_⟩
    · have h' := of_decide_eq_true h
      have e : decide (1 ≤ s.length) = true := decide_eq_true (by omega)
      simp only [nameB, hall, e, Bool.true_and]
      exact decide_eq_decide.2 (by omega)
    · have h' := of_decide_eq_false h
      have : decide (1 ≤ s.length) = false := decide_eq_false (by omega)
      simp [nameB, this]
def fidx {α : Type} (p : α → Bool) (l : List α) : Int := match l.findIdx? p with
  | some i => i
  | none => -1
theorem fidx_hit {α : Type} {p : α → Bool} {l : List α} {k : Nat} {c : α} (h : ∀ j, j < k → ∀ c, l[j]? = some c → p c = false) (hc : l[k]? = some c) (hp : p c = true) : fidx p l = k := by
  have : l.findIdx? p = some k := by
    rw [List.findIdx?_eq_some_iff_getElem]
    have hk := get_lt hc
    refine ⟨hk, ?_, fun j hj => ?_⟩
    · rw [List.getElem?_eq_getElem hk] at hc; injection hc with hc; rw [hc]; exact hp
    · simp [h j hj _ (List.getElem?_eq_getElem (by omega))]
  simp [fidx, this]
theorem fidx_none {α : Type} {p : α → Bool} {l : List α} (h : ∀ j, j < l.length → ∀ c, l[j]? = some c → p c = false) : fidx p l = -1 := by
  have : l.findIdx? p = none := by
    rw [List.findIdx?_eq_none_iff]
    intro x hx
    obtain ⟨j, hj, e⟩ := List.getElem_of_mem hx
    exact h j hj x (by rw [← e]; exact List.getElem?_eq_getElem hj)
  simp [fidx, this]
theorem fidx_any {α : Type} (p : α → Bool) (l : List α) : decide (fidx p l ≥ 0) = l.any p := by
  unfold fidx
  cases h : l.findIdx? p with
  | none =>
    rw [List.findIdx?_eq_none_iff] at h
    have : l.any p = false := by
      rw [Bool.eq_false_iff]
      intro e
      obtain ⟨x, h1, h2⟩ := List.any_eq_true.1 e
      rw [h x h1] at h2
      cases h2
    rw [this]; rfl
  | some k =>
    rw [List.findIdx?_eq_some_iff_getElem] at h
    obtain ⟨h1, h2, _⟩ := h
    have : l.any p = true := List.any_eq_true.2 ⟨_, List.getElem_mem h1, h2⟩
    rw [this]
    simp
def c_slices_IndexFunc_Type : Cmd :=
  (.seq
   (.ops [
   .op (some 4) none (.mov (.c (.int .i64 (0))))])
   (.cut
   (.seq
   (.seq
   (.ops [
   .op (some 6) none (.mov (.t 0)),
   .op (some 7) none (.len false (.t 6)),
   .op (some 8) none (.mov (.c (.int .i64 (0))))])
   (.cut
   (.block 0
   (.loop
   (.seq
   (.ops [
   .op (some 9) none (.bin .lss false [] (.t 8) (.t 7))])
   (.cut
   (.seq
   (.cond (.t 9)
   .skip
   (.exit 0))
   (.cut
   (.seq
   (.block 1
   (.seq
   (.ops [
   .op (some 10) none (.mov (.t 8)),
   .op (some 5) none (.mov (.t 10))])
   (.cut
   (.seq
   (.ops [
   .op (some 11) none (.mov (.t 1)),
   .op (some 12) none (.mov (.t 0)),
   .op (some 13) none (.mov (.t 5)),
   .op (some 14) none (.iaddr 2 (.t 12) (.t 13)),
   .op (some 15) none (.load true 2 (.t 14)),
   .op (some 16) none (.call .f (.t 11) [.t 15])])
   (.cut
   (.cond (.t 16)
   (.seq
   (.ops [
   .op (some 17) none (.mov (.t 5)),
   .op (some 4) none (.mov (.t 17))])
   .ret)
   .skip))))))
   (.cut
   (.ops [
   .op (some 18) none (.bin .add false [] (.t 8) (.c (.int .i64 (1)))),
   .op (some 8) none (.mov (.t 18))])))))))))))
   (.cut
   (.seq
   (.ops [
   .op (some 4) none (.mov (.c (.int .i64 (-1))))])
   .ret)))))
def r_slices_IndexFunc_Type : List RVar := [.tmp 4]
def n_slices_IndexFunc_Type : Nat := 19
theorem k_slices_IndexFunc_Type : chkFn Go.Proofs.Try.prog 59 n_slices_IndexFunc_Type r_slices_IndexFunc_Type c_slices_IndexFunc_Type = true := by kernel_rfl
theorem f_IndexFunc_Type (l : List Typ) (p : Typ → Bool) (fid : Nat) (caps : List V) (hl : l.length ≤ 140737488355328) (he : ∀ σ n, caps.map (er σ (n + 1)) = caps) (hc : closedL [] caps = true) (hp : ∀ t ∈ l, Fc Go.Proofs.Try.prog fid (tyV t :: caps) (.bool (p t))) :
    Fc Go.Proofs.Try.prog 59 [.sl .p (l.map tyV), .fn fid caps] (.int .i64 (fidx p l)) := by
  refine Fn.step mixed k_slices_IndexFunc_Type ?_
  repeat (first | refine i_s rfl ?_ | refine c_seq ?_ | refine c_cut0 ?_ | refine c_ops ?_ | refine i_nil ?_ | refine e_seq ?_ | refine e_block ?_ | refine c_block ?_ | refine c_skip ?_ | refine c_ret ?_ | refine c_exit ?_ | refine e_exit rfl ?_ | refine i_s0 rfl ?_ | refine c_leaf ?_ | refine i_gt rfl ?_ | refine i_gf rfl ?_ | refine i_gd rfl ?_ | refine c_t rfl ?_ | refine c_f rfl ?_ | refine i_conv rfl (by simp only [InR, List.length_map]; omega) ?_ | refine i_add rfl rfl (by simp only [InR, List.length_map]; omega) ?_ | refine i_sub rfl rfl (by simp only [InR, List.length_map]; omega) ?_ | refine i_ixm rfl rfl (by assumption) ?_ | refine i_iam rfl rfl (by assumption) rfl ?_ | refine i_tk rfl rfl (by omega) ?_ | refine i_stb rfl ?_ | refine i_alloc rfl ?_ | refine i_box rfl rfl ?_ | refine i_nv rfl ?_)
  refine c_for l.length (fun k => [(0, .sl .p (l.map tyV)), (1, .fn fid caps), (7, .int .i64 (l.map tyV).length), (8, .int .i64 k)]) (fun _ => []) (fun k => ∀ j, j < k → ∀ c, l[j]? = some c → p c = false) all_zero ?_ fun k hk hi => ?_
  · exact ⟨⟨rfl, rfl, rfl, rfl, trivial⟩, trivial, by simp [fitB, closedE, closedB, hc, closedSt, hasAll]⟩
  repeat (first | refine i_s rfl ?_ | refine c_seq ?_ | refine c_cut0 ?_ | refine c_ops ?_ | refine i_nil ?_ | refine e_seq ?_ | refine e_block ?_ | refine c_block ?_ | refine c_skip ?_ | refine c_ret ?_ | refine c_exit ?_ | refine e_exit rfl ?_ | refine i_s0 rfl ?_ | refine c_leaf ?_ | refine i_gt rfl ?_ | refine i_gf rfl ?_ | refine i_gd rfl ?_ | refine c_t rfl ?_ | refine c_f rfl ?_ | refine i_conv rfl (by simp only [InR, List.length_map]; omega) ?_ | refine i_add rfl rfl (by simp only [InR, List.length_map]; omega) ?_ | refine i_sub rfl rfl (by simp only [InR, List.length_map]; omega) ?_ | refine i_ixm rfl rfl (by assumption) ?_ | refine i_iam rfl rfl (by assumption) rfl ?_ | refine i_tk rfl rfl (by omega) ?_ | refine i_stb rfl ?_ | refine i_alloc rfl ?_ | refine i_box rfl rfl ?_ | refine i_nv rfl ?_)
  refine c_cond rfl (fun h => ?_) (fun h => ?_)
  · have hlt : k < l.length := by simpa using h
    obtain ⟨c, hget⟩ := get_some hlt
    repeat (first | refine i_s rfl ?_ | refine c_seq ?_ | refine c_cut0 ?_ | refine c_ops ?_ | refine i_nil ?_ | refine e_seq ?_ | refine e_block ?_ | refine c_block ?_ | refine c_skip ?_ | refine c_ret ?_ | refine c_exit ?_ | refine e_exit rfl ?_ | refine i_s0 rfl ?_ | refine c_leaf ?_ | refine i_gt rfl ?_ | refine i_gf rfl ?_ | refine i_gd rfl ?_ | refine c_t rfl ?_ | refine c_f rfl ?_ | refine i_conv rfl (by simp only [InR, List.length_map]; omega) ?_ | refine i_add rfl rfl (by simp only [InR, List.length_map]; omega) ?_ | refine i_sub rfl rfl (by simp only [InR, List.length_map]; omega) ?_ | refine i_ixm rfl rfl (by assumption) ?_ | refine i_iam rfl rfl (by assumption) rfl ?_ | refine i_tk rfl rfl (by omega) ?_ | refine i_stb rfl ?_ | refine i_alloc rfl ?_ | refine i_box rfl rfl ?_ | refine i_nv rfl ?_)
    refine i_f rfl (congrArg (tyV c :: ·) (he _ 5)) (hp c (mem_get hget)) rfl ?_
    repeat' (first | refine i_s rfl ?_ | refine c_seq ?_ | refine c_cut0 ?_ | refine c_ops ?_ | refine i_nil ?_ | refine e_seq ?_ | refine e_block ?_ | refine c_block ?_ | refine c_skip ?_ | refine c_ret ?_ | refine c_exit ?_ | refine e_exit rfl ?_ | refine i_s0 rfl ?_ | refine c_leaf ?_ | refine i_gt rfl ?_ | refine i_gf rfl ?_ | refine i_gd rfl ?_ | refine c_t rfl ?_ | refine c_f rfl ?_ | refine i_conv rfl (by simp only [InR, List.length_map]; omega) ?_ | refine i_add rfl rfl (by simp only [InR, List.length_map]; omega) ?_ | refine i_sub rfl rfl (by simp only [InR, List.length_map]; omega) ?_ | refine i_ixm rfl rfl (by assumption) ?_ | refine i_iam rfl rfl (by assumption) rfl ?_ | refine i_tk rfl rfl (by omega) ?_ | refine i_stb rfl ?_ | refine i_alloc rfl ?_ | refine i_box rfl rfl ?_ | refine i_nv rfl ?_ | refine c_node ?_ ?_ | refine i_g rfl (fun h => ?_) (fun h => ?_) | refine c_cond rfl (fun h => ?_) (fun h => ?_))
    · refine e_ret ⟨rfl, _, rfl, congrArg (V.int .i64) (fidx_hit hi hget h)⟩
    · refine e_for hlt (all_succ hi fun c' hc' => ?_) ⟨⟨rfl, rfl, rfl, rfl, trivial⟩, trivial, by simp [fitB, closedE, closedB, hc, closedSt, hasAll]⟩
      rw [hget] at hc'; cases hc'; exact h
  · have hge : ¬ k < l.length := by simpa using h
    repeat' (first | refine i_s rfl ?_ | refine c_seq ?_ | refine c_cut0 ?_ | refine c_ops ?_ | refine i_nil ?_ | refine e_seq ?_ | refine e_block ?_ | refine c_block ?_ | refine c_skip ?_ | refine c_ret ?_ | refine c_exit ?_ | refine e_exit rfl ?_ | refine i_s0 rfl ?_ | refine c_leaf ?_ | refine i_gt rfl ?_ | refine i_gf rfl ?_ | refine i_gd rfl ?_ | refine c_t rfl ?_ | refine c_f rfl ?_ | refine i_conv rfl (by simp only [InR, List.length_map]; omega) ?_ | refine i_add rfl rfl (by simp only [InR, List.length_map]; omega) ?_ | refine i_sub rfl rfl (by simp only [InR, List.length_map]; omega) ?_ | refine i_ixm rfl rfl (by assumption) ?_ | refine i_iam rfl rfl (by assumption) rfl ?_ | refine i_tk rfl rfl (by omega) ?_ | refine i_stb rfl ?_ | refine i_alloc rfl ?_ | refine i_box rfl rfl ?_ | refine i_nv rfl ?_ | refine c_node ?_ ?_ | refine i_g rfl (fun h => ?_) (fun h => ?_) | refine c_cond rfl (fun h => ?_) (fun h => ?_))
    refine e_ret ⟨rfl, _, rfl, congrArg (V.int .i64) (fidx_none fun j hj => hi j (by omega))⟩
def c_slices_ContainsFunc_Type : Cmd :=
  (.seq
   (.ops [
   .op (some 4) none (.mov (.c (.bool false)))])
   (.cut
   (.seq
   (.ops [
   .op (some 5) none (.mov (.t 0)),
   .op (some 6) none (.mov (.t 1)),
   .op (some 7) none (.call .f (.c (.fn 59 [])) [.t 5, .t 6]),
   .op (some 8) none (.bin .geq false [] (.t 7) (.c (.int .i64 (0)))),
   .op (some 4) none (.mov (.t 8))])
   .ret)))
def r_slices_ContainsFunc_Type : List RVar := [.tmp 4]
def n_slices_ContainsFunc_Type : Nat := 9
theorem k_slices_ContainsFunc_Type : chkFn Go.Proofs.Try.prog 37 n_slices_ContainsFunc_Type r_slices_ContainsFunc_Type c_slices_ContainsFunc_Type = true := by kernel_rfl
theorem f_ContainsFunc_Type (l : List Typ) (p : Typ → Bool) (fid : Nat) (caps : List V) (hl : l.length ≤ 140737488355328) (he : ∀ σ n, caps.map (er σ (n + 1)) = caps) (hc : closedL [] caps = true) (hp : ∀ t ∈ l, Fc Go.Proofs.Try.prog fid (tyV t :: caps) (.bool (p t))) :
    Fc Go.Proofs.Try.prog 37 [.sl .p (l.map tyV), .fn fid caps] (.bool (l.any p)) := by
  refine Fn.step mixed k_slices_ContainsFunc_Type ?_
  repeat (first | refine i_s rfl ?_ | refine c_seq ?_ | refine c_cut0 ?_ | refine c_ops ?_ | refine i_nil ?_ | refine e_seq ?_ | refine e_block ?_ | refine c_block ?_ | refine c_skip ?_ | refine c_ret ?_ | refine c_exit ?_ | refine e_exit rfl ?_ | refine i_s0 rfl ?_ | refine c_leaf ?_ | refine i_gt rfl ?_ | refine i_gf rfl ?_ | refine i_gd rfl ?_ | refine c_t rfl ?_ | refine c_f rfl ?_ | refine i_conv rfl (by simp only [InR, List.length_map]; omega) ?_ | refine i_add rfl rfl (by simp only [InR, List.length_map]; omega) ?_ | refine i_sub rfl rfl (by simp only [InR, List.length_map]; omega) ?_ | refine i_ixm rfl rfl (by assumption) ?_ | refine i_iam rfl rfl (by assumption) rfl ?_ | refine i_tk rfl rfl (by omega) ?_ | refine i_stb rfl ?_ | refine i_alloc rfl ?_ | refine i_box rfl rfl ?_ | refine i_nv rfl ?_)
  refine i_f rfl (congrArg (fun x => [V.sl .p (l.map tyV), .fn fid x]) (he _ 4)) (f_IndexFunc_Type l p fid caps hl he hc hp) rfl ?_
  repeat' (first | refine i_s rfl ?_ | refine c_seq ?_ | refine c_cut0 ?_ | refine c_ops ?_ | refine i_nil ?_ | refine e_seq ?_ | refine e_block ?_ | refine c_block ?_ | refine c_skip ?_ | refine c_ret ?_ | refine c_exit ?_ | refine e_exit rfl ?_ | refine i_s0 rfl ?_ | refine c_leaf ?_ | refine i_gt rfl ?_ | refine i_gf rfl ?_ | refine i_gd rfl ?_ | refine c_t rfl ?_ | refine c_f rfl ?_ | refine i_conv rfl (by simp only [InR, List.length_map]; omega) ?_ | refine i_add rfl rfl (by simp only [InR, List.length_map]; omega) ?_ | refine i_sub rfl rfl (by simp only [InR, List.length_map]; omega) ?_ | refine i_ixm rfl rfl (by assumption) ?_ | refine i_iam rfl rfl (by assumption) rfl ?_ | refine i_tk rfl rfl (by omega) ?_ | refine i_stb rfl ?_ | refine i_alloc rfl ?_ | refine i_box rfl rfl ?_ | refine i_nv rfl ?_ | refine c_node ?_ ?_ | refine i_g rfl (fun h => ?_) (fun h => ?_) | refine c_cond rfl (fun h => ?_) (fun h => ?_))
  refine e_ret ⟨rfl, _, rfl, congrArg V.bool (fidx_any p l).symm⟩
end Hm
end

section
/- Contracts: faults of types. -/
namespace Hm
open Go
set_option maxRecDepth 100000
set_option linter.unusedSimpArgs false
set_option linter.unusedVariables false
/-- Names that a machine can hold. -/
def TyOk (l : List Typ) : Prop := l.length ≤ 140737488355328 ∧ ∀ t ∈ l, t.name.length ≤ 140737488355328
def c_types_Validate_1 : Cmd :=
  (.seq
   (.ops [
   .op (some 2) none (.box 2432130 2 (.t 0)),
   .op (some 3) none (.mov (.c (.bool false)))])
   (.cut
   (.seq
   (.ops [
   .op (some 4) none (.faddr 0 (.t 2)),
   .op (some 5) none (.load false 1 (.t 4)),
   .op (some 6) none (.faddr 0 (.t 1)),
   .op (some 7) none (.load false 1 (.t 6)),
   .op (some 8) none (.bin .eql false [.s] (.t 5) (.t 7)),
   .op (some 3) none (.mov (.t 8))])
   .ret)))
def r_types_Validate_1 : List RVar := [.tmp 3]
def n_types_Validate_1 : Nat := 9
theorem k_types_Validate_1 : chkFn Go.Proofs.Try.prog 38 n_types_Validate_1 r_types_Validate_1 c_types_Validate_1 = true := by kernel_rfl
theorem f_types_Validate_1 (u t : Typ) : Fc Go.Proofs.Try.prog 38 [tyV u, .cptr .p (tyV t) 0] (.bool (u.name == t.name)) := by
  refine Fn.step mixed k_types_Validate_1 ?_
  repeat' (first | refine i_s rfl ?_ | refine c_seq ?_ | refine c_cut0 ?_ | refine c_ops ?_ | refine i_nil ?_ | refine e_seq ?_ | refine e_block ?_ | refine c_block ?_ | refine c_skip ?_ | refine c_ret ?_ | refine c_exit ?_ | refine e_exit rfl ?_ | refine i_s0 rfl ?_ | refine c_leaf ?_ | refine i_gt rfl ?_ | refine i_gf rfl ?_ | refine i_gd rfl ?_ | refine c_t rfl ?_ | refine c_f rfl ?_ | refine i_conv rfl (by simp only [InR, List.length_map]; omega) ?_ | refine i_add rfl rfl (by simp only [InR, List.length_map]; omega) ?_ | refine i_sub rfl rfl (by simp only [InR, List.length_map]; omega) ?_ | refine i_ixm rfl rfl (by assumption) ?_ | refine i_iam rfl rfl (by assumption) rfl ?_ | refine i_tk rfl rfl (by omega) ?_ | refine i_stb rfl ?_ | refine i_alloc rfl ?_ | refine i_box rfl rfl ?_ | refine i_nv rfl ?_ | refine c_node ?_ ?_ | refine i_g rfl (fun h => ?_) (fun h => ?_) | refine c_cond rfl (fun h => ?_) (fun h => ?_))
  exact e_ret ⟨rfl, _, rfl, rfl⟩
theorem typesFault_big {l : List Typ} (h : 8 < l.length) : typesFault l = ⟨2, -1⟩ := by unfold typesFault; rw [if_pos h]
theorem typesFault_hit {l : List Typ} (h : ¬ 8 < l.length) {k : Nat} {f : Flt} (hi : ∀ j, j < k → tyBad l j = none) (hk : k < l.length) (hf : tyBad l k = some f) : typesFault l = f := by
  unfold typesFault; rw [if_neg h, scan0_hit hi hk hf]; rfl
theorem typesFault_ok {l : List Typ} (h : ¬ 8 < l.length) (hi : ∀ j, j < l.length → tyBad l j = none) : typesFault l = okF := by
  unfold typesFault; rw [if_neg h, scan0_none hi]; rfl
theorem congr_ft {f : Flt} {c i : Int} (h : f = ⟨c, i⟩) : ftV f = .agg [.int .i64 c, .int .i64 i] := by rw [h]; rfl
def c_types_Validate : Cmd :=
  (.seq
   (.ops [
   .op (some 2) none (.alloc 832130 (.agg [.int .i64 (0), .int .i64 (0)]))])
   (.cut
   (.seq
   (.seq
   (.ops [
   .op (some 5) none (.mov (.t 0)),
   .op (some 6) none (.len false (.t 5)),
   .op (some 7) none (.bin .gtr false [] (.t 6) (.c (.int .i64 (8))))])
   (.cut
   (.cond (.t 7)
   (.seq
   (.ops [
   .op (some 8) none (.build [.int .i64 (0), .int .i64 (0)] [(0, 1, .c (.int .i64 (2))), (1, 1, .c (.int .i64 (-1)))]),
   .op none none (.store 2 (.t 2) (.t 8))])
   .ret)
   .skip)))
   (.cut
   (.seq
   (.seq
   (.ops [
   .op (some 9) none (.mov (.t 0)),
   .op (some 10) none (.len false (.t 9)),
   .op (some 11) none (.mov (.c (.int .i64 (0))))])
   (.cut
   (.block 0
   (.loop
   (.seq
   (.ops [
   .op (some 12) none (.bin .lss false [] (.t 11) (.t 10))])
   (.cut
   (.seq
   (.cond (.t 12)
   .skip
   (.exit 0))
   (.cut
   (.seq
   (.block 1
   (.seq
   (.ops [
   .op (some 13) none (.mov (.t 11)),
   .op (some 14) none (.iaddr 2 (.t 9) (.t 11)),
   .op (some 15) none (.load true 2 (.t 14)),
   .op (some 4) none (.alloc 832258 (.agg [.str [], .int .i64 (0)])),
   .op (some 3) none (.mov (.t 13)),
   .op none none (.store 2 (.t 4) (.t 15))])
   (.cut
   (.block 2
   (.seq
   (.ops [
   .op (some 17) none (.faddr 0 (.t 4)),
   .op (some 18) none (.load false 1 (.t 17)),
   .op (some 19) none (.call .f (.c (.fn 36 [])) [.t 18]),
   .op (some 20) none (.not (.t 19)),
   .op (some 21) none (.mov (.t 20)),
   .op (some 22) (some (21, false)) (.faddr 0 (.t 4)),
   .op (some 23) (some (21, false)) (.load false 1 (.t 22)),
   .op (some 24) (some (21, false)) (.bin .eql false [.s] (.t 23) (.c (.str [111, 98, 106, 101, 99, 116]))),
   .op (some 25) none (.pick (.t 21) (.c (.bool true)) (.t 24)),
   .op (some 16) none (.mov (.t 25))])
   (.cut
   (.cond (.t 16)
   (.seq
   (.ops [
   .op (some 26) none (.mov (.t 3)),
   .op (some 27) none (.build [.int .i64 (0), .int .i64 (0)] [(0, 1, .c (.int .i64 (12))), (1, 1, .t 26)]),
   .op none none (.store 2 (.t 2) (.t 27))])
   .ret)
   (.seq
   (.ops [
   .op (some 29) none (.mov (.t 0)),
   .op (some 30) none (.mov (.t 3)),
   .op (some 31) none (.slice false 2 (.t 29) none (some (.t 30))),
   .op (some 32) none (.mkfn 38 [.t 4]),
   .op (some 33) none (.call .f (.c (.fn 37 [])) [.t 31, .t 32]),
   .op (some 28) none (.mov (.t 33))])
   (.cut
   (.cond (.t 28)
   (.seq
   (.ops [
   .op (some 34) none (.mov (.t 3)),
   .op (some 35) none (.build [.int .i64 (0), .int .i64 (0)] [(0, 1, .c (.int .i64 (7))), (1, 1, .t 34)]),
   .op none none (.store 2 (.t 2) (.t 35))])
   .ret)
   (.seq
   (.ops [
   .op (some 37) none (.faddr 1 (.t 4)),
   .op (some 38) none (.load false 1 (.t 37)),
   .op (some 39) none (.bin .lss false [] (.t 38) (.c (.int .i64 (-1)))),
   .op (some 40) none (.mov (.t 39)),
   .op (some 41) (some (40, false)) (.faddr 1 (.t 4)),
   .op (some 42) (some (40, false)) (.load false 1 (.t 41)),
   .op (some 43) (some (40, false)) (.mov (.t 3)),
   .op (some 44) (some (40, false)) (.bin .geq false [] (.t 42) (.t 43)),
   .op (some 45) none (.pick (.t 40) (.c (.bool true)) (.t 44)),
   .op (some 36) none (.mov (.t 45))])
   (.cut
   (.cond (.t 36)
   (.seq
   (.ops [
   .op (some 46) none (.mov (.t 3)),
   .op (some 47) none (.build [.int .i64 (0), .int .i64 (0)] [(0, 1, .c (.int .i64 (3))), (1, 1, .t 46)]),
   .op none none (.store 2 (.t 2) (.t 47))])
   .ret)
   .skip)))))))))))))
   (.cut
   (.ops [
   .op (some 48) none (.bin .add false [] (.t 11) (.c (.int .i64 (1)))),
   .op (some 11) none (.mov (.t 48))])))))))))))
   (.cut
   (.seq
   (.ops [
   .op (some 49) none (.build [.int .i64 (0), .int .i64 (0)] []),
   .op none none (.store 2 (.t 2) (.t 49))])
   .ret)))))))
def r_types_Validate : List RVar := [.cell true 2 2]
def n_types_Validate : Nat := 50
theorem k_types_Validate : chkFn Go.Proofs.Try.prog 13 n_types_Validate r_types_Validate c_types_Validate = true := by kernel_rfl
theorem f_types_Validate (l : List Typ) (ho : TyOk l) : Fc Go.Proofs.Try.prog 13 [.sl .p (l.map tyV)] (ftV (typesFault l)) := by
  obtain ⟨hl, hn⟩ := ho
  refine Fn.step mixed k_types_Validate ?_
  repeat' (first | refine i_s rfl ?_ | refine c_seq ?_ | refine c_cut0 ?_ | refine c_ops ?_ | refine i_nil ?_ | refine e_seq ?_ | refine e_block ?_ | refine c_block ?_ | refine c_skip ?_ | refine c_ret ?_ | refine c_exit ?_ | refine e_exit rfl ?_ | refine i_s0 rfl ?_ | refine c_leaf ?_ | refine i_gt rfl ?_ | refine i_gf rfl ?_ | refine i_gd rfl ?_ | refine c_t rfl ?_ | refine c_f rfl ?_ | refine i_conv rfl (by simp only [InR, List.length_map]; omega) ?_ | refine i_add rfl rfl (by simp only [InR, List.length_map]; omega) ?_ | refine i_sub rfl rfl (by simp only [InR, List.length_map]; omega) ?_ | refine i_ixm rfl rfl (by assumption) ?_ | refine i_iam rfl rfl (by assumption) rfl ?_ | refine i_tk rfl rfl (by omega) ?_ | refine i_stb rfl ?_ | refine i_alloc rfl ?_ | refine i_box rfl rfl ?_ | refine i_nv rfl ?_ | refine c_node ?_ ?_ | refine i_g rfl (fun h => ?_) (fun h => ?_) | refine c_cond rfl (fun h => ?_) (fun h => ?_))
  · exact e_ret ⟨rfl, _, rfl, congr_ft (typesFault_big (by have := of_decide_eq_true h; simp at this; omega))⟩
  have h8 : ¬ 8 < l.length := by have := of_decide_eq_false h; simp at this; omega
  clear h
  refine c_for l.length (fun k => [(0, .sl .p (l.map tyV)), (2, .bptr 832130 0), (9, .sl .p (l.map tyV)), (10, .int .i64 (l.map tyV).length), (11, .int .i64 k)]) (fun _ => [(832130, .box (ftV okF))]) (fun k => ∀ j, j < k → tyBad l j = none) all_zero ⟨by repeat (first | exact trivial | refine ⟨rfl, ?_⟩), by repeat (first | exact trivial | refine ⟨rfl, ?_⟩), rfl⟩ fun k hk hi => ?_
  repeat (first | refine i_s rfl ?_ | refine c_seq ?_ | refine c_cut0 ?_ | refine c_ops ?_ | refine i_nil ?_ | refine e_seq ?_ | refine e_block ?_ | refine c_block ?_ | refine c_skip ?_ | refine c_ret ?_ | refine c_exit ?_ | refine e_exit rfl ?_ | refine i_s0 rfl ?_ | refine c_leaf ?_ | refine i_gt rfl ?_ | refine i_gf rfl ?_ | refine i_gd rfl ?_ | refine c_t rfl ?_ | refine c_f rfl ?_ | refine i_conv rfl (by simp only [InR, List.length_map]; omega) ?_ | refine i_add rfl rfl (by simp only [InR, List.length_map]; omega) ?_ | refine i_sub rfl rfl (by simp only [InR, List.length_map]; omega) ?_ | refine i_ixm rfl rfl (by assumption) ?_ | refine i_iam rfl rfl (by assumption) rfl ?_ | refine i_tk rfl rfl (by omega) ?_ | refine i_stb rfl ?_ | refine i_alloc rfl ?_ | refine i_box rfl rfl ?_ | refine i_nv rfl ?_)
  refine c_cond rfl (fun h => ?_) (fun h => ?_)
  · have hlt : k < l.length := by simpa using h
    obtain ⟨t, ht⟩ := get_some hlt
    have hnt := hn t (mem_get ht)
    have hbad : tyBad l k = if nameB t.name = false ∨ t.name = objectS then some ⟨12, k⟩ else if (l.take k).any (fun u => u.name == t.name) = true then some ⟨7, k⟩
      else if t.parent < -1 ∨ t.parent ≥ k then some ⟨3, k⟩ else none := by simp [tyBad, ht]
    clear h
    have hC := f_ContainsFunc_Type (l.take k) (fun u => u.name == t.name) 38 [.cptr .p (tyV t) 0] (by simp; omega) (fun _ _ => rfl) rfl (fun u _ => f_types_Validate_1 u t)
    repeat' (first | refine i_s rfl ?_ | refine c_seq ?_ | refine c_cut0 ?_ | refine c_ops ?_ | refine i_nil ?_ | refine e_seq ?_ | refine e_block ?_ | refine c_block ?_ | refine c_skip ?_ | refine c_ret ?_ | refine c_exit ?_ | refine e_exit rfl ?_ | refine i_s0 rfl ?_ | refine c_leaf ?_ | refine i_gt rfl ?_ | refine i_gf rfl ?_ | refine i_gd rfl ?_ | refine c_t rfl ?_ | refine c_f rfl ?_ | refine i_conv rfl (by simp only [InR, List.length_map]; omega) ?_ | refine i_add rfl rfl (by simp only [InR, List.length_map]; omega) ?_ | refine i_sub rfl rfl (by simp only [InR, List.length_map]; omega) ?_ | refine i_ixm rfl rfl (by assumption) ?_ | refine i_iam rfl rfl (by assumption) rfl ?_ | refine i_tk rfl rfl (by omega) ?_ | refine i_stb rfl ?_ | refine i_alloc rfl ?_ | refine i_box rfl rfl ?_ | refine i_nv rfl ?_ | refine c_node ?_ ?_ | refine i_g rfl (fun h => ?_) (fun h => ?_) | refine c_cond rfl (fun h => ?_) (fun h => ?_) | refine i_f rfl rfl (f_types_IsName _ hnt) rfl ?_ | refine i_f rfl rfl (hC) rfl ?_)
    all_goals clear hC hn ht hk
    all_goals first
      | refine e_ret ⟨rfl, _, rfl, congr_ft (typesFault_hit h8 hi hlt ?_)⟩; clear hi
      | refine e_for hlt (all_succ hi ?_) ⟨by repeat (first | exact trivial | refine ⟨rfl, ?_⟩), by repeat (first | exact trivial | refine ⟨rfl, ?_⟩), rfl⟩; clear hi
    all_goals rw [hbad]; clear hbad
    all_goals generalize (l.take k).any _ = bb at *
    all_goals grind [objectS]
  · have hge : ¬ k < l.length := by simpa using h
    repeat' (first | refine i_s rfl ?_ | refine c_seq ?_ | refine c_cut0 ?_ | refine c_ops ?_ | refine i_nil ?_ | refine e_seq ?_ | refine e_block ?_ | refine c_block ?_ | refine c_skip ?_ | refine c_ret ?_ | refine c_exit ?_ | refine e_exit rfl ?_ | refine i_s0 rfl ?_ | refine c_leaf ?_ | refine i_gt rfl ?_ | refine i_gf rfl ?_ | refine i_gd rfl ?_ | refine c_t rfl ?_ | refine c_f rfl ?_ | refine i_conv rfl (by simp only [InR, List.length_map]; omega) ?_ | refine i_add rfl rfl (by simp only [InR, List.length_map]; omega) ?_ | refine i_sub rfl rfl (by simp only [InR, List.length_map]; omega) ?_ | refine i_ixm rfl rfl (by assumption) ?_ | refine i_iam rfl rfl (by assumption) rfl ?_ | refine i_tk rfl rfl (by omega) ?_ | refine i_stb rfl ?_ | refine i_alloc rfl ?_ | refine i_box rfl rfl ?_ | refine i_nv rfl ?_ | refine c_node ?_ ?_ | refine i_g rfl (fun h => ?_) (fun h => ?_) | refine c_cond rfl (fun h => ?_) (fun h => ?_))
    exact e_ret ⟨rfl, _, rfl, congr_ft (typesFault_ok h8 fun j hj => hi j (by omega))⟩
def c_R1_TypesFault : Cmd :=
  (.seq
   (.ops [
   .op (some 2) none (.alloc 896130 (.agg [.int .i64 (0), .int .i64 (0)]))])
   (.cut
   (.seq
   (.seq
   (.ops [
   .op (some 5) none (.mov (.t 0)),
   .op (some 6) none (.len false (.t 5)),
   .op (some 7) none (.bin .gtr false [] (.t 6) (.c (.int .i64 (8))))])
   (.cut
   (.cond (.t 7)
   (.seq
   (.ops [
   .op (some 8) none (.call .f (.c (.fn 35 [])) [.c (.int .i64 (2)), .c (.int .i64 (-1))]),
   .op none none (.store 2 (.t 2) (.t 8))])
   .ret)
   .skip)))
   (.cut
   (.seq
   (.seq
   (.ops [
   .op (some 3) none (.mov (.c (.int .i64 (0))))])
   (.cut
   (.block 0
   (.loop
   (.seq
   (.seq
   (.ops [
   .op (some 9) none (.mov (.t 3)),
   .op (some 10) none (.mov (.t 0)),
   .op (some 11) none (.len false (.t 10)),
   .op (some 12) none (.bin .lss false [] (.t 9) (.t 11))])
   (.cut
   (.cond (.t 12)
   .skip
   (.exit 0))))
   (.cut
   (.seq
   (.block 1
   (.seq
   (.seq
   (.ops [
   .op (some 15) none (.mov (.t 0)),
   .op (some 16) none (.mov (.t 3)),
   .op (some 17) none (.iaddr 2 (.t 15) (.t 16)),
   .op (some 18) none (.faddr 0 (.t 17)),
   .op (some 19) none (.load false 1 (.t 18)),
   .op (some 20) none (.call .f (.c (.fn 39 [])) [.t 19]),
   .op (some 21) none (.not (.t 20)),
   .op (some 22) none (.mov (.t 21)),
   .op (some 23) (some (22, false)) (.mov (.t 0)),
   .op (some 24) (some (22, false)) (.mov (.t 3)),
   .op (some 25) (some (22, false)) (.iaddr 2 (.t 23) (.t 24)),
   .op (some 26) (some (22, false)) (.faddr 0 (.t 25)),
   .op (some 27) (some (22, false)) (.load false 1 (.t 26)),
   .op (some 28) (some (22, false)) (.bin .eql false [.s] (.t 27) (.c (.str [111, 98, 106, 101, 99, 116]))),
   .op (some 29) none (.pick (.t 22) (.c (.bool true)) (.t 28))])
   (.cut
   (.cond (.t 29)
   (.seq
   (.ops [
   .op (some 30) none (.mov (.t 3)),
   .op (some 31) none (.call .f (.c (.fn 35 [])) [.c (.int .i64 (12)), .t 30]),
   .op none none (.store 2 (.t 2) (.t 31))])
   .ret)
   .skip)))
   (.cut
   (.seq
   (.seq
   (.ops [
   .op (some 4) none (.mov (.c (.int .i64 (0))))])
   (.cut
   (.block 2
   (.loop
   (.seq
   (.seq
   (.ops [
   .op (some 32) none (.mov (.t 4)),
   .op (some 33) none (.mov (.t 3)),
   .op (some 34) none (.bin .lss false [] (.t 32) (.t 33))])
   (.cut
   (.cond (.t 34)
   .skip
   (.exit 2))))
   (.cut
   (.seq
   (.block 3
   (.seq
   (.ops [
   .op (some 37) none (.mov (.t 0)),
   .op (some 38) none (.mov (.t 4)),
   .op (some 39) none (.iaddr 2 (.t 37) (.t 38)),
   .op (some 40) none (.faddr 0 (.t 39)),
   .op (some 41) none (.load false 1 (.t 40)),
   .op (some 42) none (.mov (.t 0)),
   .op (some 43) none (.mov (.t 3)),
   .op (some 44) none (.iaddr 2 (.t 42) (.t 43)),
   .op (some 45) none (.faddr 0 (.t 44)),
   .op (some 46) none (.load false 1 (.t 45)),
   .op (some 47) none (.bin .eql false [.s] (.t 41) (.t 46))])
   (.cut
   (.cond (.t 47)
   (.seq
   (.ops [
   .op (some 48) none (.mov (.t 3)),
   .op (some 49) none (.call .f (.c (.fn 35 [])) [.c (.int .i64 (7)), .t 48]),
   .op none none (.store 2 (.t 2) (.t 49))])
   .ret)
   .skip))))
   (.cut
   (.ops [
   .op (some 35) none (.mov (.t 4)),
   .op (some 36) none (.bin .add false [] (.t 35) (.c (.int .i64 (1)))),
   .op (some 4) none (.mov (.t 36))])))))))))
   (.cut
   (.seq
   (.ops [
   .op (some 50) none (.mov (.t 0)),
   .op (some 51) none (.mov (.t 3)),
   .op (some 52) none (.iaddr 2 (.t 50) (.t 51)),
   .op (some 53) none (.faddr 1 (.t 52)),
   .op (some 54) none (.load false 1 (.t 53)),
   .op (some 55) none (.mov (.t 3)),
   .op (some 56) none (.bin .sub false [] (.t 55) (.c (.int .i64 (1)))),
   .op (some 57) none (.call .f (.c (.fn 40 [])) [.t 54, .c (.int .i64 (-1)), .t 56]),
   .op (some 58) none (.not (.t 57))])
   (.cut
   (.cond (.t 58)
   (.seq
   (.ops [
   .op (some 59) none (.mov (.t 3)),
   .op (some 60) none (.call .f (.c (.fn 35 [])) [.c (.int .i64 (3)), .t 59]),
   .op none none (.store 2 (.t 2) (.t 60))])
   .ret)
   .skip))))))))
   (.cut
   (.ops [
   .op (some 13) none (.mov (.t 3)),
   .op (some 14) none (.bin .add false [] (.t 13) (.c (.int .i64 (1)))),
   .op (some 3) none (.mov (.t 14))])))))))))
   (.cut
   (.seq
   (.ops [
   .op (some 61) none (.build [.int .i64 (0), .int .i64 (0)] []),
   .op none none (.store 2 (.t 2) (.t 61))])
   .ret)))))))
def r_R1_TypesFault : List RVar := [.cell true 2 2]
def n_R1_TypesFault : Nat := 62
theorem k_R1_TypesFault : chkFn Go.Proofs.Try.prog 14 n_R1_TypesFault r_R1_TypesFault c_R1_TypesFault = true := by kernel_rfl
theorem f_R1_TypesFault (l : List Typ) (ho : TyOk l) : Fc Go.Proofs.Try.prog 14 [.sl .p (l.map tyV)] (ftV (typesFault l)) := by
  obtain ⟨hl, hn⟩ := ho
  refine Fn.step mixed k_R1_TypesFault ?_
  repeat' (first | refine i_s rfl ?_ | refine c_seq ?_ | refine c_cut0 ?_ | refine c_ops ?_ | refine i_nil ?_ | refine e_seq ?_ | refine e_block ?_ | refine c_block ?_ | refine c_skip ?_ | refine c_ret ?_ | refine c_exit ?_ | refine e_exit rfl ?_ | refine i_s0 rfl ?_ | refine c_leaf ?_ | refine i_gt rfl ?_ | refine i_gf rfl ?_ | refine i_gd rfl ?_ | refine c_t rfl ?_ | refine c_f rfl ?_ | refine i_conv rfl (by simp only [InR, List.length_map]; omega) ?_ | refine i_add rfl rfl (by simp only [InR, List.length_map]; omega) ?_ | refine i_sub rfl rfl (by simp only [InR, List.length_map]; omega) ?_ | refine i_ixm rfl rfl (by assumption) ?_ | refine i_iam rfl rfl (by assumption) rfl ?_ | refine i_tk rfl rfl (by omega) ?_ | refine i_stb rfl ?_ | refine i_alloc rfl ?_ | refine i_box rfl rfl ?_ | refine i_nv rfl ?_ | refine c_node ?_ ?_ | refine i_g rfl (fun h => ?_) (fun h => ?_) | refine c_cond rfl (fun h => ?_) (fun h => ?_) | refine i_f rfl rfl (f_R1_At _ _) rfl ?_)
  · exact e_ret ⟨rfl, _, rfl, congr_ft (typesFault_big (by have := of_decide_eq_true h; simp at this; omega))⟩
  have h8 : ¬ 8 < l.length := by have := of_decide_eq_false h; simp at this; omega
  clear h
  refine c_for l.length (fun k => [(0, .sl .p (l.map tyV)), (2, .bptr 896130 0), (3, .int .i64 k)]) (fun _ => [(896130, .box (ftV okF))]) (fun k => ∀ j, j < k → tyBad l j = none) all_zero ⟨by repeat (first | exact trivial | refine ⟨rfl, ?_⟩), by repeat (first | exact trivial | refine ⟨rfl, ?_⟩), rfl⟩ fun k hk hi => ?_
  repeat (first | refine i_s rfl ?_ | refine c_seq ?_ | refine c_cut0 ?_ | refine c_ops ?_ | refine i_nil ?_ | refine e_seq ?_ | refine e_block ?_ | refine c_block ?_ | refine c_skip ?_ | refine c_ret ?_ | refine c_exit ?_ | refine e_exit rfl ?_ | refine i_s0 rfl ?_ | refine c_leaf ?_ | refine i_gt rfl ?_ | refine i_gf rfl ?_ | refine i_gd rfl ?_ | refine c_t rfl ?_ | refine c_f rfl ?_ | refine i_conv rfl (by simp only [InR, List.length_map]; omega) ?_ | refine i_add rfl rfl (by simp only [InR, List.length_map]; omega) ?_ | refine i_sub rfl rfl (by simp only [InR, List.length_map]; omega) ?_ | refine i_ixm rfl rfl (by assumption) ?_ | refine i_iam rfl rfl (by assumption) rfl ?_ | refine i_tk rfl rfl (by omega) ?_ | refine i_stb rfl ?_ | refine i_alloc rfl ?_ | refine i_box rfl rfl ?_ | refine i_nv rfl ?_)
  refine c_cond rfl (fun h => ?_) (fun h => ?_)
  · have hlt : k < l.length := by simpa using h
    obtain ⟨t, ht⟩ := get_some hlt
    have hnt := hn t (mem_get ht)
    have hbad : tyBad l k = if nameB t.name = false ∨ t.name = objectS then some ⟨12, k⟩ else if (l.take k).any (fun u => u.name == t.name) = true then some ⟨7, k⟩
      else if t.parent < -1 ∨ t.parent ≥ k then some ⟨3, k⟩ else none := by simp [tyBad, ht]
    clear h
    repeat' (first | refine i_s rfl ?_ | refine c_seq ?_ | refine c_cut0 ?_ | refine c_ops ?_ | refine i_nil ?_ | refine e_seq ?_ | refine e_block ?_ | refine c_block ?_ | refine c_skip ?_ | refine c_ret ?_ | refine c_exit ?_ | refine e_exit rfl ?_ | refine i_s0 rfl ?_ | refine c_leaf ?_ | refine i_gt rfl ?_ | refine i_gf rfl ?_ | refine i_gd rfl ?_ | refine c_t rfl ?_ | refine c_f rfl ?_ | refine i_conv rfl (by simp only [InR, List.length_map]; omega) ?_ | refine i_add rfl rfl (by simp only [InR, List.length_map]; omega) ?_ | refine i_sub rfl rfl (by simp only [InR, List.length_map]; omega) ?_ | refine i_ixm rfl rfl (by assumption) ?_ | refine i_iam rfl rfl (by assumption) rfl ?_ | refine i_tk rfl rfl (by omega) ?_ | refine i_stb rfl ?_ | refine i_alloc rfl ?_ | refine i_box rfl rfl ?_ | refine i_nv rfl ?_ | refine c_node ?_ ?_ | refine i_g rfl (fun h => ?_) (fun h => ?_) | refine c_cond rfl (fun h => ?_) (fun h => ?_) | refine i_f rfl rfl (f_R1_Name _ hnt) rfl ?_ | refine i_f rfl rfl (f_R1_At _ _) rfl ?_)
    · refine e_ret ⟨rfl, _, rfl, congr_ft (typesFault_hit h8 hi hlt ?_)⟩
      rw [hbad]; clear hbad; grind [objectS]
    · refine c_for k (fun j => [(0, .sl .p (l.map tyV)), (2, .bptr 896130 0), (3, .int .i64 k), (4, .int .i64 j)]) (fun _ => [(896130, .box (ftV okF))]) (fun j => ∀ i, i < j → ∀ u, l[i]? = some u → (u.name == t.name) = false) all_zero ⟨by repeat (first | exact trivial | refine ⟨rfl, ?_⟩), by repeat (first | exact trivial | refine ⟨rfl, ?_⟩), rfl⟩ fun j hj hij => ?_
      repeat (first | refine i_s rfl ?_ | refine c_seq ?_ | refine c_cut0 ?_ | refine c_ops ?_ | refine i_nil ?_ | refine e_seq ?_ | refine e_block ?_ | refine c_block ?_ | refine c_skip ?_ | refine c_ret ?_ | refine c_exit ?_ | refine e_exit rfl ?_ | refine i_s0 rfl ?_ | refine c_leaf ?_ | refine i_gt rfl ?_ | refine i_gf rfl ?_ | refine i_gd rfl ?_ | refine c_t rfl ?_ | refine c_f rfl ?_ | refine i_conv rfl (by simp only [InR, List.length_map]; omega) ?_ | refine i_add rfl rfl (by simp only [InR, List.length_map]; omega) ?_ | refine i_sub rfl rfl (by simp only [InR, List.length_map]; omega) ?_ | refine i_ixm rfl rfl (by assumption) ?_ | refine i_iam rfl rfl (by assumption) rfl ?_ | refine i_tk rfl rfl (by omega) ?_ | refine i_stb rfl ?_ | refine i_alloc rfl ?_ | refine i_box rfl rfl ?_ | refine i_nv rfl ?_)
      refine c_cond rfl (fun h2 => ?_) (fun h2 => ?_)
      · have hjk : j < k := by simpa using h2
        obtain ⟨u, hu⟩ := get_some (Nat.lt_trans hjk hlt)
        repeat' (first | refine i_s rfl ?_ | refine c_seq ?_ | refine c_cut0 ?_ | refine c_ops ?_ | refine i_nil ?_ | refine e_seq ?_ | refine e_block ?_ | refine c_block ?_ | refine c_skip ?_ | refine c_ret ?_ | refine c_exit ?_ | refine e_exit rfl ?_ | refine i_s0 rfl ?_ | refine c_leaf ?_ | refine i_gt rfl ?_ | refine i_gf rfl ?_ | refine i_gd rfl ?_ | refine c_t rfl ?_ | refine c_f rfl ?_ | refine i_conv rfl (by simp only [InR, List.length_map]; omega) ?_ | refine i_add rfl rfl (by simp only [InR, List.length_map]; omega) ?_ | refine i_sub rfl rfl (by simp only [InR, List.length_map]; omega) ?_ | refine i_ixm rfl rfl (by assumption) ?_ | refine i_iam rfl rfl (by assumption) rfl ?_ | refine i_tk rfl rfl (by omega) ?_ | refine i_stb rfl ?_ | refine i_alloc rfl ?_ | refine i_box rfl rfl ?_ | refine i_nv rfl ?_ | refine c_node ?_ ?_ | refine i_g rfl (fun h => ?_) (fun h => ?_) | refine c_cond rfl (fun h => ?_) (fun h => ?_) | refine i_f rfl rfl (f_R1_At _ _) rfl ?_)
        · refine e_ret ⟨rfl, _, rfl, congr_ft (typesFault_hit h8 hi hlt ?_)⟩
          have := any_take_hit (p := fun u => u.name == t.name) hjk hu h
          rw [hbad]; clear hbad; grind [objectS]
        · exact e_for hjk (all_succ hij fun v hv => by rw [hu] at hv; cases hv; exact h) ⟨by repeat (first | exact trivial | refine ⟨rfl, ?_⟩), by repeat (first | exact trivial | refine ⟨rfl, ?_⟩), rfl⟩
      · have hge : ¬ j < k := by simpa using h2
        have hany : (l.take k).any (fun u => u.name == t.name) = false := any_take_none fun i hik => hij i (by omega)
        clear h2 hij
        repeat' (first | refine i_s rfl ?_ | refine c_seq ?_ | refine c_cut0 ?_ | refine c_ops ?_ | refine i_nil ?_ | refine e_seq ?_ | refine e_block ?_ | refine c_block ?_ | refine c_skip ?_ | refine c_ret ?_ | refine c_exit ?_ | refine e_exit rfl ?_ | refine i_s0 rfl ?_ | refine c_leaf ?_ | refine i_gt rfl ?_ | refine i_gf rfl ?_ | refine i_gd rfl ?_ | refine c_t rfl ?_ | refine c_f rfl ?_ | refine i_conv rfl (by simp only [InR, List.length_map]; omega) ?_ | refine i_add rfl rfl (by simp only [InR, List.length_map]; omega) ?_ | refine i_sub rfl rfl (by simp only [InR, List.length_map]; omega) ?_ | refine i_ixm rfl rfl (by assumption) ?_ | refine i_iam rfl rfl (by assumption) rfl ?_ | refine i_tk rfl rfl (by omega) ?_ | refine i_stb rfl ?_ | refine i_alloc rfl ?_ | refine i_box rfl rfl ?_ | refine i_nv rfl ?_ | refine c_node ?_ ?_ | refine i_g rfl (fun h => ?_) (fun h => ?_) | refine c_cond rfl (fun h => ?_) (fun h => ?_) | refine i_f rfl rfl (f_R1_In _ _ _) rfl ?_ | refine i_f rfl rfl (f_R1_At _ _) rfl ?_)
        · refine e_ret ⟨rfl, _, rfl, congr_ft (typesFault_hit h8 hi hlt ?_)⟩
          rw [hbad]; clear hbad; grind [objectS]
        · refine e_for hlt (all_succ hi ?_) ⟨by repeat (first | exact trivial | refine ⟨rfl, ?_⟩), by repeat (first | exact trivial | refine ⟨rfl, ?_⟩), rfl⟩
          rw [hbad]; clear hbad; grind [objectS]
    · refine e_ret ⟨rfl, _, rfl, congr_ft (typesFault_hit h8 hi hlt ?_)⟩
      rw [hbad]; clear hbad; grind [objectS]
  · have hge : ¬ k < l.length := by simpa using h
    repeat' (first | refine i_s rfl ?_ | refine c_seq ?_ | refine c_cut0 ?_ | refine c_ops ?_ | refine i_nil ?_ | refine e_seq ?_ | refine e_block ?_ | refine c_block ?_ | refine c_skip ?_ | refine c_ret ?_ | refine c_exit ?_ | refine e_exit rfl ?_ | refine i_s0 rfl ?_ | refine c_leaf ?_ | refine i_gt rfl ?_ | refine i_gf rfl ?_ | refine i_gd rfl ?_ | refine c_t rfl ?_ | refine c_f rfl ?_ | refine i_conv rfl (by simp only [InR, List.length_map]; omega) ?_ | refine i_add rfl rfl (by simp only [InR, List.length_map]; omega) ?_ | refine i_sub rfl rfl (by simp only [InR, List.length_map]; omega) ?_ | refine i_ixm rfl rfl (by assumption) ?_ | refine i_iam rfl rfl (by assumption) rfl ?_ | refine i_tk rfl rfl (by omega) ?_ | refine i_stb rfl ?_ | refine i_alloc rfl ?_ | refine i_box rfl rfl ?_ | refine i_nv rfl ?_ | refine c_node ?_ ?_ | refine i_g rfl (fun h => ?_) (fun h => ?_) | refine c_cond rfl (fun h => ?_) (fun h => ?_))
    exact e_ret ⟨rfl, _, rfl, congr_ft (typesFault_ok h8 fun j hj => hi j (by omega))⟩
end Hm
end

section
/- Contracts: faults of uses and of objects. -/
namespace Hm
open Go
set_option maxRecDepth 100000
set_option linter.unusedSimpArgs false
set_option linter.unusedVariables false
def c_slices_IndexFunc_Object : Cmd :=
  (.seq
   (.ops [
   .op (some 4) none (.mov (.c (.int .i64 (0))))])
   (.cut
   (.seq
   (.seq
   (.ops [
   .op (some 6) none (.mov (.t 0)),
   .op (some 7) none (.len false (.t 6)),
   .op (some 8) none (.mov (.c (.int .i64 (0))))])
   (.cut
   (.block 0
   (.loop
   (.seq
   (.ops [
   .op (some 9) none (.bin .lss false [] (.t 8) (.t 7))])
   (.cut
   (.seq
   (.cond (.t 9)
   .skip
   (.exit 0))
   (.cut
   (.seq
   (.block 1
   (.seq
   (.ops [
   .op (some 10) none (.mov (.t 8)),
   .op (some 5) none (.mov (.t 10))])
   (.cut
   (.seq
   (.ops [
   .op (some 11) none (.mov (.t 1)),
   .op (some 12) none (.mov (.t 0)),
   .op (some 13) none (.mov (.t 5)),
   .op (some 14) none (.iaddr 2 (.t 12) (.t 13)),
   .op (some 15) none (.load true 2 (.t 14)),
   .op (some 16) none (.call .f (.t 11) [.t 15])])
   (.cut
   (.cond (.t 16)
   (.seq
   (.ops [
   .op (some 17) none (.mov (.t 5)),
   .op (some 4) none (.mov (.t 17))])
   .ret)
   .skip))))))
   (.cut
   (.ops [
   .op (some 18) none (.bin .add false [] (.t 8) (.c (.int .i64 (1)))),
   .op (some 8) none (.mov (.t 18))])))))))))))
   (.cut
   (.seq
   (.ops [
   .op (some 4) none (.mov (.c (.int .i64 (-1))))])
   .ret)))))
def r_slices_IndexFunc_Object : List RVar := [.tmp 4]
def n_slices_IndexFunc_Object : Nat := 19
-- internal/abi.NoEscape: no body
theorem k_slices_IndexFunc_Object : chkFn Go.Proofs.Try.prog 68 n_slices_IndexFunc_Object r_slices_IndexFunc_Object c_slices_IndexFunc_Object = true := by kernel_rfl
theorem f_IndexFunc_Object (l : List Obj) (p : Obj → Bool) (fid : Nat) (caps : List V) (hl : l.length ≤ 140737488355328) (he : ∀ σ n, caps.map (er σ (n + 1)) = caps) (hc : closedL [] caps = true) (hp : ∀ t ∈ l, Fc Go.Proofs.Try.prog fid (obV t :: caps) (.bool (p t))) :
    Fc Go.Proofs.Try.prog 68 [.sl .p (l.map obV), .fn fid caps] (.int .i64 (fidx p l)) := by
  refine Fn.step mixed k_slices_IndexFunc_Object ?_
  repeat (first | refine i_s rfl ?_ | refine c_seq ?_ | refine c_cut0 ?_ | refine c_ops ?_ | refine i_nil ?_ | refine e_seq ?_ | refine e_block ?_ | refine c_block ?_ | refine c_skip ?_ | refine c_ret ?_ | refine c_exit ?_ | refine e_exit rfl ?_ | refine i_s0 rfl ?_ | refine c_leaf ?_ | refine i_gt rfl ?_ | refine i_gf rfl ?_ | refine i_gd rfl ?_ | refine c_t rfl ?_ | refine c_f rfl ?_ | refine i_conv rfl (by simp only [InR, List.length_map]; omega) ?_ | refine i_add rfl rfl (by simp only [InR, List.length_map]; omega) ?_ | refine i_sub rfl rfl (by simp only [InR, List.length_map]; omega) ?_ | refine i_ixm rfl rfl (by assumption) ?_ | refine i_iam rfl rfl (by assumption) rfl ?_ | refine i_tk rfl rfl (by omega) ?_ | refine i_stb rfl ?_ | refine i_alloc rfl ?_ | refine i_box rfl rfl ?_ | refine i_nv rfl ?_)
  refine c_for l.length (fun k => [(0, .sl .p (l.map obV)), (1, .fn fid caps), (7, .int .i64 (l.map obV).length), (8, .int .i64 k)]) (fun _ => []) (fun k => ∀ j, j < k → ∀ c, l[j]? = some c → p c = false) all_zero ?_ fun k hk hi => ?_
  · exact ⟨⟨rfl, rfl, rfl, rfl, trivial⟩, trivial, by simp [fitB, closedE, closedB, hc, closedSt, hasAll]⟩
  repeat (first | refine i_s rfl ?_ | refine c_seq ?_ | refine c_cut0 ?_ | refine c_ops ?_ | refine i_nil ?_ | refine e_seq ?_ | refine e_block ?_ | refine c_block ?_ | refine c_skip ?_ | refine c_ret ?_ | refine c_exit ?_ | refine e_exit rfl ?_ | refine i_s0 rfl ?_ | refine c_leaf ?_ | refine i_gt rfl ?_ | refine i_gf rfl ?_ | refine i_gd rfl ?_ | refine c_t rfl ?_ | refine c_f rfl ?_ | refine i_conv rfl (by simp only [InR, List.length_map]; omega) ?_ | refine i_add rfl rfl (by simp only [InR, List.length_map]; omega) ?_ | refine i_sub rfl rfl (by simp only [InR, List.length_map]; omega) ?_ | refine i_ixm rfl rfl (by assumption) ?_ | refine i_iam rfl rfl (by assumption) rfl ?_ | refine i_tk rfl rfl (by omega) ?_ | refine i_stb rfl ?_ | refine i_alloc rfl ?_ | refine i_box rfl rfl ?_ | refine i_nv rfl ?_)
  refine c_cond rfl (fun h => ?_) (fun h => ?_)
  · have hlt : k < l.length := by simpa using h
    obtain ⟨c, hget⟩ := get_some hlt
    repeat (first | refine i_s rfl ?_ | refine c_seq ?_ | refine c_cut0 ?_ | refine c_ops ?_ | refine i_nil ?_ | refine e_seq ?_ | refine e_block ?_ | refine c_block ?_ | refine c_skip ?_ | refine c_ret ?_ | refine c_exit ?_ | refine e_exit rfl ?_ | refine i_s0 rfl ?_ | refine c_leaf ?_ | refine i_gt rfl ?_ | refine i_gf rfl ?_ | refine i_gd rfl ?_ | refine c_t rfl ?_ | refine c_f rfl ?_ | refine i_conv rfl (by simp only [InR, List.length_map]; omega) ?_ | refine i_add rfl rfl (by simp only [InR, List.length_map]; omega) ?_ | refine i_sub rfl rfl (by simp only [InR, List.length_map]; omega) ?_ | refine i_ixm rfl rfl (by assumption) ?_ | refine i_iam rfl rfl (by assumption) rfl ?_ | refine i_tk rfl rfl (by omega) ?_ | refine i_stb rfl ?_ | refine i_alloc rfl ?_ | refine i_box rfl rfl ?_ | refine i_nv rfl ?_)
    refine i_f rfl (congrArg (obV c :: ·) (he _ 5)) (hp c (mem_get hget)) rfl ?_
    repeat' (first | refine i_s rfl ?_ | refine c_seq ?_ | refine c_cut0 ?_ | refine c_ops ?_ | refine i_nil ?_ | refine e_seq ?_ | refine e_block ?_ | refine c_block ?_ | refine c_skip ?_ | refine c_ret ?_ | refine c_exit ?_ | refine e_exit rfl ?_ | refine i_s0 rfl ?_ | refine c_leaf ?_ | refine i_gt rfl ?_ | refine i_gf rfl ?_ | refine i_gd rfl ?_ | refine c_t rfl ?_ | refine c_f rfl ?_ | refine i_conv rfl (by simp only [InR, List.length_map]; omega) ?_ | refine i_add rfl rfl (by simp only [InR, List.length_map]; omega) ?_ | refine i_sub rfl rfl (by simp only [InR, List.length_map]; omega) ?_ | refine i_ixm rfl rfl (by assumption) ?_ | refine i_iam rfl rfl (by assumption) rfl ?_ | refine i_tk rfl rfl (by omega) ?_ | refine i_stb rfl ?_ | refine i_alloc rfl ?_ | refine i_box rfl rfl ?_ | refine i_nv rfl ?_ | refine c_node ?_ ?_ | refine i_g rfl (fun h => ?_) (fun h => ?_) | refine c_cond rfl (fun h => ?_) (fun h => ?_))
    · refine e_ret ⟨rfl, _, rfl, congrArg (V.int .i64) (fidx_hit hi hget h)⟩
    · refine e_for hlt (all_succ hi fun c' hc' => ?_) ⟨⟨rfl, rfl, rfl, rfl, trivial⟩, trivial, by simp [fitB, closedE, closedB, hc, closedSt, hasAll]⟩
      rw [hget] at hc'; cases hc'; exact h
  · have hge : ¬ k < l.length := by simpa using h
    repeat' (first | refine i_s rfl ?_ | refine c_seq ?_ | refine c_cut0 ?_ | refine c_ops ?_ | refine i_nil ?_ | refine e_seq ?_ | refine e_block ?_ | refine c_block ?_ | refine c_skip ?_ | refine c_ret ?_ | refine c_exit ?_ | refine e_exit rfl ?_ | refine i_s0 rfl ?_ | refine c_leaf ?_ | refine i_gt rfl ?_ | refine i_gf rfl ?_ | refine i_gd rfl ?_ | refine c_t rfl ?_ | refine c_f rfl ?_ | refine i_conv rfl (by simp only [InR, List.length_map]; omega) ?_ | refine i_add rfl rfl (by simp only [InR, List.length_map]; omega) ?_ | refine i_sub rfl rfl (by simp only [InR, List.length_map]; omega) ?_ | refine i_ixm rfl rfl (by assumption) ?_ | refine i_iam rfl rfl (by assumption) rfl ?_ | refine i_tk rfl rfl (by omega) ?_ | refine i_stb rfl ?_ | refine i_alloc rfl ?_ | refine i_box rfl rfl ?_ | refine i_nv rfl ?_ | refine c_node ?_ ?_ | refine i_g rfl (fun h => ?_) (fun h => ?_) | refine c_cond rfl (fun h => ?_) (fun h => ?_))
    refine e_ret ⟨rfl, _, rfl, congrArg (V.int .i64) (fidx_none fun j hj => hi j (by omega))⟩
def c_slices_ContainsFunc_Object : Cmd :=
  (.seq
   (.ops [
   .op (some 4) none (.mov (.c (.bool false)))])
   (.cut
   (.seq
   (.ops [
   .op (some 5) none (.mov (.t 0)),
   .op (some 6) none (.mov (.t 1)),
   .op (some 7) none (.call .f (.c (.fn 68 [])) [.t 5, .t 6]),
   .op (some 8) none (.bin .geq false [] (.t 7) (.c (.int .i64 (0)))),
   .op (some 4) none (.mov (.t 8))])
   .ret)))
def r_slices_ContainsFunc_Object : List RVar := [.tmp 4]
def n_slices_ContainsFunc_Object : Nat := 9
theorem k_slices_ContainsFunc_Object : chkFn Go.Proofs.Try.prog 61 n_slices_ContainsFunc_Object r_slices_ContainsFunc_Object c_slices_ContainsFunc_Object = true := by kernel_rfl
theorem f_ContainsFunc_Object (l : List Obj) (p : Obj → Bool) (fid : Nat) (caps : List V) (hl : l.length ≤ 140737488355328) (he : ∀ σ n, caps.map (er σ (n + 1)) = caps) (hc : closedL [] caps = true) (hp : ∀ t ∈ l, Fc Go.Proofs.Try.prog fid (obV t :: caps) (.bool (p t))) :
    Fc Go.Proofs.Try.prog 61 [.sl .p (l.map obV), .fn fid caps] (.bool (l.any p)) := by
  refine Fn.step mixed k_slices_ContainsFunc_Object ?_
  repeat (first | refine i_s rfl ?_ | refine c_seq ?_ | refine c_cut0 ?_ | refine c_ops ?_ | refine i_nil ?_ | refine e_seq ?_ | refine e_block ?_ | refine c_block ?_ | refine c_skip ?_ | refine c_ret ?_ | refine c_exit ?_ | refine e_exit rfl ?_ | refine i_s0 rfl ?_ | refine c_leaf ?_ | refine i_gt rfl ?_ | refine i_gf rfl ?_ | refine i_gd rfl ?_ | refine c_t rfl ?_ | refine c_f rfl ?_ | refine i_conv rfl (by simp only [InR, List.length_map]; omega) ?_ | refine i_add rfl rfl (by simp only [InR, List.length_map]; omega) ?_ | refine i_sub rfl rfl (by simp only [InR, List.length_map]; omega) ?_ | refine i_ixm rfl rfl (by assumption) ?_ | refine i_iam rfl rfl (by assumption) rfl ?_ | refine i_tk rfl rfl (by omega) ?_ | refine i_stb rfl ?_ | refine i_alloc rfl ?_ | refine i_box rfl rfl ?_ | refine i_nv rfl ?_)
  refine i_f rfl (congrArg (fun x => [V.sl .p (l.map obV), .fn fid x]) (he _ 4)) (f_IndexFunc_Object l p fid caps hl he hc hp) rfl ?_
  repeat' (first | refine i_s rfl ?_ | refine c_seq ?_ | refine c_cut0 ?_ | refine c_ops ?_ | refine i_nil ?_ | refine e_seq ?_ | refine e_block ?_ | refine c_block ?_ | refine c_skip ?_ | refine c_ret ?_ | refine c_exit ?_ | refine e_exit rfl ?_ | refine i_s0 rfl ?_ | refine c_leaf ?_ | refine i_gt rfl ?_ | refine i_gf rfl ?_ | refine i_gd rfl ?_ | refine c_t rfl ?_ | refine c_f rfl ?_ | refine i_conv rfl (by simp only [InR, List.length_map]; omega) ?_ | refine i_add rfl rfl (by simp only [InR, List.length_map]; omega) ?_ | refine i_sub rfl rfl (by simp only [InR, List.length_map]; omega) ?_ | refine i_ixm rfl rfl (by assumption) ?_ | refine i_iam rfl rfl (by assumption) rfl ?_ | refine i_tk rfl rfl (by omega) ?_ | refine i_stb rfl ?_ | refine i_alloc rfl ?_ | refine i_box rfl rfl ?_ | refine i_nv rfl ?_ | refine c_node ?_ ?_ | refine i_g rfl (fun h => ?_) (fun h => ?_) | refine c_cond rfl (fun h => ?_) (fun h => ?_))
  refine e_ret ⟨rfl, _, rfl, congrArg V.bool (fidx_any p l).symm⟩


theorem flt_eta (f : Flt) : (⟨f.code, f.index⟩ : Flt) = f := rfl
theorem ft_ok_iff (f : Flt) : (f.code == 0 && (f.index == 0 && true)) = decide (f = okF) := by
  cases f with
  | mk c i =>
    simp only [okF, Flt.mk.injEq, Bool.and_true]
    by_cases h1 : c = 0 <;> by_cases h2 : i = 0 <;> simp [h1, h2]
theorem typesFault_code (l : List Typ) : (typesFault l).code = 0 ↔ typesFault l = okF := by
  refine ⟨fun h => ?_, fun h => by rw [h]; rfl⟩
  unfold typesFault at h ⊢
  split at h
  · cases h
  · rename_i h8
    rw [if_neg h8]
    have := scan_prop (bad := tyBad l) (fun o => ∀ f, o = some f → f.code ≠ 0) (by simp) (fun i => tyBad_code l i) l.length 0
    cases hs : scan (tyBad l) 0 l.length with
    | none => rfl
    | some f => rw [hs] at h; exact absurd h (this f hs)
def c_R1_UsedFault : Cmd :=
  (.seq
   (.ops [
   .op (some 6) none (.alloc 960386 (.agg [.int .i64 (0), .int .i64 (0)]))])
   (.cut
   (.seq
   (.ops [
   .op (some 8) none (.mov (.t 0)),
   .op (some 9) none (.call .f (.c (.fn 14 [])) [.t 8]),
   .op (some 7) none (.alloc 960450 (.agg [.int .i64 (0), .int .i64 (0)])),
   .op none none (.store 2 (.t 7) (.t 9))])
   (.cut
   (.seq
   (.seq
   (.ops [
   .op (some 10) none (.faddr 0 (.t 7)),
   .op (some 11) none (.load false 1 (.t 10)),
   .op (some 12) none (.bin .eql false [.i] (.t 11) (.c (.int .i64 (0)))),
   .op (some 13) none (.mov (.t 12)),
   .op (some 14) (some (13, true)) (.mov (.t 1)),
   .op (some 15) (some (13, true)) (.mov (.t 0)),
   .op (some 16) (some (13, true)) (.len false (.t 15)),
   .op (some 17) (some (13, true)) (.bin .sub false [] (.t 16) (.c (.int .i64 (1)))),
   .op (some 18) (some (13, true)) (.call .f (.c (.fn 40 [])) [.t 14, .c (.int .i64 (-1)), .t 17]),
   .op (some 19) (some (13, true)) (.not (.t 18)),
   .op (some 20) (some (13, true)) (.mov (.t 19)),
   .op (some 21) (some (20, false)) (.mov (.t 2)),
   .op (some 22) (some (20, false)) (.mov (.t 0)),
   .op (some 23) (some (20, false)) (.len false (.t 22)),
   .op (some 24) (some (20, false)) (.bin .sub false [] (.t 23) (.c (.int .i64 (1)))),
   .op (some 25) (some (20, false)) (.call .f (.c (.fn 40 [])) [.t 21, .c (.int .i64 (-1)), .t 24]),
   .op (some 26) (some (20, false)) (.not (.t 25)),
   .op (some 27) (some (13, true)) (.pick (.t 20) (.c (.bool true)) (.t 26)),
   .op (some 28) none (.pick (.t 13) (.t 27) (.c (.bool false)))])
   (.cut
   (.cond (.t 28)
   (.ops [
   .op (some 29) none (.call .f (.c (.fn 35 [])) [.c (.int .i64 (3)), .c (.int .i64 (-2))]),
   .op none none (.store 2 (.t 7) (.t 29))])
   .skip)))
   (.cut
   (.seq
   (.ops [
   .op (some 30) none (.load true 2 (.t 7)),
   .op none none (.store 2 (.t 6) (.t 30))])
   .ret)))))))
def r_R1_UsedFault : List RVar := [.cell true 2 6]
def n_R1_UsedFault : Nat := 31
theorem k_R1_UsedFault : chkFn Go.Proofs.Try.prog 15 n_R1_UsedFault r_R1_UsedFault c_R1_UsedFault = true := by kernel_rfl
theorem f_R1_UsedFault (l : List Typ) (ho : TyOk l) (a b : Int) : Fc Go.Proofs.Try.prog 15 [.sl .p (l.map tyV), .int .i64 a, .int .i64 b] (ftV (usedFault l a b)) := by
  have hl := ho.1
  have hc := typesFault_code l
  refine Fn.step mixed k_R1_UsedFault ?_
  repeat' (first | refine i_s rfl ?_ | refine c_seq ?_ | refine c_cut0 ?_ | refine c_ops ?_ | refine i_nil ?_ | refine e_seq ?_ | refine e_block ?_ | refine c_block ?_ | refine c_skip ?_ | refine c_ret ?_ | refine c_exit ?_ | refine e_exit rfl ?_ | refine i_s0 rfl ?_ | refine c_leaf ?_ | refine i_gt rfl ?_ | refine i_gf rfl ?_ | refine i_gd rfl ?_ | refine c_t rfl ?_ | refine c_f rfl ?_ | refine i_conv rfl (by simp only [InR, List.length_map]; omega) ?_ | refine i_add rfl rfl (by simp only [InR, List.length_map]; omega) ?_ | refine i_sub rfl rfl (by simp only [InR, List.length_map]; omega) ?_ | refine i_ixm rfl rfl (by assumption) ?_ | refine i_iam rfl rfl (by assumption) rfl ?_ | refine i_tk rfl rfl (by omega) ?_ | refine i_stb rfl ?_ | refine i_alloc rfl ?_ | refine i_box rfl rfl ?_ | refine i_nv rfl ?_ | refine c_node ?_ ?_ | refine i_g rfl (fun h => ?_) (fun h => ?_) | refine c_cond rfl (fun h => ?_) (fun h => ?_) | refine i_f rfl rfl (f_R1_TypesFault _ ho) rfl ?_ | refine i_f rfl rfl (f_R1_In _ _ _) rfl ?_ | refine i_f rfl rfl (f_R1_At _ _) rfl ?_)
  all_goals refine e_ret ⟨rfl, _, rfl, ?_⟩
  all_goals show ftV _ = V.agg [V.int .i64 _, V.int .i64 _]
  all_goals refine congr_ft ?_
  all_goals simp only [usedFault, badT]
  all_goals try simp only [List.length_map] at *
  all_goals try simp only [flt_eta]
  all_goals grind
def checkF (l : List Typ) (us : List Int) : Flt := if typesFault l = okF then (if us.any (badT l.length) = true then ⟨3, -2⟩ else okF) else typesFault l
theorem checkF_two (l : List Typ) (a b : Int) : checkF l [a, b] = usedFault l a b := by simp [checkF, usedFault]
theorem ne_ok {f : Flt} (h : (!(f.code == 0 && (f.index == 0 && true))) = true) : f ≠ okF := by
  rw [ft_ok_iff] at h; simpa using h
theorem eq_ok {f : Flt} (h : (!(f.code == 0 && (f.index == 0 && true))) = false) : f = okF := by
  rw [ft_ok_iff] at h; simpa using h
theorem eq_ok' {f : Flt} (h : (f.code == 0 && (f.index == 0 && true)) = true) : f = okF := by
  rw [ft_ok_iff] at h; simpa using h
theorem ne_ok' {f : Flt} (h : (f.code == 0 && (f.index == 0 && true)) = false) : f ≠ okF := by
  rw [ft_ok_iff] at h; simpa using h
def c_types_check : Cmd :=
  (.seq
   (.ops [
   .op (some 4) none (.alloc 2624258 (.agg [.int .i64 (0), .int .i64 (0)]))])
   (.cut
   (.seq
   (.seq
   (.ops [
   .op (some 8) none (.mov (.t 0)),
   .op (some 9) none (.call .f (.c (.fn 13 [])) [.t 8]),
   .op (some 5) none (.alloc 2624322 (.agg [.int .i64 (0), .int .i64 (0)])),
   .op none none (.store 2 (.t 5) (.t 9))])
   (.cut
   (.seq
   (.ops [
   .op (some 10) none (.load true 2 (.t 5)),
   .op (some 11) none (.build [.int .i64 (0), .int .i64 (0)] []),
   .op (some 12) none (.bin .neq true [.i, .i] (.t 10) (.t 11))])
   (.cut
   (.cond (.t 12)
   (.seq
   (.ops [
   .op (some 13) none (.load true 2 (.t 5)),
   .op none none (.store 2 (.t 4) (.t 13))])
   .ret)
   .skip)))))
   (.cut
   (.seq
   (.seq
   (.ops [
   .op (some 14) none (.mov (.t 1)),
   .op (some 15) none (.len false (.t 14)),
   .op (some 16) none (.mov (.c (.int .i64 (0))))])
   (.cut
   (.block 0
   (.loop
   (.seq
   (.ops [
   .op (some 17) none (.bin .lss false [] (.t 16) (.t 15))])
   (.cut
   (.seq
   (.cond (.t 17)
   .skip
   (.exit 0))
   (.cut
   (.seq
   (.block 1
   (.seq
   (.ops [
   .op (some 18) none (.iaddr 1 (.t 14) (.t 16)),
   .op (some 19) none (.load false 1 (.t 18)),
   .op (some 7) none (.mov (.t 19))])
   (.cut
   (.seq
   (.ops [
   .op (some 20) none (.mov (.t 7)),
   .op (some 21) none (.bin .lss false [] (.t 20) (.c (.int .i64 (-1)))),
   .op (some 22) none (.mov (.t 21)),
   .op (some 23) (some (22, false)) (.mov (.t 7)),
   .op (some 24) (some (22, false)) (.mov (.t 0)),
   .op (some 25) (some (22, false)) (.len false (.t 24)),
   .op (some 26) (some (22, false)) (.bin .geq false [] (.t 23) (.t 25)),
   .op (some 27) none (.pick (.t 22) (.c (.bool true)) (.t 26))])
   (.cut
   (.cond (.t 27)
   (.seq
   (.ops [
   .op (some 28) none (.build [.int .i64 (0), .int .i64 (0)] [(0, 1, .c (.int .i64 (3))), (1, 1, .c (.int .i64 (-2)))]),
   .op none none (.store 2 (.t 4) (.t 28))])
   .ret)
   .skip))))))
   (.cut
   (.ops [
   .op (some 29) none (.bin .add false [] (.t 16) (.c (.int .i64 (1)))),
   .op (some 16) none (.mov (.t 29))])))))))))))
   (.cut
   (.seq
   (.ops [
   .op (some 30) none (.build [.int .i64 (0), .int .i64 (0)] []),
   .op none none (.store 2 (.t 4) (.t 30))])
   .ret)))))))
def r_types_check : List RVar := [.cell true 2 4]
def n_types_check : Nat := 31
theorem k_types_check : chkFn Go.Proofs.Try.prog 41 n_types_check r_types_check c_types_check = true := by kernel_rfl
theorem f_types_check (l : List Typ) (ho : TyOk l) (us : List Int) (hu : us.length ≤ 140737488355328) : Fc Go.Proofs.Try.prog 41 [.sl .p (l.map tyV), .sl .p (us.map i64V)] (ftV (checkF l us)) := by
  have hl := ho.1
  refine Fn.step mixed k_types_check ?_
  repeat' (first | refine i_s rfl ?_ | refine c_seq ?_ | refine c_cut0 ?_ | refine c_ops ?_ | refine i_nil ?_ | refine e_seq ?_ | refine e_block ?_ | refine c_block ?_ | refine c_skip ?_ | refine c_ret ?_ | refine c_exit ?_ | refine e_exit rfl ?_ | refine i_s0 rfl ?_ | refine c_leaf ?_ | refine i_gt rfl ?_ | refine i_gf rfl ?_ | refine i_gd rfl ?_ | refine c_t rfl ?_ | refine c_f rfl ?_ | refine i_conv rfl (by simp only [InR, List.length_map]; omega) ?_ | refine i_add rfl rfl (by simp only [InR, List.length_map]; omega) ?_ | refine i_sub rfl rfl (by simp only [InR, List.length_map]; omega) ?_ | refine i_ixm rfl rfl (by assumption) ?_ | refine i_iam rfl rfl (by assumption) rfl ?_ | refine i_tk rfl rfl (by omega) ?_ | refine i_stb rfl ?_ | refine i_alloc rfl ?_ | refine i_box rfl rfl ?_ | refine i_nv rfl ?_ | refine c_node ?_ ?_ | refine i_g rfl (fun h => ?_) (fun h => ?_) | refine c_cond rfl (fun h => ?_) (fun h => ?_) | refine i_f rfl rfl (f_types_Validate _ ho) rfl ?_)
  · have := ne_ok h
    exact e_ret ⟨rfl, _, rfl, congr_ft (by rw [checkF, if_neg this])⟩
  have h1 := eq_ok h
  clear h
  refine c_for us.length (fun k => [(0, .sl .p (l.map tyV)), (14, .sl .p (us.map i64V)), (4, .bptr 2624258 0), (15, .int .i64 (us.map i64V).length), (16, .int .i64 k)]) (fun _ => [(2624258, .box (ftV okF))]) (fun k => (us.take k).any (badT l.length) = false) (by simp) ⟨by repeat (first | exact trivial | refine ⟨rfl, ?_⟩), by repeat (first | exact trivial | refine ⟨rfl, ?_⟩), rfl⟩ fun k hk hi => ?_
  repeat (first | refine i_s rfl ?_ | refine c_seq ?_ | refine c_cut0 ?_ | refine c_ops ?_ | refine i_nil ?_ | refine e_seq ?_ | refine e_block ?_ | refine c_block ?_ | refine c_skip ?_ | refine c_ret ?_ | refine c_exit ?_ | refine e_exit rfl ?_ | refine i_s0 rfl ?_ | refine c_leaf ?_ | refine i_gt rfl ?_ | refine i_gf rfl ?_ | refine i_gd rfl ?_ | refine c_t rfl ?_ | refine c_f rfl ?_ | refine i_conv rfl (by simp only [InR, List.length_map]; omega) ?_ | refine i_add rfl rfl (by simp only [InR, List.length_map]; omega) ?_ | refine i_sub rfl rfl (by simp only [InR, List.length_map]; omega) ?_ | refine i_ixm rfl rfl (by assumption) ?_ | refine i_iam rfl rfl (by assumption) rfl ?_ | refine i_tk rfl rfl (by omega) ?_ | refine i_stb rfl ?_ | refine i_alloc rfl ?_ | refine i_box rfl rfl ?_ | refine i_nv rfl ?_)
  refine c_cond rfl (fun h => ?_) (fun h => ?_)
  · have hlt : k < us.length := by simpa using h
    obtain ⟨t, ht⟩ := get_some hlt
    clear h
    repeat' (first | refine i_s rfl ?_ | refine c_seq ?_ | refine c_cut0 ?_ | refine c_ops ?_ | refine i_nil ?_ | refine e_seq ?_ | refine e_block ?_ | refine c_block ?_ | refine c_skip ?_ | refine c_ret ?_ | refine c_exit ?_ | refine e_exit rfl ?_ | refine i_s0 rfl ?_ | refine c_leaf ?_ | refine i_gt rfl ?_ | refine i_gf rfl ?_ | refine i_gd rfl ?_ | refine c_t rfl ?_ | refine c_f rfl ?_ | refine i_conv rfl (by simp only [InR, List.length_map]; omega) ?_ | refine i_add rfl rfl (by simp only [InR, List.length_map]; omega) ?_ | refine i_sub rfl rfl (by simp only [InR, List.length_map]; omega) ?_ | refine i_ixm rfl rfl (by assumption) ?_ | refine i_iam rfl rfl (by assumption) rfl ?_ | refine i_tk rfl rfl (by omega) ?_ | refine i_stb rfl ?_ | refine i_alloc rfl ?_ | refine i_box rfl rfl ?_ | refine i_nv rfl ?_ | refine c_node ?_ ?_ | refine i_g rfl (fun h => ?_) (fun h => ?_) | refine c_cond rfl (fun h => ?_) (fun h => ?_))
    · refine e_ret ⟨rfl, _, rfl, congr_ft ?_⟩
      have : badT l.length t = true := by simp only [badT, List.length_map] at *; grind
      rw [checkF, if_pos h1, if_pos (List.any_eq_true.2 ⟨t, mem_get ht, this⟩)]
    · refine e_for hlt ?_ ⟨by repeat (first | exact trivial | refine ⟨rfl, ?_⟩), by repeat (first | exact trivial | refine ⟨rfl, ?_⟩), rfl⟩
      rw [take_succ_get ht, List.any_append, hi]
      simp only [List.length_map] at h
      simp [badT]; grind
    · refine e_ret ⟨rfl, _, rfl, congr_ft ?_⟩
      have : badT l.length t = true := by simp only [badT, List.length_map] at *; grind
      rw [checkF, if_pos h1, if_pos (List.any_eq_true.2 ⟨t, mem_get ht, this⟩)]
  · have hge : ¬ k < us.length := by simpa using h
    rw [List.take_of_length_le (by omega)] at hi
    repeat' (first | refine i_s rfl ?_ | refine c_seq ?_ | refine c_cut0 ?_ | refine c_ops ?_ | refine i_nil ?_ | refine e_seq ?_ | refine e_block ?_ | refine c_block ?_ | refine c_skip ?_ | refine c_ret ?_ | refine c_exit ?_ | refine e_exit rfl ?_ | refine i_s0 rfl ?_ | refine c_leaf ?_ | refine i_gt rfl ?_ | refine i_gf rfl ?_ | refine i_gd rfl ?_ | refine c_t rfl ?_ | refine c_f rfl ?_ | refine i_conv rfl (by simp only [InR, List.length_map]; omega) ?_ | refine i_add rfl rfl (by simp only [InR, List.length_map]; omega) ?_ | refine i_sub rfl rfl (by simp only [InR, List.length_map]; omega) ?_ | refine i_ixm rfl rfl (by assumption) ?_ | refine i_iam rfl rfl (by assumption) rfl ?_ | refine i_tk rfl rfl (by omega) ?_ | refine i_stb rfl ?_ | refine i_alloc rfl ?_ | refine i_box rfl rfl ?_ | refine i_nv rfl ?_ | refine c_node ?_ ?_ | refine i_g rfl (fun h => ?_) (fun h => ?_) | refine c_cond rfl (fun h => ?_) (fun h => ?_))
    exact e_ret ⟨rfl, _, rfl, congr_ft (by rw [checkF, if_pos h1, hi]; rfl)⟩
end Hm
end

section
/- Contracts: faults of objects. -/
namespace Hm
open Go
set_option maxRecDepth 100000
set_option linter.unusedSimpArgs false
set_option linter.unusedVariables false
def ObOk (l : List Obj) : Prop := l.length ≤ 140737488355328 ∧ ∀ t ∈ l, t.name.length ≤ 140737488355328
def c_types_Objects_1 : Cmd :=
  (.seq
   (.ops [
   .op (some 2) none (.box 3968130 2 (.t 0)),
   .op (some 3) none (.mov (.c (.bool false)))])
   (.cut
   (.seq
   (.ops [
   .op (some 4) none (.faddr 0 (.t 2)),
   .op (some 5) none (.load false 1 (.t 4)),
   .op (some 6) none (.faddr 0 (.t 1)),
   .op (some 7) none (.load false 1 (.t 6)),
   .op (some 8) none (.bin .eql false [.s] (.t 5) (.t 7)),
   .op (some 3) none (.mov (.t 8))])
   .ret)))
def r_types_Objects_1 : List RVar := [.tmp 3]
def n_types_Objects_1 : Nat := 9
theorem k_types_Objects_1 : chkFn Go.Proofs.Try.prog 62 n_types_Objects_1 r_types_Objects_1 c_types_Objects_1 = true := by kernel_rfl
theorem f_types_Objects_1 (u t : Obj) : Fc Go.Proofs.Try.prog 62 [obV u, .cptr .p (obV t) 0] (.bool (u.name == t.name)) := by
  refine Fn.step mixed k_types_Objects_1 ?_
  repeat' (first | refine i_s rfl ?_ | refine c_seq ?_ | refine c_cut0 ?_ | refine c_ops ?_ | refine i_nil ?_ | refine e_seq ?_ | refine e_block ?_ | refine c_block ?_ | refine c_skip ?_ | refine c_ret ?_ | refine c_exit ?_ | refine e_exit rfl ?_ | refine i_s0 rfl ?_ | refine c_leaf ?_ | refine i_gt rfl ?_ | refine i_gf rfl ?_ | refine i_gd rfl ?_ | refine c_t rfl ?_ | refine c_f rfl ?_ | refine i_conv rfl (by simp only [InR, List.length_map]; omega) ?_ | refine i_add rfl rfl (by simp only [InR, List.length_map]; omega) ?_ | refine i_sub rfl rfl (by simp only [InR, List.length_map]; omega) ?_ | refine i_ixm rfl rfl (by assumption) ?_ | refine i_iam rfl rfl (by assumption) rfl ?_ | refine i_tk rfl rfl (by omega) ?_ | refine i_stb rfl ?_ | refine i_alloc rfl ?_ | refine i_box rfl rfl ?_ | refine i_nv rfl ?_ | refine c_node ?_ ?_ | refine i_g rfl (fun h => ?_) (fun h => ?_) | refine c_cond rfl (fun h => ?_) (fun h => ?_))
  exact e_ret ⟨rfl, _, rfl, rfl⟩
theorem objectsFault_big {n : Nat} {l : List Obj} (h : 8 < l.length) : objectsFault n l = ⟨2, -3⟩ := by unfold objectsFault; rw [if_pos h]
theorem objectsFault_hit {n : Nat} {l : List Obj} (h : ¬ 8 < l.length) {k : Nat} {f : Flt} (hi : ∀ j, j < k → obBad n l j = none) (hk : k < l.length) (hf : obBad n l k = some f) : objectsFault n l = f := by
  unfold objectsFault; rw [if_neg h, scan0_hit hi hk hf]; rfl
theorem objectsFault_ok {n : Nat} {l : List Obj} (h : ¬ 8 < l.length) (hi : ∀ j, j < l.length → obBad n l j = none) : objectsFault n l = okF := by
  unfold objectsFault; rw [if_neg h, scan0_none hi]; rfl
def c_types_Objects : Cmd :=
  (.seq
   (.ops [
   .op (some 4) none (.alloc 2944258 (.agg [.int .i64 (0), .int .i64 (0)]))])
   (.cut
   (.seq
   (.seq
   (.ops [
   .op (some 8) none (.mov (.t 1)),
   .op (some 9) none (.len false (.t 8)),
   .op (some 10) none (.bin .gtr false [] (.t 9) (.c (.int .i64 (8))))])
   (.cut
   (.cond (.t 10)
   (.seq
   (.ops [
   .op (some 11) none (.build [.int .i64 (0), .int .i64 (0)] [(0, 1, .c (.int .i64 (2))), (1, 1, .c (.int .i64 (-3)))]),
   .op none none (.store 2 (.t 4) (.t 11))])
   .ret)
   .skip)))
   (.cut
   (.seq
   (.seq
   (.ops [
   .op (some 12) none (.mov (.t 1)),
   .op (some 13) none (.len false (.t 12)),
   .op (some 14) none (.mov (.c (.int .i64 (0))))])
   (.cut
   (.block 0
   (.loop
   (.seq
   (.ops [
   .op (some 15) none (.bin .lss false [] (.t 14) (.t 13))])
   (.cut
   (.seq
   (.cond (.t 15)
   .skip
   (.exit 0))
   (.cut
   (.seq
   (.block 1
   (.seq
   (.ops [
   .op (some 16) none (.mov (.t 14)),
   .op (some 17) none (.iaddr 2 (.t 12) (.t 14)),
   .op (some 18) none (.load true 2 (.t 17)),
   .op (some 6) none (.alloc 2944386 (.agg [.str [], .int .i64 (0)])),
   .op (some 5) none (.mov (.t 16)),
   .op none none (.store 2 (.t 6) (.t 18))])
   (.cut
   (.seq
   (.ops [
   .op (some 7) none (.mov (.c (.int .i64 (0))))])
   (.cut
   (.seq
   (.block 2
   (.seq
   (.ops [
   .op (some 20) none (.faddr 0 (.t 6)),
   .op (some 21) none (.load false 1 (.t 20)),
   .op (some 22) none (.call .f (.c (.fn 36 [])) [.t 21]),
   .op (some 23) none (.not (.t 22)),
   .op (some 19) none (.mov (.t 23))])
   (.cut
   (.cond (.t 19)
   (.ops [
   .op (some 7) none (.mov (.c (.int .i64 (12))))])
   (.seq
   (.ops [
   .op (some 25) none (.mov (.t 1)),
   .op (some 26) none (.mov (.t 5)),
   .op (some 27) none (.slice false 2 (.t 25) none (some (.t 26))),
   .op (some 28) none (.mkfn 62 [.t 6]),
   .op (some 29) none (.call .f (.c (.fn 61 [])) [.t 27, .t 28]),
   .op (some 24) none (.mov (.t 29))])
   (.cut
   (.cond (.t 24)
   (.ops [
   .op (some 7) none (.mov (.c (.int .i64 (7))))])
   (.seq
   (.ops [
   .op (some 31) none (.faddr 1 (.t 6)),
   .op (some 32) none (.load false 1 (.t 31)),
   .op (some 33) none (.bin .lss false [] (.t 32) (.c (.int .i64 (-1)))),
   .op (some 34) none (.mov (.t 33)),
   .op (some 35) (some (34, false)) (.faddr 1 (.t 6)),
   .op (some 36) (some (34, false)) (.load false 1 (.t 35)),
   .op (some 37) (some (34, false)) (.mov (.t 0)),
   .op (some 38) (some (34, false)) (.len false (.t 37)),
   .op (some 39) (some (34, false)) (.bin .geq false [] (.t 36) (.t 38)),
   .op (some 40) none (.pick (.t 34) (.c (.bool true)) (.t 39)),
   .op (some 30) none (.mov (.t 40))])
   (.cut
   (.cond (.t 30)
   (.ops [
   .op (some 7) none (.mov (.c (.int .i64 (3))))])
   .skip))))))))))
   (.cut
   (.seq
   (.ops [
   .op (some 41) none (.mov (.t 7)),
   .op (some 42) none (.bin .neq false [.i] (.t 41) (.c (.int .i64 (0))))])
   (.cut
   (.cond (.t 42)
   (.seq
   (.ops [
   .op (some 43) none (.mov (.t 7)),
   .op (some 44) none (.mov (.t 5)),
   .op (some 45) none (.bin .sub false [] (.c (.int .i64 (-10))) (.t 44)),
   .op (some 46) none (.build [.int .i64 (0), .int .i64 (0)] [(0, 1, .t 43), (1, 1, .t 45)]),
   .op none none (.store 2 (.t 4) (.t 46))])
   .ret)
   .skip))))))))))
   (.cut
   (.ops [
   .op (some 47) none (.bin .add false [] (.t 14) (.c (.int .i64 (1)))),
   .op (some 14) none (.mov (.t 47))])))))))))))
   (.cut
   (.seq
   (.ops [
   .op (some 48) none (.build [.int .i64 (0), .int .i64 (0)] []),
   .op none none (.store 2 (.t 4) (.t 48))])
   .ret)))))))
def r_types_Objects : List RVar := [.cell true 2 4]
def n_types_Objects : Nat := 49
theorem k_types_Objects : chkFn Go.Proofs.Try.prog 46 n_types_Objects r_types_Objects c_types_Objects = true := by kernel_rfl
theorem f_types_Objects (ts : List Typ) (hts : ts.length ≤ 140737488355328) (l : List Obj) (ho : ObOk l) : Fc Go.Proofs.Try.prog 46 [.sl .p (ts.map tyV), .sl .p (l.map obV)] (ftV (objectsFault ts.length l)) := by
  obtain ⟨hl, hn⟩ := ho
  refine Fn.step mixed k_types_Objects ?_
  repeat' (first | refine i_s rfl ?_ | refine c_seq ?_ | refine c_cut0 ?_ | refine c_ops ?_ | refine i_nil ?_ | refine e_seq ?_ | refine e_block ?_ | refine c_block ?_ | refine c_skip ?_ | refine c_ret ?_ | refine c_exit ?_ | refine e_exit rfl ?_ | refine i_s0 rfl ?_ | refine c_leaf ?_ | refine i_gt rfl ?_ | refine i_gf rfl ?_ | refine i_gd rfl ?_ | refine c_t rfl ?_ | refine c_f rfl ?_ | refine i_conv rfl (by simp only [InR, List.length_map]; omega) ?_ | refine i_add rfl rfl (by simp only [InR, List.length_map]; omega) ?_ | refine i_sub rfl rfl (by simp only [InR, List.length_map]; omega) ?_ | refine i_ixm rfl rfl (by assumption) ?_ | refine i_iam rfl rfl (by assumption) rfl ?_ | refine i_tk rfl rfl (by omega) ?_ | refine i_stb rfl ?_ | refine i_alloc rfl ?_ | refine i_box rfl rfl ?_ | refine i_nv rfl ?_ | refine c_node ?_ ?_ | refine i_g rfl (fun h => ?_) (fun h => ?_) | refine c_cond rfl (fun h => ?_) (fun h => ?_))
  · exact e_ret ⟨rfl, _, rfl, congr_ft (objectsFault_big (by have := of_decide_eq_true h; simp at this; omega))⟩
  have h8 : ¬ 8 < l.length := by have := of_decide_eq_false h; simp at this; omega
  clear h
  refine c_for l.length (fun k => [(0, .sl .p (ts.map tyV)), (1, .sl .p (l.map obV)), (4, .bptr 2944258 0), (12, .sl .p (l.map obV)), (13, .int .i64 (l.map obV).length), (14, .int .i64 k)]) (fun _ => [(2944258, .box (ftV okF))]) (fun k => ∀ j, j < k → obBad ts.length l j = none) all_zero ⟨by repeat (first | exact trivial | refine ⟨rfl, ?_⟩), by repeat (first | exact trivial | refine ⟨rfl, ?_⟩), rfl⟩ fun k hk hi => ?_
  repeat (first | refine i_s rfl ?_ | refine c_seq ?_ | refine c_cut0 ?_ | refine c_ops ?_ | refine i_nil ?_ | refine e_seq ?_ | refine e_block ?_ | refine c_block ?_ | refine c_skip ?_ | refine c_ret ?_ | refine c_exit ?_ | refine e_exit rfl ?_ | refine i_s0 rfl ?_ | refine c_leaf ?_ | refine i_gt rfl ?_ | refine i_gf rfl ?_ | refine i_gd rfl ?_ | refine c_t rfl ?_ | refine c_f rfl ?_ | refine i_conv rfl (by simp only [InR, List.length_map]; omega) ?_ | refine i_add rfl rfl (by simp only [InR, List.length_map]; omega) ?_ | refine i_sub rfl rfl (by simp only [InR, List.length_map]; omega) ?_ | refine i_ixm rfl rfl (by assumption) ?_ | refine i_iam rfl rfl (by assumption) rfl ?_ | refine i_tk rfl rfl (by omega) ?_ | refine i_stb rfl ?_ | refine i_alloc rfl ?_ | refine i_box rfl rfl ?_ | refine i_nv rfl ?_)
  refine c_cond rfl (fun h => ?_) (fun h => ?_)
  · have hlt : k < l.length := by simpa using h
    obtain ⟨t, ht⟩ := get_some hlt
    have hnt := hn t (mem_get ht)
    have hbad : obBad ts.length l k = if nameB t.name = false then some ⟨12, -10 - k⟩ else if (l.take k).any (fun u => u.name == t.name) = true then some ⟨7, -10 - k⟩
      else if t.type < -1 ∨ t.type ≥ ts.length then some ⟨3, -10 - k⟩ else none := by simp [obBad, ht]
    clear h
    have hC := f_ContainsFunc_Object (l.take k) (fun u => u.name == t.name) 62 [.cptr .p (obV t) 0] (by simp; omega) (fun _ _ => rfl) rfl (fun u _ => f_types_Objects_1 u t)
    repeat' (first | refine i_s rfl ?_ | refine c_seq ?_ | refine c_cut0 ?_ | refine c_ops ?_ | refine i_nil ?_ | refine e_seq ?_ | refine e_block ?_ | refine c_block ?_ | refine c_skip ?_ | refine c_ret ?_ | refine c_exit ?_ | refine e_exit rfl ?_ | refine i_s0 rfl ?_ | refine c_leaf ?_ | refine i_gt rfl ?_ | refine i_gf rfl ?_ | refine i_gd rfl ?_ | refine c_t rfl ?_ | refine c_f rfl ?_ | refine i_conv rfl (by simp only [InR, List.length_map]; omega) ?_ | refine i_add rfl rfl (by simp only [InR, List.length_map]; omega) ?_ | refine i_sub rfl rfl (by simp only [InR, List.length_map]; omega) ?_ | refine i_ixm rfl rfl (by assumption) ?_ | refine i_iam rfl rfl (by assumption) rfl ?_ | refine i_tk rfl rfl (by omega) ?_ | refine i_stb rfl ?_ | refine i_alloc rfl ?_ | refine i_box rfl rfl ?_ | refine i_nv rfl ?_ | refine c_node ?_ ?_ | refine i_g rfl (fun h => ?_) (fun h => ?_) | refine c_cond rfl (fun h => ?_) (fun h => ?_) | refine i_f rfl rfl (f_types_IsName _ hnt) rfl ?_ | refine i_f rfl rfl (hC) rfl ?_)
    all_goals clear hC hn ht hk
    all_goals first
      | refine e_ret ⟨rfl, _, rfl, congr_ft (objectsFault_hit h8 hi hlt ?_)⟩; clear hi
      | refine e_for hlt (all_succ hi ?_) ⟨by repeat (first | exact trivial | refine ⟨rfl, ?_⟩), by repeat (first | exact trivial | refine ⟨rfl, ?_⟩), rfl⟩; clear hi
    all_goals rw [hbad]; clear hbad
    all_goals generalize (l.take k).any _ = bb at *
    all_goals try simp only [List.length_map] at *
    all_goals grind
  · have hge : ¬ k < l.length := by simpa using h
    repeat' (first | refine i_s rfl ?_ | refine c_seq ?_ | refine c_cut0 ?_ | refine c_ops ?_ | refine i_nil ?_ | refine e_seq ?_ | refine e_block ?_ | refine c_block ?_ | refine c_skip ?_ | refine c_ret ?_ | refine c_exit ?_ | refine e_exit rfl ?_ | refine i_s0 rfl ?_ | refine c_leaf ?_ | refine i_gt rfl ?_ | refine i_gf rfl ?_ | refine i_gd rfl ?_ | refine c_t rfl ?_ | refine c_f rfl ?_ | refine i_conv rfl (by simp only [InR, List.length_map]; omega) ?_ | refine i_add rfl rfl (by simp only [InR, List.length_map]; omega) ?_ | refine i_sub rfl rfl (by simp only [InR, List.length_map]; omega) ?_ | refine i_ixm rfl rfl (by assumption) ?_ | refine i_iam rfl rfl (by assumption) rfl ?_ | refine i_tk rfl rfl (by omega) ?_ | refine i_stb rfl ?_ | refine i_alloc rfl ?_ | refine i_box rfl rfl ?_ | refine i_nv rfl ?_ | refine c_node ?_ ?_ | refine i_g rfl (fun h => ?_) (fun h => ?_) | refine c_cond rfl (fun h => ?_) (fun h => ?_))
    exact e_ret ⟨rfl, _, rfl, congr_ft (objectsFault_ok h8 fun j hj => hi j (by omega))⟩
def c_R1_ObjectsFault : Cmd :=
  (.seq
   (.ops [
   .op (some 4) none (.alloc 1280258 (.agg [.int .i64 (0), .int .i64 (0)]))])
   (.cut
   (.seq
   (.seq
   (.ops [
   .op (some 7) none (.mov (.t 1)),
   .op (some 8) none (.len false (.t 7)),
   .op (some 9) none (.bin .gtr false [] (.t 8) (.c (.int .i64 (8))))])
   (.cut
   (.cond (.t 9)
   (.seq
   (.ops [
   .op (some 10) none (.call .f (.c (.fn 35 [])) [.c (.int .i64 (2)), .c (.int .i64 (-3))]),
   .op none none (.store 2 (.t 4) (.t 10))])
   .ret)
   .skip)))
   (.cut
   (.seq
   (.seq
   (.ops [
   .op (some 5) none (.mov (.c (.int .i64 (0))))])
   (.cut
   (.block 0
   (.loop
   (.seq
   (.seq
   (.ops [
   .op (some 11) none (.mov (.t 5)),
   .op (some 12) none (.mov (.t 1)),
   .op (some 13) none (.len false (.t 12)),
   .op (some 14) none (.bin .lss false [] (.t 11) (.t 13))])
   (.cut
   (.cond (.t 14)
   .skip
   (.exit 0))))
   (.cut
   (.seq
   (.block 1
   (.seq
   (.seq
   (.ops [
   .op (some 17) none (.mov (.t 1)),
   .op (some 18) none (.mov (.t 5)),
   .op (some 19) none (.iaddr 2 (.t 17) (.t 18)),
   .op (some 20) none (.faddr 0 (.t 19)),
   .op (some 21) none (.load false 1 (.t 20)),
   .op (some 22) none (.call .f (.c (.fn 39 [])) [.t 21]),
   .op (some 23) none (.not (.t 22))])
   (.cut
   (.cond (.t 23)
   (.seq
   (.ops [
   .op (some 24) none (.mov (.t 5)),
   .op (some 25) none (.bin .sub false [] (.c (.int .i64 (-10))) (.t 24)),
   .op (some 26) none (.call .f (.c (.fn 35 [])) [.c (.int .i64 (12)), .t 25]),
   .op none none (.store 2 (.t 4) (.t 26))])
   .ret)
   .skip)))
   (.cut
   (.seq
   (.seq
   (.ops [
   .op (some 6) none (.mov (.c (.int .i64 (0))))])
   (.cut
   (.block 2
   (.loop
   (.seq
   (.seq
   (.ops [
   .op (some 27) none (.mov (.t 6)),
   .op (some 28) none (.mov (.t 5)),
   .op (some 29) none (.bin .lss false [] (.t 27) (.t 28))])
   (.cut
   (.cond (.t 29)
   .skip
   (.exit 2))))
   (.cut
   (.seq
   (.block 3
   (.seq
   (.ops [
   .op (some 32) none (.mov (.t 1)),
   .op (some 33) none (.mov (.t 6)),
   .op (some 34) none (.iaddr 2 (.t 32) (.t 33)),
   .op (some 35) none (.faddr 0 (.t 34)),
   .op (some 36) none (.load false 1 (.t 35)),
   .op (some 37) none (.mov (.t 1)),
   .op (some 38) none (.mov (.t 5)),
   .op (some 39) none (.iaddr 2 (.t 37) (.t 38)),
   .op (some 40) none (.faddr 0 (.t 39)),
   .op (some 41) none (.load false 1 (.t 40)),
   .op (some 42) none (.bin .eql false [.s] (.t 36) (.t 41))])
   (.cut
   (.cond (.t 42)
   (.seq
   (.ops [
   .op (some 43) none (.mov (.t 5)),
   .op (some 44) none (.bin .sub false [] (.c (.int .i64 (-10))) (.t 43)),
   .op (some 45) none (.call .f (.c (.fn 35 [])) [.c (.int .i64 (7)), .t 44]),
   .op none none (.store 2 (.t 4) (.t 45))])
   .ret)
   .skip))))
   (.cut
   (.ops [
   .op (some 30) none (.mov (.t 6)),
   .op (some 31) none (.bin .add false [] (.t 30) (.c (.int .i64 (1)))),
   .op (some 6) none (.mov (.t 31))])))))))))
   (.cut
   (.seq
   (.ops [
   .op (some 46) none (.mov (.t 1)),
   .op (some 47) none (.mov (.t 5)),
   .op (some 48) none (.iaddr 2 (.t 46) (.t 47)),
   .op (some 49) none (.faddr 1 (.t 48)),
   .op (some 50) none (.load false 1 (.t 49)),
   .op (some 51) none (.mov (.t 0)),
   .op (some 52) none (.len false (.t 51)),
   .op (some 53) none (.bin .sub false [] (.t 52) (.c (.int .i64 (1)))),
   .op (some 54) none (.call .f (.c (.fn 40 [])) [.t 50, .c (.int .i64 (-1)), .t 53]),
   .op (some 55) none (.not (.t 54))])
   (.cut
   (.cond (.t 55)
   (.seq
   (.ops [
   .op (some 56) none (.mov (.t 5)),
   .op (some 57) none (.bin .sub false [] (.c (.int .i64 (-10))) (.t 56)),
   .op (some 58) none (.call .f (.c (.fn 35 [])) [.c (.int .i64 (3)), .t 57]),
   .op none none (.store 2 (.t 4) (.t 58))])
   .ret)
   .skip))))))))
   (.cut
   (.ops [
   .op (some 15) none (.mov (.t 5)),
   .op (some 16) none (.bin .add false [] (.t 15) (.c (.int .i64 (1)))),
   .op (some 5) none (.mov (.t 16))])))))))))
   (.cut
   (.seq
   (.ops [
   .op (some 59) none (.build [.int .i64 (0), .int .i64 (0)] []),
   .op none none (.store 2 (.t 4) (.t 59))])
   .ret)))))))
def r_R1_ObjectsFault : List RVar := [.cell true 2 4]
def n_R1_ObjectsFault : Nat := 60
theorem k_R1_ObjectsFault : chkFn Go.Proofs.Try.prog 20 n_R1_ObjectsFault r_R1_ObjectsFault c_R1_ObjectsFault = true := by kernel_rfl
theorem f_R1_ObjectsFault (ts : List Typ) (hts : ts.length ≤ 140737488355328) (l : List Obj) (ho : ObOk l) : Fc Go.Proofs.Try.prog 20 [.sl .p (ts.map tyV), .sl .p (l.map obV)] (ftV (objectsFault ts.length l)) := by
  obtain ⟨hl, hn⟩ := ho
  refine Fn.step mixed k_R1_ObjectsFault ?_
  repeat' (first | refine i_s rfl ?_ | refine c_seq ?_ | refine c_cut0 ?_ | refine c_ops ?_ | refine i_nil ?_ | refine e_seq ?_ | refine e_block ?_ | refine c_block ?_ | refine c_skip ?_ | refine c_ret ?_ | refine c_exit ?_ | refine e_exit rfl ?_ | refine i_s0 rfl ?_ | refine c_leaf ?_ | refine i_gt rfl ?_ | refine i_gf rfl ?_ | refine i_gd rfl ?_ | refine c_t rfl ?_ | refine c_f rfl ?_ | refine i_conv rfl (by simp only [InR, List.length_map]; omega) ?_ | refine i_add rfl rfl (by simp only [InR, List.length_map]; omega) ?_ | refine i_sub rfl rfl (by simp only [InR, List.length_map]; omega) ?_ | refine i_ixm rfl rfl (by assumption) ?_ | refine i_iam rfl rfl (by assumption) rfl ?_ | refine i_tk rfl rfl (by omega) ?_ | refine i_stb rfl ?_ | refine i_alloc rfl ?_ | refine i_box rfl rfl ?_ | refine i_nv rfl ?_ | refine c_node ?_ ?_ | refine i_g rfl (fun h => ?_) (fun h => ?_) | refine c_cond rfl (fun h => ?_) (fun h => ?_) | refine i_f rfl rfl (f_R1_At _ _) rfl ?_)
  · exact e_ret ⟨rfl, _, rfl, congr_ft (objectsFault_big (by have := of_decide_eq_true h; simp at this; omega))⟩
  have h8 : ¬ 8 < l.length := by have := of_decide_eq_false h; simp at this; omega
  clear h
  refine c_for l.length (fun k => [(0, .sl .p (ts.map tyV)), (1, .sl .p (l.map obV)), (4, .bptr 1280258 0), (5, .int .i64 k)]) (fun _ => [(1280258, .box (ftV okF))]) (fun k => ∀ j, j < k → obBad ts.length l j = none) all_zero ⟨by repeat (first | exact trivial | refine ⟨rfl, ?_⟩), by repeat (first | exact trivial | refine ⟨rfl, ?_⟩), rfl⟩ fun k hk hi => ?_
  repeat (first | refine i_s rfl ?_ | refine c_seq ?_ | refine c_cut0 ?_ | refine c_ops ?_ | refine i_nil ?_ | refine e_seq ?_ | refine e_block ?_ | refine c_block ?_ | refine c_skip ?_ | refine c_ret ?_ | refine c_exit ?_ | refine e_exit rfl ?_ | refine i_s0 rfl ?_ | refine c_leaf ?_ | refine i_gt rfl ?_ | refine i_gf rfl ?_ | refine i_gd rfl ?_ | refine c_t rfl ?_ | refine c_f rfl ?_ | refine i_conv rfl (by simp only [InR, List.length_map]; omega) ?_ | refine i_add rfl rfl (by simp only [InR, List.length_map]; omega) ?_ | refine i_sub rfl rfl (by simp only [InR, List.length_map]; omega) ?_ | refine i_ixm rfl rfl (by assumption) ?_ | refine i_iam rfl rfl (by assumption) rfl ?_ | refine i_tk rfl rfl (by omega) ?_ | refine i_stb rfl ?_ | refine i_alloc rfl ?_ | refine i_box rfl rfl ?_ | refine i_nv rfl ?_)
  refine c_cond rfl (fun h => ?_) (fun h => ?_)
  · have hlt : k < l.length := by simpa using h
    obtain ⟨t, ht⟩ := get_some hlt
    have hnt := hn t (mem_get ht)
    have hbad : obBad ts.length l k = if nameB t.name = false then some ⟨12, -10 - k⟩ else if (l.take k).any (fun u => u.name == t.name) = true then some ⟨7, -10 - k⟩
      else if t.type < -1 ∨ t.type ≥ ts.length then some ⟨3, -10 - k⟩ else none := by simp [obBad, ht]
    clear h
    repeat' (first | refine i_s rfl ?_ | refine c_seq ?_ | refine c_cut0 ?_ | refine c_ops ?_ | refine i_nil ?_ | refine e_seq ?_ | refine e_block ?_ | refine c_block ?_ | refine c_skip ?_ | refine c_ret ?_ | refine c_exit ?_ | refine e_exit rfl ?_ | refine i_s0 rfl ?_ | refine c_leaf ?_ | refine i_gt rfl ?_ | refine i_gf rfl ?_ | refine i_gd rfl ?_ | refine c_t rfl ?_ | refine c_f rfl ?_ | refine i_conv rfl (by simp only [InR, List.length_map]; omega) ?_ | refine i_add rfl rfl (by simp only [InR, List.length_map]; omega) ?_ | refine i_sub rfl rfl (by simp only [InR, List.length_map]; omega) ?_ | refine i_ixm rfl rfl (by assumption) ?_ | refine i_iam rfl rfl (by assumption) rfl ?_ | refine i_tk rfl rfl (by omega) ?_ | refine i_stb rfl ?_ | refine i_alloc rfl ?_ | refine i_box rfl rfl ?_ | refine i_nv rfl ?_ | refine c_node ?_ ?_ | refine i_g rfl (fun h => ?_) (fun h => ?_) | refine c_cond rfl (fun h => ?_) (fun h => ?_) | refine i_f rfl rfl (f_R1_Name _ hnt) rfl ?_ | refine i_f rfl rfl (f_R1_At _ _) rfl ?_)
    · refine e_ret ⟨rfl, _, rfl, congr_ft (objectsFault_hit h8 hi hlt ?_)⟩
      rw [hbad]; clear hbad; grind
    · refine c_for k (fun j => [(0, .sl .p (ts.map tyV)), (1, .sl .p (l.map obV)), (4, .bptr 1280258 0), (5, .int .i64 k), (6, .int .i64 j)]) (fun _ => [(1280258, .box (ftV okF))]) (fun j => ∀ i, i < j → ∀ u, l[i]? = some u → (u.name == t.name) = false) all_zero ⟨by repeat (first | exact trivial | refine ⟨rfl, ?_⟩), by repeat (first | exact trivial | refine ⟨rfl, ?_⟩), rfl⟩ fun j hj hij => ?_
      repeat (first | refine i_s rfl ?_ | refine c_seq ?_ | refine c_cut0 ?_ | refine c_ops ?_ | refine i_nil ?_ | refine e_seq ?_ | refine e_block ?_ | refine c_block ?_ | refine c_skip ?_ | refine c_ret ?_ | refine c_exit ?_ | refine e_exit rfl ?_ | refine i_s0 rfl ?_ | refine c_leaf ?_ | refine i_gt rfl ?_ | refine i_gf rfl ?_ | refine i_gd rfl ?_ | refine c_t rfl ?_ | refine c_f rfl ?_ | refine i_conv rfl (by simp only [InR, List.length_map]; omega) ?_ | refine i_add rfl rfl (by simp only [InR, List.length_map]; omega) ?_ | refine i_sub rfl rfl (by simp only [InR, List.length_map]; omega) ?_ | refine i_ixm rfl rfl (by assumption) ?_ | refine i_iam rfl rfl (by assumption) rfl ?_ | refine i_tk rfl rfl (by omega) ?_ | refine i_stb rfl ?_ | refine i_alloc rfl ?_ | refine i_box rfl rfl ?_ | refine i_nv rfl ?_)
      refine c_cond rfl (fun h2 => ?_) (fun h2 => ?_)
      · have hjk : j < k := by simpa using h2
        obtain ⟨u, hu⟩ := get_some (Nat.lt_trans hjk hlt)
        repeat' (first | refine i_s rfl ?_ | refine c_seq ?_ | refine c_cut0 ?_ | refine c_ops ?_ | refine i_nil ?_ | refine e_seq ?_ | refine e_block ?_ | refine c_block ?_ | refine c_skip ?_ | refine c_ret ?_ | refine c_exit ?_ | refine e_exit rfl ?_ | refine i_s0 rfl ?_ | refine c_leaf ?_ | refine i_gt rfl ?_ | refine i_gf rfl ?_ | refine i_gd rfl ?_ | refine c_t rfl ?_ | refine c_f rfl ?_ | refine i_conv rfl (by simp only [InR, List.length_map]; omega) ?_ | refine i_add rfl rfl (by simp only [InR, List.length_map]; omega) ?_ | refine i_sub rfl rfl (by simp only [InR, List.length_map]; omega) ?_ | refine i_ixm rfl rfl (by assumption) ?_ | refine i_iam rfl rfl (by assumption) rfl ?_ | refine i_tk rfl rfl (by omega) ?_ | refine i_stb rfl ?_ | refine i_alloc rfl ?_ | refine i_box rfl rfl ?_ | refine i_nv rfl ?_ | refine c_node ?_ ?_ | refine i_g rfl (fun h => ?_) (fun h => ?_) | refine c_cond rfl (fun h => ?_) (fun h => ?_) | refine i_f rfl rfl (f_R1_At _ _) rfl ?_)
        · refine e_ret ⟨rfl, _, rfl, congr_ft (objectsFault_hit h8 hi hlt ?_)⟩
          have := any_take_hit (p := fun u => u.name == t.name) hjk hu h
          rw [hbad]; clear hbad; grind
        · exact e_for hjk (all_succ hij fun v hv => by rw [hu] at hv; cases hv; exact h) ⟨by repeat (first | exact trivial | refine ⟨rfl, ?_⟩), by repeat (first | exact trivial | refine ⟨rfl, ?_⟩), rfl⟩
      · have hge : ¬ j < k := by simpa using h2
        have hany : (l.take k).any (fun u => u.name == t.name) = false := any_take_none fun i hik => hij i (by omega)
        clear h2 hij
        repeat' (first | refine i_s rfl ?_ | refine c_seq ?_ | refine c_cut0 ?_ | refine c_ops ?_ | refine i_nil ?_ | refine e_seq ?_ | refine e_block ?_ | refine c_block ?_ | refine c_skip ?_ | refine c_ret ?_ | refine c_exit ?_ | refine e_exit rfl ?_ | refine i_s0 rfl ?_ | refine c_leaf ?_ | refine i_gt rfl ?_ | refine i_gf rfl ?_ | refine i_gd rfl ?_ | refine c_t rfl ?_ | refine c_f rfl ?_ | refine i_conv rfl (by simp only [InR, List.length_map]; omega) ?_ | refine i_add rfl rfl (by simp only [InR, List.length_map]; omega) ?_ | refine i_sub rfl rfl (by simp only [InR, List.length_map]; omega) ?_ | refine i_ixm rfl rfl (by assumption) ?_ | refine i_iam rfl rfl (by assumption) rfl ?_ | refine i_tk rfl rfl (by omega) ?_ | refine i_stb rfl ?_ | refine i_alloc rfl ?_ | refine i_box rfl rfl ?_ | refine i_nv rfl ?_ | refine c_node ?_ ?_ | refine i_g rfl (fun h => ?_) (fun h => ?_) | refine c_cond rfl (fun h => ?_) (fun h => ?_) | refine i_f rfl rfl (f_R1_In _ _ _) rfl ?_ | refine i_f rfl rfl (f_R1_At _ _) rfl ?_)
        · refine e_ret ⟨rfl, _, rfl, congr_ft (objectsFault_hit h8 hi hlt ?_)⟩
          rw [hbad]; clear hbad; simp only [List.length_map] at h; grind
        · refine e_for hlt (all_succ hi ?_) ⟨by repeat (first | exact trivial | refine ⟨rfl, ?_⟩), by repeat (first | exact trivial | refine ⟨rfl, ?_⟩), rfl⟩
          rw [hbad]; clear hbad; simp only [List.length_map] at h; grind
  · have hge : ¬ k < l.length := by simpa using h
    repeat' (first | refine i_s rfl ?_ | refine c_seq ?_ | refine c_cut0 ?_ | refine c_ops ?_ | refine i_nil ?_ | refine e_seq ?_ | refine e_block ?_ | refine c_block ?_ | refine c_skip ?_ | refine c_ret ?_ | refine c_exit ?_ | refine e_exit rfl ?_ | refine i_s0 rfl ?_ | refine c_leaf ?_ | refine i_gt rfl ?_ | refine i_gf rfl ?_ | refine i_gd rfl ?_ | refine c_t rfl ?_ | refine c_f rfl ?_ | refine i_conv rfl (by simp only [InR, List.length_map]; omega) ?_ | refine i_add rfl rfl (by simp only [InR, List.length_map]; omega) ?_ | refine i_sub rfl rfl (by simp only [InR, List.length_map]; omega) ?_ | refine i_ixm rfl rfl (by assumption) ?_ | refine i_iam rfl rfl (by assumption) rfl ?_ | refine i_tk rfl rfl (by omega) ?_ | refine i_stb rfl ?_ | refine i_alloc rfl ?_ | refine i_box rfl rfl ?_ | refine i_nv rfl ?_ | refine c_node ?_ ?_ | refine i_g rfl (fun h => ?_) (fun h => ?_) | refine c_cond rfl (fun h => ?_) (fun h => ?_))
    exact e_ret ⟨rfl, _, rfl, congr_ft (objectsFault_ok h8 fun j hj => hi j (by omega))⟩
end Hm
end

section
/- Contracts: supertypes, as the reference finds them. -/
namespace Hm
open Go
set_option maxRecDepth 100000
set_option linter.unusedSimpArgs false
set_option linter.unusedVariables false
theorem i64_rows (l : List Int) : ∀ row ∈ l.map i64V, row.cells.length = 1 ∧ row.cells.all leafB = true := by
  intro row h
  obtain ⟨n, _, rfl⟩ := List.mem_map.1 h
  exact ⟨rfl, rfl⟩
def c_R1_Supers : Cmd :=
  (.seq
   (.ops [
   .op (some 4) none (.mov (.c (.sl .nil [])))])
   (.cut
   (.seq
   (.seq
   (.ops [
   .op (some 5) none (.mov (.t 1)),
   .op (some 6) none (.bin .lss false [] (.t 5) (.c (.int .i64 (0))))])
   (.cut
   (.cond (.t 6)
   (.seq
   (.ops [
   .op (some 7) none (.bsl 1 [.c (.int .i64 (-1))]),
   .op (some 4) none (.mov (.t 7))])
   .ret)
   .skip)))
   (.cut
   (.seq
   (.ops [
   .op (some 8) none (.mov (.t 1)),
   .op (some 9) none (.bslO 2880577 1 [.t 8]),
   .op (some 10) none (.mov (.t 0)),
   .op (some 11) none (.mov (.t 0)),
   .op (some 12) none (.mov (.t 1)),
   .op (some 13) none (.iaddr 2 (.t 11) (.t 12)),
   .op (some 14) none (.faddr 1 (.t 13)),
   .op (some 15) none (.load false 1 (.t 14)),
   .op (some 16) none (.call .f (.c (.fn 45 [])) [.t 10, .t 15]),
   .op (some 17) none (.append 1 8 (.t 9) (.t 16)),
   .op (some 4) none (.mov (.t 17))])
   .ret)))))
def r_R1_Supers : List RVar := [.tmp 4]
def n_R1_Supers : Nat := 18
theorem k_R1_Supers : chkFn Go.Proofs.Try.prog 45 n_R1_Supers r_R1_Supers c_R1_Supers = true := by kernel_rfl
theorem f_R1_Supers_n (l : List Typ) (hv : TyValid l) : ∀ (m : Nat) (t : Int), t < m → -1 ≤ t → t < l.length → Fc Go.Proofs.Try.prog 45 [.sl .p (l.map tyV), .int .i64 t] (.sl .p ((supers l t).map i64V))
  | m, t, hm, h0, h1 => by
    have h8 := hv.1
    refine Fn.step mixed k_R1_Supers ?_
    repeat' (first | refine i_s rfl ?_ | refine c_seq ?_ | refine c_cut0 ?_ | refine c_ops ?_ | refine i_nil ?_ | refine e_seq ?_ | refine e_block ?_ | refine c_block ?_ | refine c_skip ?_ | refine c_ret ?_ | refine c_exit ?_ | refine e_exit rfl ?_ | refine i_s0 rfl ?_ | refine c_leaf ?_ | refine i_gt rfl ?_ | refine i_gf rfl ?_ | refine i_gd rfl ?_ | refine c_t rfl ?_ | refine c_f rfl ?_ | refine i_conv rfl (by simp only [InR, List.length_map]; omega) ?_ | refine i_add rfl rfl (by simp only [InR, List.length_map]; omega) ?_ | refine i_sub rfl rfl (by simp only [InR, List.length_map]; omega) ?_ | refine i_ixm rfl rfl (by assumption) ?_ | refine i_iam rfl rfl (by assumption) rfl ?_ | refine i_tk rfl rfl (by omega) ?_ | refine i_stb rfl ?_ | refine i_alloc rfl ?_ | refine i_box rfl rfl ?_ | refine i_nv rfl ?_ | refine c_node ?_ ?_ | refine i_g rfl (fun h => ?_) (fun h => ?_) | refine c_cond rfl (fun h => ?_) (fun h => ?_))
    · have := of_decide_eq_true h
      refine e_ret ⟨rfl, _, rfl, ?_⟩
      rw [supers_neg this]; rfl
    · have hn := of_decide_eq_false h
      obtain ⟨x, hx, hp, h2, h3⟩ := parent_ok hv (by omega) h1
      refine i_bslo rfl rfl rfl rfl ?_
      repeat (first | refine i_s rfl ?_ | refine c_seq ?_ | refine c_cut0 ?_ | refine c_ops ?_ | refine i_nil ?_ | refine e_seq ?_ | refine e_block ?_ | refine c_block ?_ | refine c_skip ?_ | refine c_ret ?_ | refine c_exit ?_ | refine e_exit rfl ?_ | refine i_s0 rfl ?_ | refine c_leaf ?_ | refine i_gt rfl ?_ | refine i_gf rfl ?_ | refine i_gd rfl ?_ | refine c_t rfl ?_ | refine c_f rfl ?_ | refine i_conv rfl (by simp only [InR, List.length_map]; omega) ?_ | refine i_add rfl rfl (by simp only [InR, List.length_map]; omega) ?_ | refine i_sub rfl rfl (by simp only [InR, List.length_map]; omega) ?_ | refine i_ixm rfl rfl (by assumption) ?_ | refine i_iam rfl rfl (by assumption) rfl ?_ | refine i_tk rfl rfl (by omega) ?_ | refine i_stb rfl ?_ | refine i_alloc rfl ?_ | refine i_box rfl rfl ?_ | refine i_nv rfl ?_)
      refine i_iai rfl rfl (by omega) hx rfl ?_
      cases m with
      | zero => omega
      | succ m =>
      have hl := supers_length (t := x.parent) (by omega) hv
      repeat (first | refine i_s rfl ?_ | refine c_seq ?_ | refine c_cut0 ?_ | refine c_ops ?_ | refine i_nil ?_ | refine e_seq ?_ | refine e_block ?_ | refine c_block ?_ | refine c_skip ?_ | refine c_ret ?_ | refine c_exit ?_ | refine e_exit rfl ?_ | refine i_s0 rfl ?_ | refine c_leaf ?_ | refine i_gt rfl ?_ | refine i_gf rfl ?_ | refine i_gd rfl ?_ | refine c_t rfl ?_ | refine c_f rfl ?_ | refine i_conv rfl (by simp only [InR, List.length_map]; omega) ?_ | refine i_add rfl rfl (by simp only [InR, List.length_map]; omega) ?_ | refine i_sub rfl rfl (by simp only [InR, List.length_map]; omega) ?_ | refine i_ixm rfl rfl (by assumption) ?_ | refine i_iam rfl rfl (by assumption) rfl ?_ | refine i_tk rfl rfl (by omega) ?_ | refine i_stb rfl ?_ | refine i_alloc rfl ?_ | refine i_box rfl rfl ?_ | refine i_nv rfl ?_ | refine i_f rfl rfl (f_R1_Supers_n l hv m x.parent (by omega) h2 (by omega)) rfl ?_)
      refine i_app rfl rfl rfl rfl rfl (i64_rows _) (by simp; omega) (by simp; omega) ?_
      repeat' (first | refine i_s rfl ?_ | refine c_seq ?_ | refine c_cut0 ?_ | refine c_ops ?_ | refine i_nil ?_ | refine e_seq ?_ | refine e_block ?_ | refine c_block ?_ | refine c_skip ?_ | refine c_ret ?_ | refine c_exit ?_ | refine e_exit rfl ?_ | refine i_s0 rfl ?_ | refine c_leaf ?_ | refine i_gt rfl ?_ | refine i_gf rfl ?_ | refine i_gd rfl ?_ | refine c_t rfl ?_ | refine c_f rfl ?_ | refine i_conv rfl (by simp only [InR, List.length_map]; omega) ?_ | refine i_add rfl rfl (by simp only [InR, List.length_map]; omega) ?_ | refine i_sub rfl rfl (by simp only [InR, List.length_map]; omega) ?_ | refine i_ixm rfl rfl (by assumption) ?_ | refine i_iam rfl rfl (by assumption) rfl ?_ | refine i_tk rfl rfl (by omega) ?_ | refine i_stb rfl ?_ | refine i_alloc rfl ?_ | refine i_box rfl rfl ?_ | refine i_nv rfl ?_ | refine c_node ?_ ?_ | refine i_g rfl (fun h => ?_) (fun h => ?_) | refine c_cond rfl (fun h => ?_) (fun h => ?_))
      refine e_ret ⟨rfl, _, rfl, ?_⟩
      rw [supers_cons hv (by omega) h1 hx]; rfl
theorem f_R1_Supers (l : List Typ) (hv : TyValid l) (t : Int) (h0 : -1 ≤ t) (h1 : t < l.length) : Fc Go.Proofs.Try.prog 45 [.sl .p (l.map tyV), .int .i64 t] (.sl .p ((supers l t).map i64V)) :=
  f_R1_Supers_n l hv (t.toNat + 1) t (by omega) h0 h1
def c_R1_Sub : Cmd :=
  (.seq
   (.ops [
   .op (some 6) none (.mov (.c (.bool false)))])
   (.cut
   (.seq
   (.ops [
   .op (some 7) none (.mov (.t 0)),
   .op (some 8) none (.mov (.t 1)),
   .op (some 9) none (.call .f (.c (.fn 45 [])) [.t 7, .t 8]),
   .op (some 10) none (.mov (.t 2)),
   .op (some 11) none (.call .f (.c (.fn 44 [])) [.t 9, .t 10]),
   .op (some 6) none (.mov (.t 11))])
   .ret)))
def r_R1_Sub : List RVar := [.tmp 6]
def n_R1_Sub : Nat := 12
theorem k_R1_Sub : chkFn Go.Proofs.Try.prog 18 n_R1_Sub r_R1_Sub c_R1_Sub = true := by kernel_rfl
theorem f_R1_Sub (l : List Typ) (hv : TyValid l) (a b : Int) (h0 : -1 ≤ a) (h1 : a < l.length) : Fc Go.Proofs.Try.prog 18 [.sl .p (l.map tyV), .int .i64 a, .int .i64 b] (.bool (subB l a b)) := by
  have hl := supers_length h1 hv
  refine Fn.step mixed k_R1_Sub ?_
  repeat' (first | refine i_s rfl ?_ | refine c_seq ?_ | refine c_cut0 ?_ | refine c_ops ?_ | refine i_nil ?_ | refine e_seq ?_ | refine e_block ?_ | refine c_block ?_ | refine c_skip ?_ | refine c_ret ?_ | refine c_exit ?_ | refine e_exit rfl ?_ | refine i_s0 rfl ?_ | refine c_leaf ?_ | refine i_gt rfl ?_ | refine i_gf rfl ?_ | refine i_gd rfl ?_ | refine c_t rfl ?_ | refine c_f rfl ?_ | refine i_conv rfl (by simp only [InR, List.length_map]; omega) ?_ | refine i_add rfl rfl (by simp only [InR, List.length_map]; omega) ?_ | refine i_sub rfl rfl (by simp only [InR, List.length_map]; omega) ?_ | refine i_ixm rfl rfl (by assumption) ?_ | refine i_iam rfl rfl (by assumption) rfl ?_ | refine i_tk rfl rfl (by omega) ?_ | refine i_stb rfl ?_ | refine i_alloc rfl ?_ | refine i_box rfl rfl ?_ | refine i_nv rfl ?_ | refine c_node ?_ ?_ | refine i_g rfl (fun h => ?_) (fun h => ?_) | refine c_cond rfl (fun h => ?_) (fun h => ?_) | refine i_f rfl rfl (f_R1_Supers l hv a h0 h1) rfl ?_ | refine i_f rfl rfl (f_R1_Has _ _ (by omega)) rfl ?_)
  exact e_ret ⟨rfl, _, rfl, rfl⟩
def c_R1_JoinOf : Cmd :=
  (.seq
   (.ops [
   .op (some 6) none (.mov (.c (.int .i64 (0))))])
   (.cut
   (.seq
   (.ops [
   .op (some 10) none (.mov (.t 0)),
   .op (some 11) none (.mov (.t 1)),
   .op (some 12) none (.call .f (.c (.fn 45 [])) [.t 10, .t 11]),
   .op (some 7) none (.mov (.t 12))])
   (.cut
   (.seq
   (.ops [
   .op (some 13) none (.mov (.t 0)),
   .op (some 14) none (.mov (.t 2)),
   .op (some 15) none (.call .f (.c (.fn 45 [])) [.t 13, .t 14]),
   .op (some 8) none (.mov (.t 15))])
   (.cut
   (.seq
   (.seq
   (.ops [
   .op (some 9) none (.mov (.c (.int .i64 (0))))])
   (.cut
   (.block 0
   (.loop
   (.seq
   (.seq
   (.ops [
   .op (some 16) none (.mov (.t 9)),
   .op (some 17) none (.mov (.t 7)),
   .op (some 18) none (.len false (.t 17)),
   .op (some 19) none (.bin .lss false [] (.t 16) (.t 18))])
   (.cut
   (.cond (.t 19)
   .skip
   (.exit 0))))
   (.cut
   (.seq
   (.block 1
   (.seq
   (.ops [
   .op (some 22) none (.mov (.t 8)),
   .op (some 23) none (.mov (.t 7)),
   .op (some 24) none (.mov (.t 9)),
   .op (some 25) none (.iaddr 1 (.t 23) (.t 24)),
   .op (some 26) none (.load false 1 (.t 25)),
   .op (some 27) none (.call .f (.c (.fn 44 [])) [.t 22, .t 26])])
   (.cut
   (.cond (.t 27)
   (.seq
   (.ops [
   .op (some 28) none (.mov (.t 7)),
   .op (some 29) none (.mov (.t 9)),
   .op (some 30) none (.iaddr 1 (.t 28) (.t 29)),
   .op (some 31) none (.load false 1 (.t 30)),
   .op (some 6) none (.mov (.t 31))])
   .ret)
   .skip))))
   (.cut
   (.ops [
   .op (some 20) none (.mov (.t 9)),
   .op (some 21) none (.bin .add false [] (.t 20) (.c (.int .i64 (1)))),
   .op (some 9) none (.mov (.t 21))])))))))))
   (.cut
   (.seq
   (.ops [
   .op (some 6) none (.mov (.c (.int .i64 (-1))))])
   .ret)))))))))
def r_R1_JoinOf : List RVar := [.tmp 6]
def n_R1_JoinOf : Nat := 32
theorem k_R1_JoinOf : chkFn Go.Proofs.Try.prog 19 n_R1_JoinOf r_R1_JoinOf c_R1_JoinOf = true := by kernel_rfl
theorem f_R1_JoinOf (l : List Typ) (hv : TyValid l) (a b : Int) (h0 : -1 ≤ a) (h1 : a < l.length) (h2 : -1 ≤ b) (h3 : b < l.length) : Fc Go.Proofs.Try.prog 19 [.sl .p (l.map tyV), .int .i64 a, .int .i64 b] (.int .i64 (joinOf l a b)) := by
  have hl := supers_length h1 hv
  have hl' := supers_length h3 hv
  refine Fn.step mixed k_R1_JoinOf ?_
  repeat' (first | refine i_s rfl ?_ | refine c_seq ?_ | refine c_cut0 ?_ | refine c_ops ?_ | refine i_nil ?_ | refine e_seq ?_ | refine e_block ?_ | refine c_block ?_ | refine c_skip ?_ | refine c_ret ?_ | refine c_exit ?_ | refine e_exit rfl ?_ | refine i_s0 rfl ?_ | refine c_leaf ?_ | refine i_gt rfl ?_ | refine i_gf rfl ?_ | refine i_gd rfl ?_ | refine c_t rfl ?_ | refine c_f rfl ?_ | refine i_conv rfl (by simp only [InR, List.length_map]; omega) ?_ | refine i_add rfl rfl (by simp only [InR, List.length_map]; omega) ?_ | refine i_sub rfl rfl (by simp only [InR, List.length_map]; omega) ?_ | refine i_ixm rfl rfl (by assumption) ?_ | refine i_iam rfl rfl (by assumption) rfl ?_ | refine i_tk rfl rfl (by omega) ?_ | refine i_stb rfl ?_ | refine i_alloc rfl ?_ | refine i_box rfl rfl ?_ | refine i_nv rfl ?_ | refine c_node ?_ ?_ | refine i_g rfl (fun h => ?_) (fun h => ?_) | refine c_cond rfl (fun h => ?_) (fun h => ?_) | refine i_f rfl rfl (f_R1_Supers l hv a h0 h1) rfl ?_ | refine i_f rfl rfl (f_R1_Supers l hv b h2 h3) rfl ?_)
  unfold joinOf
  generalize supers l a = xs at *
  refine c_for xs.length (fun k => [(7, .sl .p (xs.map i64V)), (8, .sl .p ((supers l b).map i64V)), (9, .int .i64 k)]) (fun _ => []) (fun k => (xs.take k).find? (fun t => subB l b t) = none) (by simp) ⟨by repeat (first | exact trivial | refine ⟨rfl, ?_⟩), by repeat (first | exact trivial | refine ⟨rfl, ?_⟩), rfl⟩ fun k hk hi => ?_
  repeat (first | refine i_s rfl ?_ | refine c_seq ?_ | refine c_cut0 ?_ | refine c_ops ?_ | refine i_nil ?_ | refine e_seq ?_ | refine e_block ?_ | refine c_block ?_ | refine c_skip ?_ | refine c_ret ?_ | refine c_exit ?_ | refine e_exit rfl ?_ | refine i_s0 rfl ?_ | refine c_leaf ?_ | refine i_gt rfl ?_ | refine i_gf rfl ?_ | refine i_gd rfl ?_ | refine c_t rfl ?_ | refine c_f rfl ?_ | refine i_conv rfl (by simp only [InR, List.length_map]; omega) ?_ | refine i_add rfl rfl (by simp only [InR, List.length_map]; omega) ?_ | refine i_sub rfl rfl (by simp only [InR, List.length_map]; omega) ?_ | refine i_ixm rfl rfl (by assumption) ?_ | refine i_iam rfl rfl (by assumption) rfl ?_ | refine i_tk rfl rfl (by omega) ?_ | refine i_stb rfl ?_ | refine i_alloc rfl ?_ | refine i_box rfl rfl ?_ | refine i_nv rfl ?_)
  refine c_cond rfl (fun h => ?_) (fun h => ?_)
  · have hlt : k < xs.length := by simpa using h
    obtain ⟨c, hc⟩ := get_some hlt
    clear h
    repeat' (first | refine i_s rfl ?_ | refine c_seq ?_ | refine c_cut0 ?_ | refine c_ops ?_ | refine i_nil ?_ | refine e_seq ?_ | refine e_block ?_ | refine c_block ?_ | refine c_skip ?_ | refine c_ret ?_ | refine c_exit ?_ | refine e_exit rfl ?_ | refine i_s0 rfl ?_ | refine c_leaf ?_ | refine i_gt rfl ?_ | refine i_gf rfl ?_ | refine i_gd rfl ?_ | refine c_t rfl ?_ | refine c_f rfl ?_ | refine i_conv rfl (by simp only [InR, List.length_map]; omega) ?_ | refine i_add rfl rfl (by simp only [InR, List.length_map]; omega) ?_ | refine i_sub rfl rfl (by simp only [InR, List.length_map]; omega) ?_ | refine i_ixm rfl rfl (by assumption) ?_ | refine i_iam rfl rfl (by assumption) rfl ?_ | refine i_tk rfl rfl (by omega) ?_ | refine i_stb rfl ?_ | refine i_alloc rfl ?_ | refine i_box rfl rfl ?_ | refine i_nv rfl ?_ | refine c_node ?_ ?_ | refine i_g rfl (fun h => ?_) (fun h => ?_) | refine c_cond rfl (fun h => ?_) (fun h => ?_) | refine i_f rfl rfl (f_R1_Has _ _ (by omega)) rfl ?_)
    · refine e_ret ⟨rfl, _, rfl, congrArg (V.int .i64) ?_⟩
      have e : xs.find? (fun t => subB l b t) = some c := by
        conv => lhs; rw [← List.take_append_drop (k + 1) xs, take_succ_get hc]
        simp only [List.find?_append, hi]
        simp [List.find?, subB, of_decide_eq_true h]
      rw [e]; rfl
    · refine e_for hlt ?_ ⟨by repeat (first | exact trivial | refine ⟨rfl, ?_⟩), by repeat (first | exact trivial | refine ⟨rfl, ?_⟩), rfl⟩
      rw [take_succ_get hc, List.find?_append, hi]
      simp [List.find?, subB, of_decide_eq_false h]
  · have hge : ¬ k < xs.length := by simpa using h
    rw [List.take_of_length_le (by omega)] at hi
    repeat' (first | refine i_s rfl ?_ | refine c_seq ?_ | refine c_cut0 ?_ | refine c_ops ?_ | refine i_nil ?_ | refine e_seq ?_ | refine e_block ?_ | refine c_block ?_ | refine c_skip ?_ | refine c_ret ?_ | refine c_exit ?_ | refine e_exit rfl ?_ | refine i_s0 rfl ?_ | refine c_leaf ?_ | refine i_gt rfl ?_ | refine i_gf rfl ?_ | refine i_gd rfl ?_ | refine c_t rfl ?_ | refine c_f rfl ?_ | refine i_conv rfl (by simp only [InR, List.length_map]; omega) ?_ | refine i_add rfl rfl (by simp only [InR, List.length_map]; omega) ?_ | refine i_sub rfl rfl (by simp only [InR, List.length_map]; omega) ?_ | refine i_ixm rfl rfl (by assumption) ?_ | refine i_iam rfl rfl (by assumption) rfl ?_ | refine i_tk rfl rfl (by omega) ?_ | refine i_stb rfl ?_ | refine i_alloc rfl ?_ | refine i_box rfl rfl ?_ | refine i_nv rfl ?_ | refine c_node ?_ ?_ | refine i_g rfl (fun h => ?_) (fun h => ?_) | refine c_cond rfl (fun h => ?_) (fun h => ?_))
    exact e_ret ⟨rfl, _, rfl, congrArg (V.int .i64) (by rw [hi]; rfl)⟩
/-- Those of the first k objects. -/
def memK (l : List Typ) (os : List Obj) (t : Int) (k : Nat) : List Int := ((List.range k).filter fun i => match os[i]? with
  | some o => subB l o.type t
  | none => false).map Int.ofNat
theorem memK_succ {l : List Typ} {os : List Obj} {t : Int} {k : Nat} {o : Obj} (ho : os[k]? = some o) : memK l os t (k + 1) = memK l os t k ++ (if subB l o.type t = true then [(k : Int)] else []) := by
  unfold memK
  rw [List.range_succ, List.filter_append, List.map_append]
  congr 1
  simp only [List.filter, ho]
  split <;> simp_all
theorem memK_len {l : List Typ} {os : List Obj} {t : Int} {k : Nat} : (memK l os t k).length ≤ k := by
  unfold memK
  rw [List.length_map]
  exact Nat.le_trans (List.length_filter_le _ _) (by simp)
def c_R1_MembersOf : Cmd :=
  (.seq
   (.ops [
   .op (some 6) none (.mov (.c (.sl .nil [])))])
   (.cut
   (.seq
   (.ops [
   .op (some 7) none (.newVec 1472449)])
   (.cut
   (.seq
   (.seq
   (.ops [
   .op (some 8) none (.mov (.c (.int .i64 (0))))])
   (.cut
   (.block 0
   (.loop
   (.seq
   (.seq
   (.ops [
   .op (some 9) none (.mov (.t 8)),
   .op (some 10) none (.mov (.t 1)),
   .op (some 11) none (.len false (.t 10)),
   .op (some 12) none (.bin .lss false [] (.t 9) (.t 11))])
   (.cut
   (.cond (.t 12)
   .skip
   (.exit 0))))
   (.cut
   (.seq
   (.block 1
   (.seq
   (.ops [
   .op (some 15) none (.mov (.t 0)),
   .op (some 16) none (.mov (.t 1)),
   .op (some 17) none (.mov (.t 8)),
   .op (some 18) none (.iaddr 2 (.t 16) (.t 17)),
   .op (some 19) none (.faddr 1 (.t 18)),
   .op (some 20) none (.load false 1 (.t 19)),
   .op (some 21) none (.mov (.t 2)),
   .op (some 22) none (.call .f (.c (.fn 18 [])) [.t 15, .t 20, .t 21])])
   (.cut
   (.cond (.t 22)
   (.ops [
   .op (some 23) none (.mov (.t 7)),
   .op (some 24) none (.mov (.t 8)),
   .op (some 25) none (.bsl 1 [.t 24]),
   .op (some 26) none (.append 1 8 (.t 23) (.t 25)),
   .op (some 7) none (.mov (.t 26))])
   .skip))))
   (.cut
   (.ops [
   .op (some 13) none (.mov (.t 8)),
   .op (some 14) none (.bin .add false [] (.t 13) (.c (.int .i64 (1)))),
   .op (some 8) none (.mov (.t 14))])))))))))
   (.cut
   (.seq
   (.ops [
   .op (some 27) none (.mov (.t 7)),
   .op (some 6) none (.mov (.t 27))])
   .ret)))))))
def r_R1_MembersOf : List RVar := [.tmp 6]
def n_R1_MembersOf : Nat := 28
theorem k_R1_MembersOf : chkFn Go.Proofs.Try.prog 23 n_R1_MembersOf r_R1_MembersOf c_R1_MembersOf = true := by kernel_rfl
theorem f_R1_MembersOf (l : List Typ) (hv : TyValid l) (os : List Obj) (ho : os.length ≤ 8) (hr : ∀ o ∈ os, -1 ≤ o.type ∧ o.type < l.length) (t : Int) : Fc Go.Proofs.Try.prog 23 [.sl .p (l.map tyV), .sl .p (os.map obV), .int .i64 t] (.sl .p ((membersOf l os t).map i64V)) := by
  refine Fn.step mixed k_R1_MembersOf ?_
  repeat (first | refine i_s rfl ?_ | refine c_seq ?_ | refine c_cut0 ?_ | refine c_ops ?_ | refine i_nil ?_ | refine e_seq ?_ | refine e_block ?_ | refine c_block ?_ | refine c_skip ?_ | refine c_ret ?_ | refine c_exit ?_ | refine e_exit rfl ?_ | refine i_s0 rfl ?_ | refine c_leaf ?_ | refine i_gt rfl ?_ | refine i_gf rfl ?_ | refine i_gd rfl ?_ | refine c_t rfl ?_ | refine c_f rfl ?_ | refine i_conv rfl (by simp only [InR, List.length_map]; omega) ?_ | refine i_add rfl rfl (by simp only [InR, List.length_map]; omega) ?_ | refine i_sub rfl rfl (by simp only [InR, List.length_map]; omega) ?_ | refine i_ixm rfl rfl (by assumption) ?_ | refine i_iam rfl rfl (by assumption) rfl ?_ | refine i_tk rfl rfl (by omega) ?_ | refine i_stb rfl ?_ | refine i_alloc rfl ?_ | refine i_box rfl rfl ?_ | refine i_nv rfl ?_)
  refine c_for os.length (fun k => [(0, .sl .p (l.map tyV)), (1, .sl .p (os.map obV)), (2, .int .i64 t), (7, .sl (.own 1472449) ((memK l os t k).map i64V)), (8, .int .i64 k)]) (fun k => [(1472449, .vec (memK l os t k).length)]) (fun _ => True) trivial ⟨by repeat (first | exact trivial | refine ⟨rfl, ?_⟩), by repeat (first | exact trivial | refine ⟨rfl, ?_⟩), rfl⟩ fun k hk _ => ?_
  have hml := memK_len (l := l) (os := os) (t := t) (k := k)
  repeat (first | refine i_s rfl ?_ | refine c_seq ?_ | refine c_cut0 ?_ | refine c_ops ?_ | refine i_nil ?_ | refine e_seq ?_ | refine e_block ?_ | refine c_block ?_ | refine c_skip ?_ | refine c_ret ?_ | refine c_exit ?_ | refine e_exit rfl ?_ | refine i_s0 rfl ?_ | refine c_leaf ?_ | refine i_gt rfl ?_ | refine i_gf rfl ?_ | refine i_gd rfl ?_ | refine c_t rfl ?_ | refine c_f rfl ?_ | refine i_conv rfl (by simp only [InR, List.length_map]; omega) ?_ | refine i_add rfl rfl (by simp only [InR, List.length_map]; omega) ?_ | refine i_sub rfl rfl (by simp only [InR, List.length_map]; omega) ?_ | refine i_ixm rfl rfl (by assumption) ?_ | refine i_iam rfl rfl (by assumption) rfl ?_ | refine i_tk rfl rfl (by omega) ?_ | refine i_stb rfl ?_ | refine i_alloc rfl ?_ | refine i_box rfl rfl ?_ | refine i_nv rfl ?_)
  refine c_cond rfl (fun h => ?_) (fun h => ?_)
  · have hlt : k < os.length := by simpa using h
    obtain ⟨o, hc⟩ := get_some hlt
    have := hr o (mem_get hc)
    clear h
    repeat' (first | refine i_s rfl ?_ | refine c_seq ?_ | refine c_cut0 ?_ | refine c_ops ?_ | refine i_nil ?_ | refine e_seq ?_ | refine e_block ?_ | refine c_block ?_ | refine c_skip ?_ | refine c_ret ?_ | refine c_exit ?_ | refine e_exit rfl ?_ | refine i_s0 rfl ?_ | refine c_leaf ?_ | refine i_gt rfl ?_ | refine i_gf rfl ?_ | refine i_gd rfl ?_ | refine c_t rfl ?_ | refine c_f rfl ?_ | refine i_conv rfl (by simp only [InR, List.length_map]; omega) ?_ | refine i_add rfl rfl (by simp only [InR, List.length_map]; omega) ?_ | refine i_sub rfl rfl (by simp only [InR, List.length_map]; omega) ?_ | refine i_ixm rfl rfl (by assumption) ?_ | refine i_iam rfl rfl (by assumption) rfl ?_ | refine i_tk rfl rfl (by omega) ?_ | refine i_stb rfl ?_ | refine i_alloc rfl ?_ | refine i_box rfl rfl ?_ | refine i_nv rfl ?_ | refine c_node ?_ ?_ | refine i_g rfl (fun h => ?_) (fun h => ?_) | refine c_cond rfl (fun h => ?_) (fun h => ?_) | refine i_f rfl rfl (f_R1_Sub l hv o.type t this.1 this.2) rfl ?_)
    · refine i_appM rfl rfl rfl rfl rfl (by omega) (by omega) ?_
      repeat' (first | refine i_s rfl ?_ | refine c_seq ?_ | refine c_cut0 ?_ | refine c_ops ?_ | refine i_nil ?_ | refine e_seq ?_ | refine e_block ?_ | refine c_block ?_ | refine c_skip ?_ | refine c_ret ?_ | refine c_exit ?_ | refine e_exit rfl ?_ | refine i_s0 rfl ?_ | refine c_leaf ?_ | refine i_gt rfl ?_ | refine i_gf rfl ?_ | refine i_gd rfl ?_ | refine c_t rfl ?_ | refine c_f rfl ?_ | refine i_conv rfl (by simp only [InR, List.length_map]; omega) ?_ | refine i_add rfl rfl (by simp only [InR, List.length_map]; omega) ?_ | refine i_sub rfl rfl (by simp only [InR, List.length_map]; omega) ?_ | refine i_ixm rfl rfl (by assumption) ?_ | refine i_iam rfl rfl (by assumption) rfl ?_ | refine i_tk rfl rfl (by omega) ?_ | refine i_stb rfl ?_ | refine i_alloc rfl ?_ | refine i_box rfl rfl ?_ | refine i_nv rfl ?_ | refine c_node ?_ ?_ | refine i_g rfl (fun h => ?_) (fun h => ?_) | refine c_cond rfl (fun h => ?_) (fun h => ?_))
      refine e_for hlt trivial ⟨⟨rfl, rfl, rfl, ?_, rfl, trivial⟩, ⟨?_, trivial⟩, rfl⟩
      · rw [memK_succ hc, if_pos h]; rfl
      · rw [memK_succ hc, if_pos h]; simp; rfl
    · refine e_for hlt trivial ⟨⟨rfl, rfl, rfl, ?_, rfl, trivial⟩, ⟨?_, trivial⟩, rfl⟩
      · rw [memK_succ hc, if_neg (by simp [h])]; simp; rfl
      · rw [memK_succ hc, if_neg (by simp [h])]; simp; rfl
  · have hge : ¬ k < os.length := by simpa using h
    have e : k = os.length := by omega
    subst e
    repeat' (first | refine i_s rfl ?_ | refine c_seq ?_ | refine c_cut0 ?_ | refine c_ops ?_ | refine i_nil ?_ | refine e_seq ?_ | refine e_block ?_ | refine c_block ?_ | refine c_skip ?_ | refine c_ret ?_ | refine c_exit ?_ | refine e_exit rfl ?_ | refine i_s0 rfl ?_ | refine c_leaf ?_ | refine i_gt rfl ?_ | refine i_gf rfl ?_ | refine i_gd rfl ?_ | refine c_t rfl ?_ | refine c_f rfl ?_ | refine i_conv rfl (by simp only [InR, List.length_map]; omega) ?_ | refine i_add rfl rfl (by simp only [InR, List.length_map]; omega) ?_ | refine i_sub rfl rfl (by simp only [InR, List.length_map]; omega) ?_ | refine i_ixm rfl rfl (by assumption) ?_ | refine i_iam rfl rfl (by assumption) rfl ?_ | refine i_tk rfl rfl (by omega) ?_ | refine i_stb rfl ?_ | refine i_alloc rfl ?_ | refine i_box rfl rfl ?_ | refine i_nv rfl ?_ | refine c_node ?_ ?_ | refine i_g rfl (fun h => ?_) (fun h => ?_) | refine c_cond rfl (fun h => ?_) (fun h => ?_))
    exact e_ret ⟨rfl, _, rfl, rfl⟩
end Hm
end

section
/- Contracts: supertypes, as the program finds them. -/
namespace Hm
open Go
set_option maxRecDepth 100000
set_option linter.unusedSimpArgs false
set_option linter.unusedVariables false
def c_types_Above : Cmd :=
  (.seq
   (.ops [
   .op (some 2) none (.box 2752129 1 (.t 0)),
   .op (some 3) none (.box 2752193 1 (.t 1)),
   .op (some 4) none (.mov (.c (.nilfn)))])
   (.cut
   (.seq
   (.ops [
   .op (some 5) none (.mkfn 60 [.t 3, .t 2]),
   .op (some 4) none (.mov (.t 5))])
   .ret)))
def r_types_Above : List RVar := [.tmp 4]
def n_types_Above : Nat := 6
theorem k_types_Above : chkFn Go.Proofs.Try.prog 43 n_types_Above r_types_Above c_types_Above = true := by kernel_rfl
theorem c_types_Above_ct {G : Type} {H : HT G} (l : List Typ) (t : Int) (σ : Store) (g : G) (h1 : σ 2752129 = .unused) (h2 : σ 2752193 = .unused) (hp : ∀ nm, σ nm ≠ .unused → nm ∈ [2752129, 2752193]) :
    Cc Go.Proofs.Try.prog H 43 [.sl .p (l.map tyV), .int .i64 t] [2752129, 2752193] σ g fun r σ' g' => r = .fn 60 [.bptr 2752193 0, .bptr 2752129 0] ∧ σ' = stOf [(2752129, .box (.sl .p (l.map tyV))), (2752193, .box (.int .i64 t))] ∧ g' = g := by
  refine CT.step _ mixed k_types_Above hp fun hM => ?_
  repeat (first | refine i_s rfl ?_ | refine c_seq ?_ | refine c_cut0 ?_ | refine c_ops ?_ | refine i_nil ?_ | refine e_seq ?_ | refine e_block ?_ | refine c_block ?_ | refine c_skip ?_ | refine c_ret ?_ | refine c_exit ?_ | refine e_exit rfl ?_ | refine i_s0 rfl ?_ | refine c_leaf ?_ | refine i_gt rfl ?_ | refine i_gf rfl ?_ | refine i_gd rfl ?_ | refine c_t rfl ?_ | refine c_f rfl ?_ | refine i_conv rfl (by simp only [InR, List.length_map]; omega) ?_ | refine i_add rfl rfl (by simp only [InR, List.length_map]; omega) ?_ | refine i_sub rfl rfl (by simp only [InR, List.length_map]; omega) ?_ | refine i_ixm rfl rfl (by assumption) ?_ | refine i_iam rfl rfl (by assumption) rfl ?_ | refine i_tk rfl rfl (by omega) ?_ | refine i_stb rfl ?_ | refine i_alloc rfl ?_ | refine i_box rfl rfl ?_ | refine i_nv rfl ?_)
  refine i_box h1 rfl ?_
  refine i_box h2 rfl ?_
  repeat' (first | refine i_s rfl ?_ | refine c_seq ?_ | refine c_cut0 ?_ | refine c_ops ?_ | refine i_nil ?_ | refine e_seq ?_ | refine e_block ?_ | refine c_block ?_ | refine c_skip ?_ | refine c_ret ?_ | refine c_exit ?_ | refine e_exit rfl ?_ | refine i_s0 rfl ?_ | refine c_leaf ?_ | refine i_gt rfl ?_ | refine i_gf rfl ?_ | refine i_gd rfl ?_ | refine c_t rfl ?_ | refine c_f rfl ?_ | refine i_conv rfl (by simp only [InR, List.length_map]; omega) ?_ | refine i_add rfl rfl (by simp only [InR, List.length_map]; omega) ?_ | refine i_sub rfl rfl (by simp only [InR, List.length_map]; omega) ?_ | refine i_ixm rfl rfl (by assumption) ?_ | refine i_iam rfl rfl (by assumption) rfl ?_ | refine i_tk rfl rfl (by omega) ?_ | refine i_stb rfl ?_ | refine i_alloc rfl ?_ | refine i_box rfl rfl ?_ | refine i_nv rfl ?_ | refine c_node ?_ ?_ | refine i_g rfl (fun h => ?_) (fun h => ?_) | refine c_cond rfl (fun h => ?_) (fun h => ?_))
  exact e_ret ⟨rfl, _, rfl, rfl, rfl, rfl, restr_stOf _ _, rfl⟩
def c_types_Above_1 : Cmd :=
  (.seq
   (.block 0
   (.loop
   (.seq
   (.seq
   (.ops [
   .op (some 4) none (.load false 1 (.t 1)),
   .op (some 5) none (.bin .geq false [] (.t 4) (.c (.int .i64 (0))))])
   (.cut
   (.cond (.t 5)
   .skip
   (.exit 0))))
   (.cut
   (.seq
   (.block 1
   (.seq
   (.ops [
   .op (some 11) none (.mov (.t 0)),
   .op (some 12) none (.load false 1 (.t 1)),
   .op (some 13) none (.call .y (.t 11) [.t 12]),
   .op (some 14) none (.not (.t 13))])
   (.cut
   (.cond (.t 14)
   .ret
   .skip))))
   (.cut
   (.ops [
   .op (some 6) none (.load false 1 (.t 2)),
   .op (some 7) none (.load false 1 (.t 1)),
   .op (some 8) none (.iaddr 2 (.t 6) (.t 7)),
   .op (some 9) none (.faddr 1 (.t 8)),
   .op (some 10) none (.load false 1 (.t 9)),
   .op none none (.store 1 (.t 1) (.t 10))])))))))
   (.cut
   (.ops [
   .op (some 15) none (.mov (.t 0)),
   .op (some 16) none (.call .y (.t 15) [.c (.int .i64 (-1))])])))
def r_types_Above_1 : List RVar := []
def n_types_Above_1 : Nat := 17
theorem k_types_Above_1 : chkFn Go.Proofs.Try.prog 60 n_types_Above_1 r_types_Above_1 c_types_Above_1 = true := by kernel_rfl
theorem c_types_Above_1_ct {G : Type} {H : HT G} (l : List Typ) (hv : TyValid l) (t0 : Int) (h00 : -1 ≤ t0) (h01 : t0 < l.length) (g0 : G) (K : G → Prop) (hy0 : YL H ((supers l t0).map fun n => [V.int .i64 n]) g0 K) :
    Cc Go.Proofs.Try.prog H 60 [.rnd, .bptr 2752193 0, .bptr 2752129 0] [2752129, 2752193] (stOf [(2752129, .box (.sl .p (l.map tyV))), (2752193, .box (.int .i64 t0))]) g0
      fun _ σ' g' => (∃ t' : Int, σ' = stOf [(2752129, .box (.sl .p (l.map tyV))), (2752193, .box (.int .i64 t'))]) ∧ K g' := by
  refine CT.step _ mixed k_types_Above_1 (fun nm hnm => stOf_mem _ nm hnm) fun hM => ?_
  repeat (first | refine i_s rfl ?_ | refine c_seq ?_ | refine c_cut0 ?_ | refine c_ops ?_ | refine i_nil ?_ | refine e_seq ?_ | refine e_block ?_ | refine c_block ?_ | refine c_skip ?_ | refine c_ret ?_ | refine c_exit ?_ | refine e_exit rfl ?_ | refine i_s0 rfl ?_ | refine c_leaf ?_ | refine i_gt rfl ?_ | refine i_gf rfl ?_ | refine i_gd rfl ?_ | refine c_t rfl ?_ | refine c_f rfl ?_ | refine i_conv rfl (by simp only [InR, List.length_map]; omega) ?_ | refine i_add rfl rfl (by simp only [InR, List.length_map]; omega) ?_ | refine i_sub rfl rfl (by simp only [InR, List.length_map]; omega) ?_ | refine i_ixm rfl rfl (by assumption) ?_ | refine i_iam rfl rfl (by assumption) rfl ?_ | refine i_tk rfl rfl (by omega) ?_ | refine i_stb rfl ?_ | refine i_alloc rfl ?_ | refine i_box rfl rfl ?_ | refine i_nv rfl ?_)
  refine c_loop (ι := Int × G) (fun _ => [(0, .rnd), (1, .bptr 2752193 0), (2, .bptr 2752129 0)]) (fun i => [(2752129, .box (.sl .p (l.map tyV))), (2752193, .box (.int .i64 i.1))]) (fun i => i.2)
    (fun i => -1 ≤ i.1 ∧ i.1 < l.length ∧ YL H ((supers l i.1).map fun n => [V.int .i64 n]) i.2 K) (fun i => (i.1 + 1).toNat) (t0, g0) ⟨h00, h01, hy0⟩ ⟨by repeat (first | exact trivial | refine ⟨rfl, ?_⟩), by repeat (first | exact trivial | refine ⟨rfl, ?_⟩), rfl⟩ rfl fun i hi => ?_
  obtain ⟨t, g⟩ := i
  obtain ⟨h0, h1, hy⟩ := hi
  simp only at h0 h1 hy
  clear h00 h01 hy0
  repeat (first | refine i_s rfl ?_ | refine c_seq ?_ | refine c_cut0 ?_ | refine c_ops ?_ | refine i_nil ?_ | refine e_seq ?_ | refine e_block ?_ | refine c_block ?_ | refine c_skip ?_ | refine c_ret ?_ | refine c_exit ?_ | refine e_exit rfl ?_ | refine i_s0 rfl ?_ | refine c_leaf ?_ | refine i_gt rfl ?_ | refine i_gf rfl ?_ | refine i_gd rfl ?_ | refine c_t rfl ?_ | refine c_f rfl ?_ | refine i_conv rfl (by simp only [InR, List.length_map]; omega) ?_ | refine i_add rfl rfl (by simp only [InR, List.length_map]; omega) ?_ | refine i_sub rfl rfl (by simp only [InR, List.length_map]; omega) ?_ | refine i_ixm rfl rfl (by assumption) ?_ | refine i_iam rfl rfl (by assumption) rfl ?_ | refine i_tk rfl rfl (by omega) ?_ | refine i_stb rfl ?_ | refine i_alloc rfl ?_ | refine i_box rfl rfl ?_ | refine i_nv rfl ?_)
  refine c_cond rfl (fun h => ?_) (fun h => ?_)
  · have hge := of_decide_eq_true h
    obtain ⟨x, hx, hp, h2, h3⟩ := parent_ok hv hge h1
    rw [supers_cons hv hge h1 hx] at hy
    repeat (first | refine i_s rfl ?_ | refine c_seq ?_ | refine c_cut0 ?_ | refine c_ops ?_ | refine i_nil ?_ | refine e_seq ?_ | refine e_block ?_ | refine c_block ?_ | refine c_skip ?_ | refine c_ret ?_ | refine c_exit ?_ | refine e_exit rfl ?_ | refine i_s0 rfl ?_ | refine c_leaf ?_ | refine i_gt rfl ?_ | refine i_gf rfl ?_ | refine i_gd rfl ?_ | refine c_t rfl ?_ | refine c_f rfl ?_ | refine i_conv rfl (by simp only [InR, List.length_map]; omega) ?_ | refine i_add rfl rfl (by simp only [InR, List.length_map]; omega) ?_ | refine i_sub rfl rfl (by simp only [InR, List.length_map]; omega) ?_ | refine i_ixm rfl rfl (by assumption) ?_ | refine i_iam rfl rfl (by assumption) rfl ?_ | refine i_tk rfl rfl (by omega) ?_ | refine i_stb rfl ?_ | refine i_alloc rfl ?_ | refine i_box rfl rfl ?_ | refine i_nv rfl ?_)
    refine i_y hM rfl rfl rfl (hM _ _ _ _ (fun u g' hu => ?_) hy)
    rcases hu with ⟨rfl, hu⟩ | ⟨rfl, hu⟩
    · repeat (first | refine i_s rfl ?_ | refine c_seq ?_ | refine c_cut0 ?_ | refine c_ops ?_ | refine i_nil ?_ | refine e_seq ?_ | refine e_block ?_ | refine c_block ?_ | refine c_skip ?_ | refine c_ret ?_ | refine c_exit ?_ | refine e_exit rfl ?_ | refine i_s0 rfl ?_ | refine c_leaf ?_ | refine i_gt rfl ?_ | refine i_gf rfl ?_ | refine i_gd rfl ?_ | refine c_t rfl ?_ | refine c_f rfl ?_ | refine i_conv rfl (by simp only [InR, List.length_map]; omega) ?_ | refine i_add rfl rfl (by simp only [InR, List.length_map]; omega) ?_ | refine i_sub rfl rfl (by simp only [InR, List.length_map]; omega) ?_ | refine i_ixm rfl rfl (by assumption) ?_ | refine i_iam rfl rfl (by assumption) rfl ?_ | refine i_tk rfl rfl (by omega) ?_ | refine i_stb rfl ?_ | refine i_alloc rfl ?_ | refine i_box rfl rfl ?_ | refine i_nv rfl ?_)
      refine i_iai rfl rfl hge hx rfl ?_
      repeat (first | refine i_s rfl ?_ | refine c_seq ?_ | refine c_cut0 ?_ | refine c_ops ?_ | refine i_nil ?_ | refine e_seq ?_ | refine e_block ?_ | refine c_block ?_ | refine c_skip ?_ | refine c_ret ?_ | refine c_exit ?_ | refine e_exit rfl ?_ | refine i_s0 rfl ?_ | refine c_leaf ?_ | refine i_gt rfl ?_ | refine i_gf rfl ?_ | refine i_gd rfl ?_ | refine c_t rfl ?_ | refine c_f rfl ?_ | refine i_conv rfl (by simp only [InR, List.length_map]; omega) ?_ | refine i_add rfl rfl (by simp only [InR, List.length_map]; omega) ?_ | refine i_sub rfl rfl (by simp only [InR, List.length_map]; omega) ?_ | refine i_ixm rfl rfl (by assumption) ?_ | refine i_iam rfl rfl (by assumption) rfl ?_ | refine i_tk rfl rfl (by omega) ?_ | refine i_stb rfl ?_ | refine i_alloc rfl ?_ | refine i_box rfl rfl ?_ | refine i_nv rfl ?_)
      exact e_loop ⟨(x.parent, g'), ⟨h2, by simp only; omega, hu⟩, ⟨by repeat (first | exact trivial | refine ⟨rfl, ?_⟩), by repeat (first | exact trivial | refine ⟨rfl, ?_⟩), rfl⟩, rfl, by simp only; omega⟩
    · repeat (first | refine i_s rfl ?_ | refine c_seq ?_ | refine c_cut0 ?_ | refine c_ops ?_ | refine i_nil ?_ | refine e_seq ?_ | refine e_block ?_ | refine c_block ?_ | refine c_skip ?_ | refine c_ret ?_ | refine c_exit ?_ | refine e_exit rfl ?_ | refine i_s0 rfl ?_ | refine c_leaf ?_ | refine i_gt rfl ?_ | refine i_gf rfl ?_ | refine i_gd rfl ?_ | refine c_t rfl ?_ | refine c_f rfl ?_ | refine i_conv rfl (by simp only [InR, List.length_map]; omega) ?_ | refine i_add rfl rfl (by simp only [InR, List.length_map]; omega) ?_ | refine i_sub rfl rfl (by simp only [InR, List.length_map]; omega) ?_ | refine i_ixm rfl rfl (by assumption) ?_ | refine i_iam rfl rfl (by assumption) rfl ?_ | refine i_tk rfl rfl (by omega) ?_ | refine i_stb rfl ?_ | refine i_alloc rfl ?_ | refine i_box rfl rfl ?_ | refine i_nv rfl ?_)
      exact e_ret ⟨rfl, _, rfl, rfl, rfl, ⟨t, restr_stOf _ _⟩, hu⟩
  · have hlt : t < 0 := by have := of_decide_eq_false h; omega
    rw [supers_neg hlt] at hy
    repeat (first | refine i_s rfl ?_ | refine c_seq ?_ | refine c_cut0 ?_ | refine c_ops ?_ | refine i_nil ?_ | refine e_seq ?_ | refine e_block ?_ | refine c_block ?_ | refine c_skip ?_ | refine c_ret ?_ | refine c_exit ?_ | refine e_exit rfl ?_ | refine i_s0 rfl ?_ | refine c_leaf ?_ | refine i_gt rfl ?_ | refine i_gf rfl ?_ | refine i_gd rfl ?_ | refine c_t rfl ?_ | refine c_f rfl ?_ | refine i_conv rfl (by simp only [InR, List.length_map]; omega) ?_ | refine i_add rfl rfl (by simp only [InR, List.length_map]; omega) ?_ | refine i_sub rfl rfl (by simp only [InR, List.length_map]; omega) ?_ | refine i_ixm rfl rfl (by assumption) ?_ | refine i_iam rfl rfl (by assumption) rfl ?_ | refine i_tk rfl rfl (by omega) ?_ | refine i_stb rfl ?_ | refine i_alloc rfl ?_ | refine i_box rfl rfl ?_ | refine i_nv rfl ?_)
    refine i_y hM rfl rfl rfl (hM _ _ _ _ (fun u g' hu => ?_) hy)
    repeat (first | refine i_s rfl ?_ | refine c_seq ?_ | refine c_cut0 ?_ | refine c_ops ?_ | refine i_nil ?_ | refine e_seq ?_ | refine e_block ?_ | refine c_block ?_ | refine c_skip ?_ | refine c_ret ?_ | refine c_exit ?_ | refine e_exit rfl ?_ | refine i_s0 rfl ?_ | refine c_leaf ?_ | refine i_gt rfl ?_ | refine i_gf rfl ?_ | refine i_gd rfl ?_ | refine c_t rfl ?_ | refine c_f rfl ?_ | refine i_conv rfl (by simp only [InR, List.length_map]; omega) ?_ | refine i_add rfl rfl (by simp only [InR, List.length_map]; omega) ?_ | refine i_sub rfl rfl (by simp only [InR, List.length_map]; omega) ?_ | refine i_ixm rfl rfl (by assumption) ?_ | refine i_iam rfl rfl (by assumption) rfl ?_ | refine i_tk rfl rfl (by omega) ?_ | refine i_stb rfl ?_ | refine i_alloc rfl ?_ | refine i_box rfl rfl ?_ | refine i_nv rfl ?_)
    refine e_end ⟨rfl, _, rfl, rfl, rfl, ⟨t, restr_stOf _ _⟩, ?_⟩
    rcases hu with ⟨_, hu⟩ | ⟨_, hu⟩ <;> exact hu
def c_types_Is : Cmd :=
  (.seq
   (.ops [
   .op (some 5) none (.box 2688321 1 (.t 2)),
   .op (some 6) none (.alloc 2688385 (.bool false))])
   (.cut
   (.seq
   (.seq
   (.ops [
   .op (some 8) none (.mov (.t 0)),
   .op (some 9) none (.mov (.t 1)),
   .op (some 10) none (.call (.s [2752129,2752193]) (.c (.fn 43 [])) [.t 8, .t 9])])
   (.cut
   (.block 0
   (.rangeF [2752129,2752193] (.t 10) [11]
   (.ops [
   .op (some 7) none (.mov (.t 11))])
   (.block 1
   (.seq
   (.ops [
   .op (some 12) none (.mov (.t 7)),
   .op (some 13) none (.load false 1 (.t 5)),
   .op (some 14) none (.bin .eql false [.i] (.t 12) (.t 13))])
   (.cut
   (.cond (.t 14)
   (.seq
   (.ops [
   .op none none (.store 1 (.t 6) (.c (.bool true)))])
   .ret)
   .skip))))))))
   (.cut
   (.seq
   (.ops [
   .op none none (.store 1 (.t 6) (.c (.bool false)))])
   .ret)))))
def r_types_Is : List RVar := [.cell false 1 6]
def n_types_Is : Nat := 15
theorem k_types_Is : chkFn Go.Proofs.Try.prog 42 n_types_Is r_types_Is c_types_Is = true := by kernel_rfl
theorem f_types_Is (l : List Typ) (hv : TyValid l) (a b : Int) (h0 : -1 ≤ a) (h1 : a < l.length) : Fc Go.Proofs.Try.prog 42 [.sl .p (l.map tyV), .int .i64 a, .int .i64 b] (.bool (subB l a b)) := by
  refine Fn.step mixed k_types_Is ?_
  repeat (first | refine i_s rfl ?_ | refine c_seq ?_ | refine c_cut0 ?_ | refine c_ops ?_ | refine i_nil ?_ | refine e_seq ?_ | refine e_block ?_ | refine c_block ?_ | refine c_skip ?_ | refine c_ret ?_ | refine c_exit ?_ | refine e_exit rfl ?_ | refine i_s0 rfl ?_ | refine c_leaf ?_ | refine i_gt rfl ?_ | refine i_gf rfl ?_ | refine i_gd rfl ?_ | refine c_t rfl ?_ | refine c_f rfl ?_ | refine i_conv rfl (by simp only [InR, List.length_map]; omega) ?_ | refine i_add rfl rfl (by simp only [InR, List.length_map]; omega) ?_ | refine i_sub rfl rfl (by simp only [InR, List.length_map]; omega) ?_ | refine i_ixm rfl rfl (by assumption) ?_ | refine i_iam rfl rfl (by assumption) rfl ?_ | refine i_tk rfl rfl (by omega) ?_ | refine i_stb rfl ?_ | refine i_alloc rfl ?_ | refine i_box rfl rfl ?_ | refine i_nv rfl ?_)
  refine i_c rfl rfl rfl (c_types_Above_ct l a _ _ rfl rfl fun nm h => restr_mem nm h) ?_
  rintro _ _ _ ⟨rfl, rfl, rfl⟩
  repeat (first | refine i_s rfl ?_ | refine c_seq ?_ | refine c_cut0 ?_ | refine c_ops ?_ | refine i_nil ?_ | refine e_seq ?_ | refine e_block ?_ | refine c_block ?_ | refine c_skip ?_ | refine c_ret ?_ | refine c_exit ?_ | refine e_exit rfl ?_ | refine i_s0 rfl ?_ | refine c_leaf ?_ | refine i_gt rfl ?_ | refine i_gf rfl ?_ | refine i_gd rfl ?_ | refine c_t rfl ?_ | refine c_f rfl ?_ | refine i_conv rfl (by simp only [InR, List.length_map]; omega) ?_ | refine i_add rfl rfl (by simp only [InR, List.length_map]; omega) ?_ | refine i_sub rfl rfl (by simp only [InR, List.length_map]; omega) ?_ | refine i_ixm rfl rfl (by assumption) ?_ | refine i_iam rfl rfl (by assumption) rfl ?_ | refine i_tk rfl rfl (by omega) ?_ | refine i_stb rfl ?_ | refine i_alloc rfl ?_ | refine i_box rfl rfl ?_ | refine i_nv rfl ?_)
  refine c_rangeS [(5, .bptr 2688321 0), (6, .bptr 2688385 0)] [(2752129, .box (.sl .p (l.map tyV))), (2752193, .box (.int .i64 a)), (2688321, .box (.int .i64 b)), (2688385, .box (.bool false))] [2688321, 2688385]
    [(2752129, .box (.sl .p (l.map tyV))), (2752193, .box (.int .i64 a))] [(2688321, .box (.int .i64 b)), (2688385, .box (.bool false))] rfl ⟨by repeat (first | exact trivial | refine ⟨rfl, ?_⟩), by repeat (first | exact trivial | refine ⟨rfl, ?_⟩), rfl⟩ rfl rfl rfl rfl ?_
  refine Cc_mono ?_ (c_types_Above_1_ct l hv a h0 h1 _
    (fun st => if subB l a b = true then st = (stOf [(2688321, .box (.int .i64 b)), (2688385, .box (.bool true))], (), some .ret) else st = (stOf [(2688321, .box (.int .i64 b)), (2688385, .box (.bool false))], (), none))
    (YL_find (fun c => decide (c = b)) (fun _ => (stOf [(2688321, .box (.int .i64 b)), (2688385, .box (.bool true))], (), some .ret)) (RHm noH_mono) (supers l a) ?_ ?_))
  · rintro _ σ' st ⟨⟨t', rfl⟩, hst⟩
    split at hst
    · subst hst
      rename_i hs
      refine ⟨rfl, ?_⟩
      exact e_ret ⟨rfl, _, rfl, by rw [hs]; rfl⟩
    · subst hst
      rename_i hs
      refine ⟨rfl, ?_⟩
      show WE _ _ _ _ _ .normal _ _ _
      repeat (first | refine i_s rfl ?_ | refine c_seq ?_ | refine c_cut0 ?_ | refine c_ops ?_ | refine i_nil ?_ | refine e_seq ?_ | refine e_block ?_ | refine c_block ?_ | refine c_skip ?_ | refine c_ret ?_ | refine c_exit ?_ | refine e_exit rfl ?_ | refine i_s0 rfl ?_ | refine c_leaf ?_ | refine i_gt rfl ?_ | refine i_gf rfl ?_ | refine i_gd rfl ?_ | refine c_t rfl ?_ | refine c_f rfl ?_ | refine i_conv rfl (by simp only [InR, List.length_map]; omega) ?_ | refine i_add rfl rfl (by simp only [InR, List.length_map]; omega) ?_ | refine i_sub rfl rfl (by simp only [InR, List.length_map]; omega) ?_ | refine i_ixm rfl rfl (by assumption) ?_ | refine i_iam rfl rfl (by assumption) rfl ?_ | refine i_tk rfl rfl (by omega) ?_ | refine i_stb rfl ?_ | refine i_alloc rfl ?_ | refine i_box rfl rfl ?_ | refine i_nv rfl ?_)
      exact e_ret ⟨rfl, _, rfl, by rw [Bool.not_eq_true] at hs; rw [hs]; rfl⟩
  · intro c hc K hk1 hk2
    refine rh_intro noH_mono rfl ?_
    repeat (first | refine i_s rfl ?_ | refine c_seq ?_ | refine c_cut0 ?_ | refine c_ops ?_ | refine i_nil ?_ | refine e_seq ?_ | refine e_block ?_ | refine c_block ?_ | refine c_skip ?_ | refine c_ret ?_ | refine c_exit ?_ | refine e_exit rfl ?_ | refine i_s0 rfl ?_ | refine c_leaf ?_ | refine i_gt rfl ?_ | refine i_gf rfl ?_ | refine i_gd rfl ?_ | refine c_t rfl ?_ | refine c_f rfl ?_ | refine i_conv rfl (by simp only [InR, List.length_map]; omega) ?_ | refine i_add rfl rfl (by simp only [InR, List.length_map]; omega) ?_ | refine i_sub rfl rfl (by simp only [InR, List.length_map]; omega) ?_ | refine i_ixm rfl rfl (by assumption) ?_ | refine i_iam rfl rfl (by assumption) rfl ?_ | refine i_tk rfl rfl (by omega) ?_ | refine i_stb rfl ?_ | refine i_alloc rfl ?_ | refine i_box rfl rfl ?_ | refine i_nv rfl ?_)
    refine e_end ?_
    show WC _ _ _ _ [] _ _ _ _
    repeat' (first | refine i_s rfl ?_ | refine c_seq ?_ | refine c_cut0 ?_ | refine c_ops ?_ | refine i_nil ?_ | refine e_seq ?_ | refine e_block ?_ | refine c_block ?_ | refine c_skip ?_ | refine c_ret ?_ | refine c_exit ?_ | refine e_exit rfl ?_ | refine i_s0 rfl ?_ | refine c_leaf ?_ | refine i_gt rfl ?_ | refine i_gf rfl ?_ | refine i_gd rfl ?_ | refine c_t rfl ?_ | refine c_f rfl ?_ | refine i_conv rfl (by simp only [InR, List.length_map]; omega) ?_ | refine i_add rfl rfl (by simp only [InR, List.length_map]; omega) ?_ | refine i_sub rfl rfl (by simp only [InR, List.length_map]; omega) ?_ | refine i_ixm rfl rfl (by assumption) ?_ | refine i_iam rfl rfl (by assumption) rfl ?_ | refine i_tk rfl rfl (by omega) ?_ | refine i_stb rfl ?_ | refine i_alloc rfl ?_ | refine i_box rfl rfl ?_ | refine i_nv rfl ?_ | refine c_node ?_ ?_ | refine i_g rfl (fun h => ?_) (fun h => ?_) | refine c_cond rfl (fun h => ?_) (fun h => ?_))
    · refine e_ret ?_
      exact rhq_r rfl rfl (hk1 (by simpa using h))
    · refine e_end ?_
      exact rhq_n rfl rfl (hk2 (by simpa using h))
  · unfold subB
    cases hf : (supers l a).find? (fun c => decide (c = b)) with
    | none =>
      have : ¬ b ∈ supers l a := fun hm => by
        have := List.find?_eq_none.1 hf b hm
        simp at this
      simp [this]
    | some c =>
      have h1 := List.find?_some hf
      have h2 := List.mem_of_find?_eq_some hf
      have : b ∈ supers l a := by simp at h1; rw [← h1]; exact h2
      simp [this]
end Hm
end

section
/- Contracts: the exported functions of package types. -/
namespace Hm
open Go
set_option maxRecDepth 100000
set_option linter.unusedSimpArgs false
set_option linter.unusedVariables false
theorem checkF_valid {l : List Typ} {us : List Int} (h : checkF l us = okF) : TyValid l ∧ ∀ a ∈ us, -1 ≤ a ∧ a < l.length := by
  unfold checkF at h
  split at h
  · rename_i h1
    refine ⟨typesFault_valid h1, fun a ha => ?_⟩
    split at h
    · cases h
    · rename_i h2
      rw [Bool.not_eq_true, List.any_eq_false] at h2
      have := h2 a ha
      simp [badT] at this
      omega
  · rename_i h1
    exact absurd h h1
theorem checkF_code (l : List Typ) (us : List Int) : (checkF l us).code = 0 ↔ checkF l us = okF := by
  refine ⟨fun h => ?_, fun h => by rw [h]; rfl⟩
  unfold checkF at h ⊢
  split at h
  · rename_i h1
    split at h
    · cases h
    · rename_i h2
      rw [if_pos h1, if_neg h2]
  · rename_i h1
    rw [if_neg h1, ← typesFault_code]
    exact h
theorem ftV_eta (f : Flt) : ftV f = .agg [.int .i64 f.code, .int .i64 f.index] := rfl
def c_types_Sub : Cmd :=
  (.seq
   (.ops [
   .op (some 6) none (.mov (.c (.bool false))),
   .op (some 7) none (.alloc 1024450 (.agg [.int .i64 (0), .int .i64 (0)]))])
   (.cut
   (.seq
   (.seq
   (.ops [
   .op (some 9) none (.mov (.t 0)),
   .op (some 10) none (.mov (.t 1)),
   .op (some 11) none (.mov (.t 2)),
   .op (some 12) none (.bsl 1 [.t 10, .t 11]),
   .op (some 13) none (.call .f (.c (.fn 41 [])) [.t 9, .t 12]),
   .op (some 8) none (.alloc 1024514 (.agg [.int .i64 (0), .int .i64 (0)])),
   .op none none (.store 2 (.t 8) (.t 13))])
   (.cut
   (.seq
   (.ops [
   .op (some 14) none (.load true 2 (.t 8)),
   .op (some 15) none (.build [.int .i64 (0), .int .i64 (0)] []),
   .op (some 16) none (.bin .neq true [.i, .i] (.t 14) (.t 15))])
   (.cut
   (.cond (.t 16)
   (.seq
   (.ops [
   .op (some 17) none (.load true 2 (.t 8)),
   .op (some 6) none (.mov (.c (.bool false))),
   .op none none (.store 2 (.t 7) (.t 17))])
   .ret)
   .skip)))))
   (.cut
   (.seq
   (.ops [
   .op (some 18) none (.mov (.t 0)),
   .op (some 19) none (.mov (.t 1)),
   .op (some 20) none (.mov (.t 2)),
   .op (some 21) none (.call .f (.c (.fn 42 [])) [.t 18, .t 19, .t 20]),
   .op (some 22) none (.build [.int .i64 (0), .int .i64 (0)] []),
   .op (some 6) none (.mov (.t 21)),
   .op none none (.store 2 (.t 7) (.t 22))])
   .ret)))))
def r_types_Sub : List RVar := [.tmp 6, .cell true 2 7]
def n_types_Sub : Nat := 23
theorem k_types_Sub : chkFn Go.Proofs.Try.prog 16 n_types_Sub r_types_Sub c_types_Sub = true := by kernel_rfl
theorem f_types_Sub_bad (l : List Typ) (ho : TyOk l) (a b : Int) (hb : checkF l [a, b] ≠ okF) : Fc Go.Proofs.Try.prog 16 [.sl .p (l.map tyV), .int .i64 a, .int .i64 b] (.tup [.bool false, ftV (checkF l [a, b])]) := by
  refine Fn.step mixed k_types_Sub ?_
  repeat' (first | refine i_s rfl ?_ | refine c_seq ?_ | refine c_cut0 ?_ | refine c_ops ?_ | refine i_nil ?_ | refine e_seq ?_ | refine e_block ?_ | refine c_block ?_ | refine c_skip ?_ | refine c_ret ?_ | refine c_exit ?_ | refine e_exit rfl ?_ | refine i_s0 rfl ?_ | refine c_leaf ?_ | refine i_gt rfl ?_ | refine i_gf rfl ?_ | refine i_gd rfl ?_ | refine c_t rfl ?_ | refine c_f rfl ?_ | refine i_conv rfl (by simp only [InR, List.length_map]; omega) ?_ | refine i_add rfl rfl (by simp only [InR, List.length_map]; omega) ?_ | refine i_sub rfl rfl (by simp only [InR, List.length_map]; omega) ?_ | refine i_ixm rfl rfl (by assumption) ?_ | refine i_iam rfl rfl (by assumption) rfl ?_ | refine i_tk rfl rfl (by omega) ?_ | refine i_stb rfl ?_ | refine i_alloc rfl ?_ | refine i_box rfl rfl ?_ | refine i_nv rfl ?_ | refine c_node ?_ ?_ | refine i_g rfl (fun h => ?_) (fun h => ?_) | refine c_cond rfl (fun h => ?_) (fun h => ?_) | refine i_f rfl rfl (f_types_check l ho [a, b] (by simp)) rfl ?_)
  · exact e_ret ⟨rfl, _, rfl, rfl⟩
  · exact absurd (eq_ok h) hb
theorem f_types_Sub_ok (l : List Typ) (ho : TyOk l) (a b : Int) (hb : checkF l [a, b] = okF) : Fc Go.Proofs.Try.prog 16 [.sl .p (l.map tyV), .int .i64 a, .int .i64 b] (.tup [.bool (subB l a b), ftV okF]) := by
  obtain ⟨hv, hr⟩ := checkF_valid hb
  have hra := hr a (by simp)
  refine Fn.step mixed k_types_Sub ?_
  repeat' (first | refine i_s rfl ?_ | refine c_seq ?_ | refine c_cut0 ?_ | refine c_ops ?_ | refine i_nil ?_ | refine e_seq ?_ | refine e_block ?_ | refine c_block ?_ | refine c_skip ?_ | refine c_ret ?_ | refine c_exit ?_ | refine e_exit rfl ?_ | refine i_s0 rfl ?_ | refine c_leaf ?_ | refine i_gt rfl ?_ | refine i_gf rfl ?_ | refine i_gd rfl ?_ | refine c_t rfl ?_ | refine c_f rfl ?_ | refine i_conv rfl (by simp only [InR, List.length_map]; omega) ?_ | refine i_add rfl rfl (by simp only [InR, List.length_map]; omega) ?_ | refine i_sub rfl rfl (by simp only [InR, List.length_map]; omega) ?_ | refine i_ixm rfl rfl (by assumption) ?_ | refine i_iam rfl rfl (by assumption) rfl ?_ | refine i_tk rfl rfl (by omega) ?_ | refine i_stb rfl ?_ | refine i_alloc rfl ?_ | refine i_box rfl rfl ?_ | refine i_nv rfl ?_ | refine c_node ?_ ?_ | refine i_g rfl (fun h => ?_) (fun h => ?_) | refine c_cond rfl (fun h => ?_) (fun h => ?_) | refine i_f rfl rfl (f_types_check l ho [a, b] (by simp)) rfl ?_ | refine i_f rfl rfl (f_types_Is l hv a b hra.1 hra.2) rfl ?_)
  · exact absurd hb (ne_ok h)
  · exact e_ret ⟨rfl, _, rfl, rfl⟩
def c_types_Join : Cmd :=
  (.seq
   (.ops [
   .op (some 3) none (.box 1088193 1 (.t 0)),
   .op (some 5) none (.box 1088321 1 (.t 2)),
   .op (some 6) none (.alloc 1088385 (.int .i64 (0))),
   .op (some 7) none (.alloc 1088450 (.agg [.int .i64 (0), .int .i64 (0)]))])
   (.cut
   (.seq
   (.seq
   (.ops [
   .op (some 10) none (.load false 1 (.t 3)),
   .op (some 11) none (.mov (.t 1)),
   .op (some 12) none (.load false 1 (.t 5)),
   .op (some 13) none (.bsl 1 [.t 11, .t 12]),
   .op (some 14) none (.call .f (.c (.fn 41 [])) [.t 10, .t 13]),
   .op (some 8) none (.alloc 1088514 (.agg [.int .i64 (0), .int .i64 (0)])),
   .op none none (.store 2 (.t 8) (.t 14))])
   (.cut
   (.seq
   (.ops [
   .op (some 15) none (.load true 2 (.t 8)),
   .op (some 16) none (.build [.int .i64 (0), .int .i64 (0)] []),
   .op (some 17) none (.bin .neq true [.i, .i] (.t 15) (.t 16))])
   (.cut
   (.cond (.t 17)
   (.seq
   (.opsT (.node 0 1 (.leaf [0, 1, 2]) (.leaf [1, 0, 2])) [
   .op (some 18) none (.load true 2 (.t 8)),
   .op none none (.store 1 (.t 6) (.c (.int .i64 (0)))),
   .op none none (.store 2 (.t 7) (.t 18))])
   .ret)
   .skip)))))
   (.cut
   (.seq
   (.seq
   (.ops [
   .op (some 19) none (.load false 1 (.t 3)),
   .op (some 20) none (.mov (.t 1)),
   .op (some 21) none (.call (.s [2752129,2752193]) (.c (.fn 43 [])) [.t 19, .t 20])])
   (.cut
   (.block 0
   (.rangeF [2752129,2752193] (.t 21) [22]
   (.ops [
   .op (some 9) none (.mov (.t 22))])
   (.block 1
   (.seq
   (.ops [
   .op (some 23) none (.load false 1 (.t 3)),
   .op (some 24) none (.load false 1 (.t 5)),
   .op (some 25) none (.mov (.t 9)),
   .op (some 26) none (.call .f (.c (.fn 42 [])) [.t 23, .t 24, .t 25])])
   (.cut
   (.cond (.t 26)
   (.seq
   (.ops [
   .op (some 27) none (.mov (.t 9)),
   .op (some 28) none (.build [.int .i64 (0), .int .i64 (0)] []),
   .op none none (.store 1 (.t 6) (.t 27)),
   .op none none (.store 2 (.t 7) (.t 28))])
   .ret)
   .skip))))))))
   (.cut
   (.seq
   (.ops [
   .op (some 29) none (.build [.int .i64 (0), .int .i64 (0)] []),
   .op none none (.store 1 (.t 6) (.c (.int .i64 (-1)))),
   .op none none (.store 2 (.t 7) (.t 29))])
   .ret)))))))
def r_types_Join : List RVar := [.cell false 1 6, .cell true 2 7]
def n_types_Join : Nat := 30
theorem k_types_Join : chkFn Go.Proofs.Try.prog 17 n_types_Join r_types_Join c_types_Join = true := by kernel_rfl
theorem f_types_Join_bad (l : List Typ) (ho : TyOk l) (a b : Int) (hb : checkF l [a, b] ≠ okF) : Fc Go.Proofs.Try.prog 17 [.sl .p (l.map tyV), .int .i64 a, .int .i64 b] (.tup [.int .i64 0, ftV (checkF l [a, b])]) := by
  refine Fn.step mixed k_types_Join ?_
  repeat' (first | refine i_s rfl ?_ | refine c_seq ?_ | refine c_cut0 ?_ | refine c_ops ?_ | refine i_nil ?_ | refine e_seq ?_ | refine e_block ?_ | refine c_block ?_ | refine c_skip ?_ | refine c_ret ?_ | refine c_exit ?_ | refine e_exit rfl ?_ | refine i_s0 rfl ?_ | refine c_leaf ?_ | refine i_gt rfl ?_ | refine i_gf rfl ?_ | refine i_gd rfl ?_ | refine c_t rfl ?_ | refine c_f rfl ?_ | refine i_conv rfl (by simp only [InR, List.length_map]; omega) ?_ | refine i_add rfl rfl (by simp only [InR, List.length_map]; omega) ?_ | refine i_sub rfl rfl (by simp only [InR, List.length_map]; omega) ?_ | refine i_ixm rfl rfl (by assumption) ?_ | refine i_iam rfl rfl (by assumption) rfl ?_ | refine i_tk rfl rfl (by omega) ?_ | refine i_stb rfl ?_ | refine i_alloc rfl ?_ | refine i_box rfl rfl ?_ | refine i_nv rfl ?_ | refine c_node ?_ ?_ | refine i_g rfl (fun h => ?_) (fun h => ?_) | refine c_cond rfl (fun h => ?_) (fun h => ?_) | refine i_f rfl rfl (f_types_check l ho [a, b] (by simp)) rfl ?_)
  · exact e_ret ⟨rfl, _, rfl, rfl⟩
  · exact e_ret ⟨rfl, _, rfl, rfl⟩
  · exact absurd (eq_ok h) hb
theorem f_types_Join_ok (l : List Typ) (ho : TyOk l) (a b : Int) (hb : checkF l [a, b] = okF) : Fc Go.Proofs.Try.prog 17 [.sl .p (l.map tyV), .int .i64 a, .int .i64 b] (.tup [.int .i64 (joinOf l a b), ftV okF]) := by
  obtain ⟨hv, hr⟩ := checkF_valid hb
  have hra := hr a (by simp)
  have hrb := hr b (by simp)
  refine Fn.step mixed k_types_Join ?_
  repeat' (first | refine i_s rfl ?_ | refine c_seq ?_ | refine c_cut0 ?_ | refine c_ops ?_ | refine i_nil ?_ | refine e_seq ?_ | refine e_block ?_ | refine c_block ?_ | refine c_skip ?_ | refine c_ret ?_ | refine c_exit ?_ | refine e_exit rfl ?_ | refine i_s0 rfl ?_ | refine c_leaf ?_ | refine i_gt rfl ?_ | refine i_gf rfl ?_ | refine i_gd rfl ?_ | refine c_t rfl ?_ | refine c_f rfl ?_ | refine i_conv rfl (by simp only [InR, List.length_map]; omega) ?_ | refine i_add rfl rfl (by simp only [InR, List.length_map]; omega) ?_ | refine i_sub rfl rfl (by simp only [InR, List.length_map]; omega) ?_ | refine i_ixm rfl rfl (by assumption) ?_ | refine i_iam rfl rfl (by assumption) rfl ?_ | refine i_tk rfl rfl (by omega) ?_ | refine i_stb rfl ?_ | refine i_alloc rfl ?_ | refine i_box rfl rfl ?_ | refine i_nv rfl ?_ | refine c_node ?_ ?_ | refine i_g rfl (fun h => ?_) (fun h => ?_) | refine c_cond rfl (fun h => ?_) (fun h => ?_) | refine i_f rfl rfl (f_types_check l ho [a, b] (by simp)) rfl ?_)
  · exact absurd hb (ne_ok h)
  · exact absurd hb (ne_ok h)
  refine i_c rfl rfl rfl (c_types_Above_ct l a _ _ rfl rfl fun nm h => restr_mem nm h) ?_
  rintro _ _ _ ⟨rfl, rfl, rfl⟩
  repeat (first | refine i_s rfl ?_ | refine c_seq ?_ | refine c_cut0 ?_ | refine c_ops ?_ | refine i_nil ?_ | refine e_seq ?_ | refine e_block ?_ | refine c_block ?_ | refine c_skip ?_ | refine c_ret ?_ | refine c_exit ?_ | refine e_exit rfl ?_ | refine i_s0 rfl ?_ | refine c_leaf ?_ | refine i_gt rfl ?_ | refine i_gf rfl ?_ | refine i_gd rfl ?_ | refine c_t rfl ?_ | refine c_f rfl ?_ | refine i_conv rfl (by simp only [InR, List.length_map]; omega) ?_ | refine i_add rfl rfl (by simp only [InR, List.length_map]; omega) ?_ | refine i_sub rfl rfl (by simp only [InR, List.length_map]; omega) ?_ | refine i_ixm rfl rfl (by assumption) ?_ | refine i_iam rfl rfl (by assumption) rfl ?_ | refine i_tk rfl rfl (by omega) ?_ | refine i_stb rfl ?_ | refine i_alloc rfl ?_ | refine i_box rfl rfl ?_ | refine i_nv rfl ?_)
  refine c_rangeS [(3, .bptr 1088193 0), (5, .bptr 1088321 0), (6, .bptr 1088385 0), (7, .bptr 1088450 0)] [(2752129, .box (.sl .p (l.map tyV))), (2752193, .box (.int .i64 a)), (1088193, .box (.sl .p (l.map tyV))), (1088321, .box (.int .i64 b)), (1088385, .box (.int .i64 0)), (1088450, .box (ftV okF))] [1088193, 1088321, 1088385, 1088450]
    [(2752129, .box (.sl .p (l.map tyV))), (2752193, .box (.int .i64 a))] [(1088193, .box (.sl .p (l.map tyV))), (1088321, .box (.int .i64 b)), (1088385, .box (.int .i64 0)), (1088450, .box (ftV okF))] rfl ⟨by repeat (first | exact trivial | refine ⟨rfl, ?_⟩), by repeat (first | exact trivial | refine ⟨rfl, ?_⟩), rfl⟩ rfl rfl rfl rfl ?_
  refine Cc_mono ?_ (c_types_Above_1_ct l hv a hra.1 hra.2 _
    (fun st => match (supers l a).find? (fun t => subB l b t) with
      | some c => st = (stOf [(1088193, .box (.sl .p (l.map tyV))), (1088321, .box (.int .i64 b)), (1088385, .box (.int .i64 c)), (1088450, .box (ftV okF))], (), some .ret)
      | none => st = (stOf [(1088193, .box (.sl .p (l.map tyV))), (1088321, .box (.int .i64 b)), (1088385, .box (.int .i64 0)), (1088450, .box (ftV okF))], (), none))
    (YL_find (fun c => subB l b c) (fun c => (stOf [(1088193, .box (.sl .p (l.map tyV))), (1088321, .box (.int .i64 b)), (1088385, .box (.int .i64 c)), (1088450, .box (ftV okF))], (), some .ret)) (RHm noH_mono) (supers l a) ?_ ?_))
  · unfold joinOf
    rintro _ σ' st ⟨⟨t', rfl⟩, hst⟩
    split at hst
    · subst hst
      rename_i hs
      refine ⟨rfl, ?_⟩
      exact e_ret ⟨rfl, _, rfl, by rw [hs]; rfl⟩
    · subst hst
      rename_i hs
      refine ⟨rfl, ?_⟩
      show WE _ _ _ _ _ .normal _ _ _
      repeat (first | refine i_s rfl ?_ | refine c_seq ?_ | refine c_cut0 ?_ | refine c_ops ?_ | refine i_nil ?_ | refine e_seq ?_ | refine e_block ?_ | refine c_block ?_ | refine c_skip ?_ | refine c_ret ?_ | refine c_exit ?_ | refine e_exit rfl ?_ | refine i_s0 rfl ?_ | refine c_leaf ?_ | refine i_gt rfl ?_ | refine i_gf rfl ?_ | refine i_gd rfl ?_ | refine c_t rfl ?_ | refine c_f rfl ?_ | refine i_conv rfl (by simp only [InR, List.length_map]; omega) ?_ | refine i_add rfl rfl (by simp only [InR, List.length_map]; omega) ?_ | refine i_sub rfl rfl (by simp only [InR, List.length_map]; omega) ?_ | refine i_ixm rfl rfl (by assumption) ?_ | refine i_iam rfl rfl (by assumption) rfl ?_ | refine i_tk rfl rfl (by omega) ?_ | refine i_stb rfl ?_ | refine i_alloc rfl ?_ | refine i_box rfl rfl ?_ | refine i_nv rfl ?_)
      exact e_ret ⟨rfl, _, rfl, by rw [hs]; rfl⟩
  · intro c hc K hk1 hk2
    refine rh_intro noH_mono rfl ?_
    repeat (first | refine i_s rfl ?_ | refine c_seq ?_ | refine c_cut0 ?_ | refine c_ops ?_ | refine i_nil ?_ | refine e_seq ?_ | refine e_block ?_ | refine c_block ?_ | refine c_skip ?_ | refine c_ret ?_ | refine c_exit ?_ | refine e_exit rfl ?_ | refine i_s0 rfl ?_ | refine c_leaf ?_ | refine i_gt rfl ?_ | refine i_gf rfl ?_ | refine i_gd rfl ?_ | refine c_t rfl ?_ | refine c_f rfl ?_ | refine i_conv rfl (by simp only [InR, List.length_map]; omega) ?_ | refine i_add rfl rfl (by simp only [InR, List.length_map]; omega) ?_ | refine i_sub rfl rfl (by simp only [InR, List.length_map]; omega) ?_ | refine i_ixm rfl rfl (by assumption) ?_ | refine i_iam rfl rfl (by assumption) rfl ?_ | refine i_tk rfl rfl (by omega) ?_ | refine i_stb rfl ?_ | refine i_alloc rfl ?_ | refine i_box rfl rfl ?_ | refine i_nv rfl ?_)
    refine e_end ?_
    show WC _ _ _ _ [] _ _ _ _
    repeat' (first | refine i_s rfl ?_ | refine c_seq ?_ | refine c_cut0 ?_ | refine c_ops ?_ | refine i_nil ?_ | refine e_seq ?_ | refine e_block ?_ | refine c_block ?_ | refine c_skip ?_ | refine c_ret ?_ | refine c_exit ?_ | refine e_exit rfl ?_ | refine i_s0 rfl ?_ | refine c_leaf ?_ | refine i_gt rfl ?_ | refine i_gf rfl ?_ | refine i_gd rfl ?_ | refine c_t rfl ?_ | refine c_f rfl ?_ | refine i_conv rfl (by simp only [InR, List.length_map]; omega) ?_ | refine i_add rfl rfl (by simp only [InR, List.length_map]; omega) ?_ | refine i_sub rfl rfl (by simp only [InR, List.length_map]; omega) ?_ | refine i_ixm rfl rfl (by assumption) ?_ | refine i_iam rfl rfl (by assumption) rfl ?_ | refine i_tk rfl rfl (by omega) ?_ | refine i_stb rfl ?_ | refine i_alloc rfl ?_ | refine i_box rfl rfl ?_ | refine i_nv rfl ?_ | refine c_node ?_ ?_ | refine i_g rfl (fun h => ?_) (fun h => ?_) | refine c_cond rfl (fun h => ?_) (fun h => ?_) | refine i_f rfl rfl (f_types_Is l hv b c hrb.1 hrb.2) rfl ?_)
    · refine e_ret ?_
      exact rhq_r rfl rfl (hk1 h)
    · refine e_end ?_
      exact rhq_n rfl rfl (hk2 h)
  · split
    · rename_i e; rw [e]
    · rename_i e; rw [e]
def c_types_Of : Cmd :=
  (.seq
   (.ops [
   .op (some 6) none (.mov (.c (.sl .nil [])))])
   (.cut
   (.seq
   (.ops [
   .op (some 7) none (.newVec 3008449)])
   (.cut
   (.seq
   (.seq
   (.ops [
   .op (some 10) none (.mov (.t 1)),
   .op (some 11) none (.len false (.t 10)),
   .op (some 12) none (.mov (.c (.int .i64 (0))))])
   (.cut
   (.block 0
   (.loop
   (.seq
   (.ops [
   .op (some 13) none (.bin .lss false [] (.t 12) (.t 11))])
   (.cut
   (.seq
   (.cond (.t 13)
   .skip
   (.exit 0))
   (.cut
   (.seq
   (.block 1
   (.seq
   (.ops [
   .op (some 14) none (.mov (.t 12)),
   .op (some 15) none (.iaddr 2 (.t 10) (.t 12)),
   .op (some 16) none (.load true 2 (.t 15)),
   .op (some 9) none (.alloc 3008578 (.agg [.str [], .int .i64 (0)])),
   .op (some 8) none (.mov (.t 14)),
   .op none none (.store 2 (.t 9) (.t 16))])
   (.cut
   (.seq
   (.ops [
   .op (some 17) none (.mov (.t 0)),
   .op (some 18) none (.faddr 1 (.t 9)),
   .op (some 19) none (.load false 1 (.t 18)),
   .op (some 20) none (.mov (.t 2)),
   .op (some 21) none (.call .f (.c (.fn 42 [])) [.t 17, .t 19, .t 20])])
   (.cut
   (.cond (.t 21)
   (.ops [
   .op (some 22) none (.mov (.t 7)),
   .op (some 23) none (.mov (.t 8)),
   .op (some 24) none (.bsl 1 [.t 23]),
   .op (some 25) none (.append 1 8 (.t 22) (.t 24)),
   .op (some 7) none (.mov (.t 25))])
   .skip))))))
   (.cut
   (.ops [
   .op (some 26) none (.bin .add false [] (.t 12) (.c (.int .i64 (1)))),
   .op (some 12) none (.mov (.t 26))])))))))))))
   (.cut
   (.seq
   (.ops [
   .op (some 27) none (.mov (.t 7)),
   .op (some 6) none (.mov (.t 27))])
   .ret)))))))
def r_types_Of : List RVar := [.tmp 6]
def n_types_Of : Nat := 28
theorem k_types_Of : chkFn Go.Proofs.Try.prog 47 n_types_Of r_types_Of c_types_Of = true := by kernel_rfl
theorem f_types_Of (l : List Typ) (hv : TyValid l) (os : List Obj) (ho : os.length ≤ 8) (hr : ∀ o ∈ os, -1 ≤ o.type ∧ o.type < l.length) (t : Int) : Fc Go.Proofs.Try.prog 47 [.sl .p (l.map tyV), .sl .p (os.map obV), .int .i64 t] (.sl .p ((membersOf l os t).map i64V)) := by
  refine Fn.step mixed k_types_Of ?_
  repeat (first | refine i_s rfl ?_ | refine c_seq ?_ | refine c_cut0 ?_ | refine c_ops ?_ | refine i_nil ?_ | refine e_seq ?_ | refine e_block ?_ | refine c_block ?_ | refine c_skip ?_ | refine c_ret ?_ | refine c_exit ?_ | refine e_exit rfl ?_ | refine i_s0 rfl ?_ | refine c_leaf ?_ | refine i_gt rfl ?_ | refine i_gf rfl ?_ | refine i_gd rfl ?_ | refine c_t rfl ?_ | refine c_f rfl ?_ | refine i_conv rfl (by simp only [InR, List.length_map]; omega) ?_ | refine i_add rfl rfl (by simp only [InR, List.length_map]; omega) ?_ | refine i_sub rfl rfl (by simp only [InR, List.length_map]; omega) ?_ | refine i_ixm rfl rfl (by assumption) ?_ | refine i_iam rfl rfl (by assumption) rfl ?_ | refine i_tk rfl rfl (by omega) ?_ | refine i_stb rfl ?_ | refine i_alloc rfl ?_ | refine i_box rfl rfl ?_ | refine i_nv rfl ?_)
  refine c_for os.length (fun k => [(0, .sl .p (l.map tyV)), (2, .int .i64 t), (7, .sl (.own 3008449) ((memK l os t k).map i64V)), (10, .sl .p (os.map obV)), (11, .int .i64 (os.map obV).length), (12, .int .i64 k)]) (fun k => [(3008449, .vec (memK l os t k).length)]) (fun _ => True) trivial ⟨by repeat (first | exact trivial | refine ⟨rfl, ?_⟩), by repeat (first | exact trivial | refine ⟨rfl, ?_⟩), rfl⟩ fun k hk _ => ?_
  have hml := memK_len (l := l) (os := os) (t := t) (k := k)
  repeat (first | refine i_s rfl ?_ | refine c_seq ?_ | refine c_cut0 ?_ | refine c_ops ?_ | refine i_nil ?_ | refine e_seq ?_ | refine e_block ?_ | refine c_block ?_ | refine c_skip ?_ | refine c_ret ?_ | refine c_exit ?_ | refine e_exit rfl ?_ | refine i_s0 rfl ?_ | refine c_leaf ?_ | refine i_gt rfl ?_ | refine i_gf rfl ?_ | refine i_gd rfl ?_ | refine c_t rfl ?_ | refine c_f rfl ?_ | refine i_conv rfl (by simp only [InR, List.length_map]; omega) ?_ | refine i_add rfl rfl (by simp only [InR, List.length_map]; omega) ?_ | refine i_sub rfl rfl (by simp only [InR, List.length_map]; omega) ?_ | refine i_ixm rfl rfl (by assumption) ?_ | refine i_iam rfl rfl (by assumption) rfl ?_ | refine i_tk rfl rfl (by omega) ?_ | refine i_stb rfl ?_ | refine i_alloc rfl ?_ | refine i_box rfl rfl ?_ | refine i_nv rfl ?_)
  refine c_cond rfl (fun h => ?_) (fun h => ?_)
  · have hlt : k < os.length := by simpa using h
    obtain ⟨o, hc⟩ := get_some hlt
    have := hr o (mem_get hc)
    clear h
    repeat' (first | refine i_s rfl ?_ | refine c_seq ?_ | refine c_cut0 ?_ | refine c_ops ?_ | refine i_nil ?_ | refine e_seq ?_ | refine e_block ?_ | refine c_block ?_ | refine c_skip ?_ | refine c_ret ?_ | refine c_exit ?_ | refine e_exit rfl ?_ | refine i_s0 rfl ?_ | refine c_leaf ?_ | refine i_gt rfl ?_ | refine i_gf rfl ?_ | refine i_gd rfl ?_ | refine c_t rfl ?_ | refine c_f rfl ?_ | refine i_conv rfl (by simp only [InR, List.length_map]; omega) ?_ | refine i_add rfl rfl (by simp only [InR, List.length_map]; omega) ?_ | refine i_sub rfl rfl (by simp only [InR, List.length_map]; omega) ?_ | refine i_ixm rfl rfl (by assumption) ?_ | refine i_iam rfl rfl (by assumption) rfl ?_ | refine i_tk rfl rfl (by omega) ?_ | refine i_stb rfl ?_ | refine i_alloc rfl ?_ | refine i_box rfl rfl ?_ | refine i_nv rfl ?_ | refine c_node ?_ ?_ | refine i_g rfl (fun h => ?_) (fun h => ?_) | refine c_cond rfl (fun h => ?_) (fun h => ?_) | refine i_f rfl rfl (f_types_Is l hv o.type t this.1 this.2) rfl ?_)
    · refine i_appM rfl rfl rfl rfl rfl (by omega) (by omega) ?_
      repeat' (first | refine i_s rfl ?_ | refine c_seq ?_ | refine c_cut0 ?_ | refine c_ops ?_ | refine i_nil ?_ | refine e_seq ?_ | refine e_block ?_ | refine c_block ?_ | refine c_skip ?_ | refine c_ret ?_ | refine c_exit ?_ | refine e_exit rfl ?_ | refine i_s0 rfl ?_ | refine c_leaf ?_ | refine i_gt rfl ?_ | refine i_gf rfl ?_ | refine i_gd rfl ?_ | refine c_t rfl ?_ | refine c_f rfl ?_ | refine i_conv rfl (by simp only [InR, List.length_map]; omega) ?_ | refine i_add rfl rfl (by simp only [InR, List.length_map]; omega) ?_ | refine i_sub rfl rfl (by simp only [InR, List.length_map]; omega) ?_ | refine i_ixm rfl rfl (by assumption) ?_ | refine i_iam rfl rfl (by assumption) rfl ?_ | refine i_tk rfl rfl (by omega) ?_ | refine i_stb rfl ?_ | refine i_alloc rfl ?_ | refine i_box rfl rfl ?_ | refine i_nv rfl ?_ | refine c_node ?_ ?_ | refine i_g rfl (fun h => ?_) (fun h => ?_) | refine c_cond rfl (fun h => ?_) (fun h => ?_))
      refine e_for hlt trivial ⟨⟨rfl, rfl, ?_, rfl, rfl, rfl, trivial⟩, ⟨?_, trivial⟩, rfl⟩
      · rw [memK_succ hc, if_pos h]; rfl
      · rw [memK_succ hc, if_pos h]; simp; rfl
    · refine e_for hlt trivial ⟨⟨rfl, rfl, ?_, rfl, rfl, rfl, trivial⟩, ⟨?_, trivial⟩, rfl⟩
      · rw [memK_succ hc, if_neg (by simp [h])]; simp; rfl
      · rw [memK_succ hc, if_neg (by simp [h])]; simp; rfl
  · have hge : ¬ k < os.length := by simpa using h
    have e : k = os.length := by omega
    subst e
    repeat' (first | refine i_s rfl ?_ | refine c_seq ?_ | refine c_cut0 ?_ | refine c_ops ?_ | refine i_nil ?_ | refine e_seq ?_ | refine e_block ?_ | refine c_block ?_ | refine c_skip ?_ | refine c_ret ?_ | refine c_exit ?_ | refine e_exit rfl ?_ | refine i_s0 rfl ?_ | refine c_leaf ?_ | refine i_gt rfl ?_ | refine i_gf rfl ?_ | refine i_gd rfl ?_ | refine c_t rfl ?_ | refine c_f rfl ?_ | refine i_conv rfl (by simp only [InR, List.length_map]; omega) ?_ | refine i_add rfl rfl (by simp only [InR, List.length_map]; omega) ?_ | refine i_sub rfl rfl (by simp only [InR, List.length_map]; omega) ?_ | refine i_ixm rfl rfl (by assumption) ?_ | refine i_iam rfl rfl (by assumption) rfl ?_ | refine i_tk rfl rfl (by omega) ?_ | refine i_stb rfl ?_ | refine i_alloc rfl ?_ | refine i_box rfl rfl ?_ | refine i_nv rfl ?_ | refine c_node ?_ ?_ | refine i_g rfl (fun h => ?_) (fun h => ?_) | refine c_cond rfl (fun h => ?_) (fun h => ?_))
    exact e_ret ⟨rfl, _, rfl, rfl⟩
end Hm
end

section
/- Types: the laws, in plain terms. No program in sight. -/
namespace Hm
open Go
theorem supers_ind {l : List Typ} (hv : TyValid l) (Pr : Int → Prop) (h0 : ∀ t, t < 0 → Pr t) (h1 : ∀ (t : Int) (x : Typ), 0 ≤ t → t < l.length → l[t.toNat]? = some x → -1 ≤ x.parent → x.parent < t → Pr x.parent → Pr t) : ∀ t : Int, t < l.length → Pr t := by
  have key : ∀ (n : Nat) (t : Int), t < n → t < l.length → Pr t := by
    intro n
    induction n with
    | zero => intro t ht _; exact h0 t (by omega)
    | succ n ih =>
      intro t ht hl
      by_cases hn : t < 0
      · exact h0 t hn
      · obtain ⟨x, hx, _, h2, h3⟩ := parent_ok hv (by omega) hl
        exact h1 t x (by omega) hl hx h2 h3 (ih x.parent (by omega) (by omega))
  intro t ht
  exact key (t.toNat + 1) t (by omega) ht
theorem supers_range {l : List Typ} (hv : TyValid l) (t : Int) (h0 : -1 ≤ t) (h1 : t < l.length) : ∀ x ∈ supers l t, -1 ≤ x ∧ x ≤ t := by
  refine supers_ind hv (fun t => -1 ≤ t → ∀ x ∈ supers l t, -1 ≤ x ∧ x ≤ t) (fun t ht h0 x hx => ?_) (fun t x h0 h1 hx h2 h3 ih _ y hy => ?_) t h1 h0
  · rw [supers_neg ht] at hx
    simp at hx
    omega
  · rw [supers_cons hv h0 h1 hx] at hy
    rcases List.mem_cons.1 hy with rfl | hy
    · omega
    · have := ih h2 y hy; omega
theorem supers_self {l : List Typ} (hv : TyValid l) (t : Int) (h0 : -1 ≤ t) (h1 : t < l.length) : t ∈ supers l t := by
  by_cases h : t < 0
  · rw [supers_neg h]; simp; omega
  · obtain ⟨x, hx, _⟩ := parent_ok hv (by omega) h1
    rw [supers_cons hv (by omega) h1 hx]; simp
theorem supers_top {l : List Typ} (hv : TyValid l) (t : Int) (h1 : t < l.length) : (-1 : Int) ∈ supers l t := by
  refine supers_ind hv (fun t => (-1 : Int) ∈ supers l t) (fun t ht => ?_) (fun t x h0 h1 hx h2 h3 ih => ?_) t h1
  · rw [supers_neg ht]; simp
  · rw [supers_cons hv h0 h1 hx]; exact List.mem_cons_of_mem _ ih
/-- The supertypes of a supertype are the rest of the row. -/
theorem supers_split {l : List Typ} (hv : TyValid l) (t : Int) (h1 : t < l.length) : ∀ y ∈ supers l t, ∃ pre, supers l t = pre ++ supers l y ∧ ∀ z ∈ pre, y < z := by
  refine supers_ind hv (fun t => ∀ y ∈ supers l t, ∃ pre, supers l t = pre ++ supers l y ∧ ∀ z ∈ pre, y < z) (fun t ht y hy => ?_) (fun t x h0 h1 hx h2 h3 ih y hy => ?_) t h1
  · rw [supers_neg ht] at hy ⊢
    simp at hy
    subst hy
    exact ⟨[], by rw [supers_neg (by omega)]; rfl, fun z hz => by cases hz⟩
  · rw [supers_cons hv h0 h1 hx] at hy ⊢
    rcases List.mem_cons.1 hy with rfl | hy
    · exact ⟨[], by rw [supers_cons hv h0 h1 hx]; rfl, fun z hz => by cases hz⟩
    · obtain ⟨pre, e, hp⟩ := ih y hy
      refine ⟨t :: pre, by rw [e]; rfl, fun z hz => ?_⟩
      rcases List.mem_cons.1 hz with ez | hz
      · have := (supers_range hv x.parent h2 (by omega) y hy).2; omega
      · exact hp z hz
theorem subB_iff {l : List Typ} {a b : Int} : subB l a b = true ↔ b ∈ supers l a := by simp [subB]
theorem sub_refl {l : List Typ} (hv : TyValid l) {a : Int} (h0 : -1 ≤ a) (h1 : a < l.length) : subB l a a = true := subB_iff.2 (supers_self hv a h0 h1)
theorem sub_top {l : List Typ} (hv : TyValid l) {a : Int} (h1 : a < l.length) : subB l a (-1) = true := subB_iff.2 (supers_top hv a h1)
theorem sub_range {l : List Typ} (hv : TyValid l) {a b : Int} (h0 : -1 ≤ a) (h1 : a < l.length) (h : subB l a b = true) : -1 ≤ b ∧ b ≤ a := supers_range hv a h0 h1 b (subB_iff.1 h)
theorem sub_trans {l : List Typ} (hv : TyValid l) {a b c : Int} (h1 : a < l.length) (h : subB l a b = true) (k : subB l b c = true) : subB l a c = true := by
  obtain ⟨pre, e, _⟩ := supers_split hv a h1 b (subB_iff.1 h)
  rw [subB_iff, e]
  exact List.mem_append.2 (.inr (subB_iff.1 k))
theorem sub_antisymm {l : List Typ} (hv : TyValid l) {a b : Int} (h0 : -1 ≤ a) (h1 : a < l.length) (h2 : -1 ≤ b) (h3 : b < l.length) (h : subB l a b = true) (k : subB l b a = true) : a = b := by
  have := sub_range hv h0 h1 h
  have := sub_range hv h2 h3 k
  omega
/-- Of two supertypes of one type, the lower has the upper for a supertype. -/
theorem sub_line {l : List Typ} (hv : TyValid l) {a x c : Int} (h1 : a < l.length) (hx : subB l a x = true) (hc : subB l a c = true) (hle : c ≤ x) : subB l x c = true := by
  obtain ⟨pre, e, hp⟩ := supers_split hv a h1 x (subB_iff.1 hx)
  rw [subB_iff, e] at hc
  rcases List.mem_append.1 hc with h | h
  · have := hp c h; omega
  · exact subB_iff.2 h
theorem join_spec {l : List Typ} (hv : TyValid l) {a b : Int} (h0 : -1 ≤ a) (h1 : a < l.length) (h2 : -1 ≤ b) (h3 : b < l.length) :
    subB l a (joinOf l a b) = true ∧ subB l b (joinOf l a b) = true ∧ ∀ c, subB l a c = true → subB l b c = true → c ≤ joinOf l a b := by
  unfold joinOf
  cases hf : (supers l a).find? fun t => subB l b t with
  | none =>
    have := List.find?_eq_none.1 hf (-1) (supers_top hv a h1)
    exact absurd (sub_top hv h3) this
  | some x =>
    have hx1 := List.find?_some hf
    have hx2 := List.mem_of_find?_eq_some hf
    refine ⟨subB_iff.2 hx2, hx1, fun c hc hc' => ?_⟩
    obtain ⟨pre, e, hp⟩ := supers_split hv a h1 x hx2
    show c ≤ x
    rw [subB_iff, e] at hc
    have hxl : x < l.length := by have := supers_range hv a h0 h1 x hx2; omega
    have hx0 : -1 ≤ x := (supers_range hv a h0 h1 x hx2).1
    rcases List.mem_append.1 hc with h | h
    · exfalso
      have h3 : (pre ++ supers l x).find? (fun t => subB l b t) = some x := by rw [← e]; exact hf
      rw [List.find?_append] at h3
      cases hp2 : pre.find? fun t => subB l b t with
      | none => exact List.find?_eq_none.1 hp2 c h hc'
      | some z =>
        rw [hp2] at h3
        simp at h3
        have := hp z (List.mem_of_find?_eq_some hp2)
        omega
    · exact (supers_range hv x hx0 hxl c h).2
theorem join_comm {l : List Typ} (hv : TyValid l) {a b : Int} (h0 : -1 ≤ a) (h1 : a < l.length) (h2 : -1 ≤ b) (h3 : b < l.length) : joinOf l a b = joinOf l b a := by
  obtain ⟨p1, p2, p3⟩ := join_spec hv h0 h1 h2 h3
  obtain ⟨q1, q2, q3⟩ := join_spec hv h2 h3 h0 h1
  have := p3 _ q2 q1
  have := q3 _ p2 p1
  omega
theorem mem_members {l : List Typ} {os : List Obj} {t i : Int} : i ∈ membersOf l os t ↔ ∃ (k : Nat) (o : Obj), i = k ∧ os[k]? = some o ∧ subB l o.type t = true := by
  unfold membersOf
  rw [List.mem_map]
  constructor
  · rintro ⟨k, hk, rfl⟩
    rw [List.mem_filter, List.mem_range] at hk
    obtain ⟨h1, h2⟩ := hk
    split at h2
    · rename_i o ho; exact ⟨k, o, rfl, ho, h2⟩
    · cases h2
  · rintro ⟨k, o, rfl, ho, hs⟩
    refine ⟨k, ?_, rfl⟩
    rw [List.mem_filter, List.mem_range]
    exact ⟨get_lt ho, by rw [ho]; exact hs⟩
theorem members_sub {l : List Typ} {os : List Obj} (hv : TyValid l) (hr : ∀ o ∈ os, -1 ≤ o.type ∧ o.type < l.length) {a b : Int} (h : subB l a b = true) : ∀ i ∈ membersOf l os a, i ∈ membersOf l os b := by
  intro i hi
  obtain ⟨k, o, rfl, ho, hs⟩ := mem_members.1 hi
  exact mem_members.2 ⟨k, o, rfl, ho, sub_trans hv (hr o (mem_get ho)).2 hs h⟩
theorem members_top {l : List Typ} {os : List Obj} (hv : TyValid l) (hr : ∀ o ∈ os, -1 ≤ o.type ∧ o.type < l.length) : (membersOf l os (-1)).length = os.length := by
  unfold membersOf
  rw [List.length_map, List.filter_eq_self.2, List.length_range]
  intro k hk
  obtain ⟨o, ho⟩ := get_some (List.mem_range.1 hk)
  rw [ho]
  exact sub_top hv (hr o (mem_get ho)).2
theorem members_length {l : List Typ} {os : List Obj} {t : Int} : (membersOf l os t).length ≤ os.length := by
  unfold membersOf
  rw [List.length_map]
  exact Nat.le_trans (List.length_filter_le _ _) (by simp)
end Hm
end

section
/- What comes in: types, objects, integers. -/
namespace Hm
open Go
theorem in_int {H : Type} {n : Nat} {d : DataW H} (h : wt Go.Proofs.Try.prog n 3 d) : ∃ m, dv d = .int .i64 m ∧ InR .i64 m := by
  obtain ⟨m, rfl, hm⟩ := wt_int Go.Proofs.Try.underlying3 h
  exact ⟨m, rfl, hm⟩
theorem in_Typ {H : Type} (n : Nat) (d : DataW H) (h : wt Go.Proofs.Try.prog n 60 d) : ∃ t : Typ, dv d = tyV t ∧ t.name.length ≤ 140737488351232 ∧ InR .i64 t.parent := by
  obtain ⟨parts, m, rfl, hp⟩ := wt_st Go.Proofs.Try.underlying60 h
  match parts, hp with
  | [d0, d1], hp =>
    obtain ⟨h0, h1, _⟩ := hp
    obtain ⟨s, rfl, hs⟩ := wt_str Go.Proofs.Try.underlying9 h0
    obtain ⟨k, rfl, hk⟩ := wt_int Go.Proofs.Try.underlying3 h1
    exact ⟨⟨s, k⟩, rfl, hs, hk⟩
theorem in_Obj {H : Type} (n : Nat) (d : DataW H) (h : wt Go.Proofs.Try.prog n 58 d) : ∃ t : Obj, dv d = obV t ∧ t.name.length ≤ 140737488351232 ∧ InR .i64 t.type := by
  obtain ⟨parts, m, rfl, hp⟩ := wt_st Go.Proofs.Try.underlying58 h
  match parts, hp with
  | [d0, d1], hp =>
    obtain ⟨h0, h1, _⟩ := hp
    obtain ⟨s, rfl, hs⟩ := wt_str Go.Proofs.Try.underlying9 h0
    obtain ⟨k, rfl, hk⟩ := wt_int Go.Proofs.Try.underlying3 h1
    exact ⟨⟨s, k⟩, rfl, hs, hk⟩
theorem by_Typ : Program.bytesOf Go.Proofs.Try.prog 60 = 24 := by kernel_rfl
theorem by_Obj : Program.bytesOf Go.Proofs.Try.prog 58 = 24 := by kernel_rfl
theorem in_Typs {H : Type} {n : Nat} {d : DataW H} (h : wt Go.Proofs.Try.prog n 22 d) : ∃ l : List Typ, dv d = .sl .p (l.map tyV) ∧ l.length ≤ 140737488355328 ∧ ∀ t ∈ l, t.name.length ≤ 140737488355328 := by
  obtain ⟨l, h1, h2, h3⟩ := wt_sl Go.Proofs.Try.underlying22 in_Typ h
  rw [by_Typ] at h2
  exact ⟨l, h1, by omega, fun t ht => by have := (h3 t ht).1; omega⟩
theorem in_Objs {H : Type} {n : Nat} {d : DataW H} (h : wt Go.Proofs.Try.prog n 23 d) : ∃ l : List Obj, dv d = .sl .p (l.map obV) ∧ l.length ≤ 140737488355328 ∧ ∀ t ∈ l, t.name.length ≤ 140737488355328 := by
  obtain ⟨l, h1, h2, h3⟩ := wt_sl Go.Proofs.Try.underlying23 in_Obj h
  rw [by_Obj] at h2
  exact ⟨l, h1, by omega, fun t ht => by have := (h3 t ht).1; omega⟩
end Hm
end
