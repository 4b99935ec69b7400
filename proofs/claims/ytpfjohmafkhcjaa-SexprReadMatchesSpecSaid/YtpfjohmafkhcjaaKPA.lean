/- Part KPA of the proof. -/
import Derived.Test.YtpfjohmafkhcjaaKC
import Derived.Test.YtpfjohmafkhcjaaProg
import Derived.ProofKit
import Derived.SizedLaws
import Derived.Carry
import Derived.Deep.Slices
import Derived.OpenShut
set_option linter.unusedVariables false
set_option linter.unusedSimpArgs false
section
namespace Hm
open Go
theorem mixed : Go.Proofs.Try.prog.follows .mixedOrders = true := by kernel_rfl
end Hm
end
section
namespace Hm
open Go
set_option maxRecDepth 100000
set_option maxHeartbeats 1000000
def c_R1_In : Cmd :=
 (qS [qb 6 false]
 (.seq (.ops [qm 7 0, qm 8 1, qu 9 .geq [] 7 8, qm 10 9, qg 11 10 true (.mov (.t 0)), qg 12 10 true (.mov (.t 2)), qg 13 10 true (.bin .leq false [] (.t 11) (.t 12)), qq 14 (.pick (.t 10) (.t 13) (.c (.bool false))), qm 6 14]) .ret))
def r_R1_In : List RVar := [.tmp 6]
def n_R1_In : Nat := 15
theorem k_R1_In : chkFn Go.Proofs.Try.prog 23 n_R1_In r_R1_In c_R1_In = true := by kernel_rfl
theorem f_R1_In (x lo hi : Int) : Fc Go.Proofs.Try.prog 23 [.int .i64 x, .int .i64 lo, .int .i64 hi] (.bool (decide (lo ≤ x) && decide (x ≤ hi))) := by
  refine Fn.step mixed k_R1_In ?_
  repeat' (first | refine i_s rfl ?_ | refine sw ?_ | refine i_gt rfl ?_ | refine i_gf rfl ?_ | refine i_g rfl (fun h => ?_) (fun h => ?_))
  all_goals refine e_ret ⟨rfl, _, rfl, congrArg V.bool ?_⟩
  · have := of_decide_eq_true h; simp; omega
  · have := of_decide_eq_false h; simp; omega
def c_R1_At : Cmd :=
 (qS [qq 4 (.alloc 576258 (.agg [.int .i64 0, .int .i64 0]))]
 (.seq (.ops [qm 5 0, qm 6 1, qq 7 (.build [.int .i64 0, .int .i64 0] [(0 , 1 , .t 5), (1 , 1 , .t 6)]), qs 2 4 7]) .ret))
def r_R1_At : List RVar := [.cell true 2 4]
def n_R1_At : Nat := 8
theorem k_R1_At : chkFn Go.Proofs.Try.prog 9 n_R1_At r_R1_At c_R1_At = true := by kernel_rfl
theorem f_R1_At (c i : Int) : Fc Go.Proofs.Try.prog 9 [.int .i64 c, .int .i64 i] (.agg [.int .i64 c, .int .i64 i]) := by
  refine Fn.step mixed k_R1_At ?_
  repeat' (first | refine i_s rfl ?_ | refine sw ?_ | refine i_stb rfl ?_ | refine i_alloc rfl ?_)
  exact e_ret ⟨rfl, _, rfl, rfl⟩
def c_R1_Ints : Cmd :=
 (qS [qb 4 false]
 (qT (qS [qm 6 0, qn 7 6, qm 8 1, qn 9 8, qu 10 .neq [.i] 7 9]
 (.cond (.t 10) (.seq (.ops [qb 4 false]) .ret) .skip))
 (qT (qS [qc 5 0]
 (.block 0 (.loop (qT (qS [qm 11 5, qm 12 0, qn 13 12, qu 14 .lss [] 11 13]
 (.cond (.t 14) .skip (.exit 0)))
 (qT (.block 1 (qS [qm 17 0, qm 18 5, qi 19 1 17 18, ql 20 1 19, qm 21 1, qm 22 5, qi 23 1 21 22, ql 24 1 23, qu 25 .neq [.i] 20 24]
 (.cond (.t 25) (.seq (.ops [qb 4 false]) .ret) .skip)))
 (.ops [qm 15 5, qv 16 .add [] 15 1, qm 5 16]))))))
 (.seq (.ops [qb 4 true]) .ret))))
def r_R1_Ints : List RVar := [.tmp 4]
def n_R1_Ints : Nat := 26
theorem k_R1_Ints : chkFn Go.Proofs.Try.prog 14 n_R1_Ints r_R1_Ints c_R1_Ints = true := by kernel_rfl
theorem f_R1_Ints (xs ys : List Int) (hl : xs.length ≤ 140737488355328) : Fc Go.Proofs.Try.prog 14 [.sl .p (xs.map i64V), .sl .p (ys.map i64V)] (.bool (decide (xs = ys))) := by
  refine Fn.step mixed k_R1_Ints ?_
  repeat' (first | refine i_len rfl ?_ | refine i_s rfl ?_ | refine sw ?_ | refine c_cond rfl (fun h => ?_) (fun h => ?_))
  · have e : xs.length ≠ ys.length := by simp at h; omega
    refine e_ret ⟨rfl, _, rfl, congrArg V.bool (decide_eq_false fun e' => e (by rw [e']))⟩
  have e : xs.length = ys.length := by simp at h; omega
  refine c_for xs.length (fun k => [(0, .sl .p (xs.map i64V)), (1, .sl .p (ys.map i64V)), (5, .int .i64 k)]) (fun _ => []) (fun k => xs.take k = ys.take k) (by simp) ft fun k hk hi => ?_
  repeat (first | refine i_len rfl ?_ | refine i_s rfl ?_ | refine sw ?_)
  refine c_cond rfl (fun h => ?_) (fun h => ?_)
  · have hlt : k < xs.length := by simpa using h
    obtain ⟨c, hc⟩ := get_some hlt
    obtain ⟨c', hc'⟩ := get_some (e ▸ hlt)
    repeat' (first | refine i_s rfl ?_ | refine sw ?_ | refine ja rfl rfl ?_ | refine jd rfl rfl ?_ | refine c_cond rfl (fun h => ?_) (fun h => ?_))
    · refine e_ret ⟨rfl, _, rfl, congrArg V.bool (decide_eq_false fun e' => ?_)⟩
      subst e'
      rw [hc] at hc'
      cases hc'
      simp at h
    · refine e_for hlt ?_ ft
      have e : c = c' := by simpa using h
      rw [take_succ_get hc, take_succ_get hc', hi, e]
  · have hge : ¬ k < xs.length := by simpa using h
    rw [List.take_of_length_le (by omega), List.take_of_length_le (by omega)] at hi
    repeat' (first | refine i_s rfl ?_ | refine sw ?_ | fail)
    exact e_ret ⟨rfl, _, rfl, congrArg V.bool (decide_eq_true hi)⟩
end Hm
end
section
namespace Hm
open Go
mutual
def dv {H : Type} : DataW H → V
  | .lit (.bool b) => .bool b
  | .lit (.int k n) => .int k n
  | .lit (.string l) => .str l
  | .slice elems _ => .sl .p (dvL elems)
  | .agg parts => .agg (dvC parts)
  | .nil => .sl .p []
  | _ => .any
def dvL {H : Type} : List (DataW H) → List V
  | [] => []
  | d :: r => dv d :: dvL r
def dvC {H : Type} : List (DataW H) → List V
  | [] => []
  | d :: r => (dv d).cells ++ dvC r
end
theorem dvL_map {H : Type} : ∀ l : List (DataW H), dvL l = l.map dv
  | [] => rfl
  | d :: r => by simp only [dvL, List.map_cons, dvL_map r]
def lay (P : Program) : List Field → Nat → Option Nat
  | [], o => some o
  | f :: r, o => bif Nat.beq f.offset o then lay P r (o + P.cellsOf f.type) else none
def pl (P : Program) : Nat → TypeId → Bool
  | 0, _ => false
  | n + 1, t => match P.underlying t with
    | some .bool => true
    | some (.int _) => true
    | some .string => true
    | some (.slice e) => Nat.blt 0 (P.cellsOf e) && pl P n e
    | some (.struct fs) => (match lay P fs.toList 0 with
      | some m => Nat.beq m (P.cellsOf t)
      | none => false) && fs.toList.all fun f => pl P n f.type
    | some (.array len e) => Nat.beq (len * P.cellsOf e) (P.cellsOf t) && pl P n e
    | _ => false
def arrF (e : TypeId) (c i : Nat) : Field := { name := "", type := e, offset := i * c, embedded := false, tag := "", pkgPath := "", byteOffset := 0 }
theorem lay_arr {P : Program} {e : TypeId} : ∀ (len k : Nat), lay P ((List.range' k len).map (arrF e (P.cellsOf e))) (k * P.cellsOf e) = some ((k + len) * P.cellsOf e)
  | 0, k => rfl
  | len + 1, k => by
    simp only [List.range'_succ, List.map_cons, lay, arrF, Nat.beq_refl, cond_true]
    have := lay_arr (P := P) (e := e) len (k + 1)
    rw [Nat.succ_mul] at this
    rw [show k + (len + 1) = k + 1 + len from by omega]
    exact this
section
variable {H : Type} {enc : TypeId × Value → H} {P : Program} {w : World} {sp : Nat → Bool}
theorem fields_rep {S : Nat → Prop} {cs : List Value} : ∀ (fl : List Field) (ys : List (DataW H × List MemPlace)) (o m : Nat), lay P fl o = some m → m ≤ cs.length → ys.length = fl.length →
    (∀ (i : Nat) (f : Field) (y : DataW H × List MemPlace), fl[i]? = some f → ys[i]? = some y → ((cs.drop f.offset).take (P.cellsOf f.type)).length = (dv y.1).cells.length ∧
      ∀ (j : Nat) (v : V) (x : Value), (dv y.1).cells[j]? = some v → ((cs.drop f.offset).take (P.cellsOf f.type))[j]? = some x → RepP w S v x) →
    o ≤ m ∧ (dvC (ys.map (·.1))).length = m - o ∧ ∀ (j : Nat) (v : V) (x : Value), (dvC (ys.map (·.1)))[j]? = some v → cs[o + j]? = some x → RepP w S v x
  | [], [], o, m, hl, _, _, _ => by
    simp only [lay, Option.some.injEq] at hl
    subst hl
    exact ⟨Nat.le_refl _, by simp [dvC], fun j v x h => by simp [dvC] at h⟩
  | f :: fl, y :: ys, o, m, hl, hm, hlen, h => by
    simp only [lay] at hl
    cases hb : Nat.beq f.offset o with
    | false => rw [hb] at hl; cases hl
    | true =>
      rw [hb] at hl
      have ho := Nat.eq_of_beq_eq_true hb
      obtain ⟨h1, h2, h3⟩ := fields_rep fl ys (o + P.cellsOf f.type) m hl hm (by simpa using hlen) (fun i f y hf hy => h (i + 1) f y (by simpa using hf) (by simpa using hy))
      obtain ⟨k1, k2⟩ := h 0 f y rfl rfl
      rw [ho] at k1 k2
      have hk : (dv y.1).cells.length = P.cellsOf f.type := by
        rw [← k1, List.length_take, List.length_drop]; omega
      refine ⟨by omega, by simp only [List.map_cons, dvC, List.length_append, h2, hk]; omega, fun j v x hv hx => ?_⟩
      simp only [List.map_cons, dvC] at hv
      by_cases hj : j < P.cellsOf f.type
      · rw [List.getElem?_append_left (by omega)] at hv
        refine k2 j v x hv ?_
        rw [List.getElem?_take, if_pos hj, List.getElem?_drop]
        exact hx
      · rw [List.getElem?_append_right (by omega), hk] at hv
        exact h3 _ v x hv (by rw [show o + P.cellsOf f.type + (j - P.cellsOf f.type) = o + j from by omega]; exact hx)
  | [], _ :: _, _, _, _, _, hlen, _ => by simp at hlen
  | _ :: _, [], _, _, _, _, hlen, _ => by simp at hlen
theorem cells_get {w : World} {a : Addr} {n : Nat} {cs : List Value} (h : w.cells? 0 a n = some cs) : cs.length = n ∧ ∀ i, i < n → w.cell? (a.add i) = cs[i]? := by
  unfold World.cells? at h
  rw [if_pos (Nat.zero_le _)] at h
  exact ⟨by simpa using mapM_some_length h, fun i hi => mapM_some_get h i i (by simp [hi])⟩
theorem cell_lt {w : World} {a : Addr} {v : Value} (h : w.cell? a = some v) : a.block < w.heap.size ∧ a.spot = none := by
  unfold World.cell? at h
  split at h
  · rename_i c t fr hc
    refine ⟨(Array.getElem?_eq_some_iff.1 hc).1, ?_⟩
    cases hs : a.spot with
    | none => rfl
    | some _ => rw [hs] at h; simp at h
  · cases h
theorem trod_rep : ∀ (n : Nat) (t : TypeId) (fuel : Nat) (cs : List Value) (x : DataW H × List MemPlace), pl P n t = true → DataW.trod enc P w 0 sp true fuel t cs = some x →
    cs.length = (dv x.1).cells.length ∧ ∀ (i : Nat) (v : V) (y : Value), (dv x.1).cells[i]? = some v → cs[i]? = some y → RepP w (fun b => b < w.heap.size) v y
  | 0, t, fuel, cs, x, hp, _ => by cases hp
  | n + 1, t, fuel, cs, x, hp, h => by
    unfold pl at hp
    split at hp
    · rename_i ht
      obtain ⟨b, rfl, rfl⟩ := DataW.trod_bool ht h
      refine ⟨rfl, fun i v y hv hy => ?_⟩
      cases i with
      | zero => simp [dv, V.cells] at hv hy; subst hv hy; exact .bool b
      | succ i => simp at hy
    · rename_i k ht
      obtain ⟨m, rfl, rfl, _⟩ := DataW.trod_int ht h
      refine ⟨rfl, fun i v y hv hy => ?_⟩
      cases i with
      | zero => simp [dv, V.cells] at hv hy; subst hv hy; exact .int k m
      | succ i => simp at hy
    · rename_i ht
      obtain ⟨s, rfl, rfl, _⟩ := DataW.trod_string ht h
      refine ⟨rfl, fun i v y hv hy => ?_⟩
      cases i with
      | zero =>
        simp [dv, V.cells] at hv hy
        subst hv hy
        have := RepP.str (w := w) (S := fun b => b < w.heap.size) s.data.toList
        simpa using this
      | succ i => simp at hy
    · rename_i e ht
      simp only [Bool.and_eq_true] at hp
      obtain ⟨hc0, hpe⟩ := hp
      have hc : 0 < P.cellsOf e := by simpa [Nat.blt_eq] using hc0
      rcases Go.Deep.open_slice ht h with ⟨rfl, rfl⟩ | ⟨a, len, cap, m, q, D, Pl, rfl, _, hlc, _, hm, rfl, hcell⟩
      · refine ⟨rfl, fun i v y hv hy => ?_⟩
        cases i with
        | zero => simp [dv, V.cells] at hv hy; subst hv hy; exact .emp none 0
        | succ i => simp at hy
      · refine ⟨rfl, fun i v y hv hy => ?_⟩
        cases i with
        | succ i => simp at hy
        | zero =>
          simp only [dv, V.cells, List.getElem?_cons_zero, Option.some.injEq] at hv hy
          subst hv hy
          rw [dvL_map, List.map_map]
          cases len with
          | zero => exact .emp (some a) cap
          | succ len =>
            have hle : len + 1 ≤ m := by rw [hm]; split <;> omega
            have key : ∀ i, i < len + 1 → (∃ cs' : List Value, (∀ j, j < P.cellsOf e → w.cell? ((a.add (i * P.cellsOf e)).add j) = cs'[j]?) ∧ cs'.length = P.cellsOf e ∧ cs'.length = (dv (D i)).cells.length ∧
                ∀ (j : Nat) (v : V) (y : Value), (dv (D i)).cells[j]? = some v → cs'[j]? = some y → RepP w (fun b => b < w.heap.size) v y) := by
              intro i hi
              obtain ⟨cs', h1, h2⟩ := hcell i (by omega)
              obtain ⟨h3, h4⟩ := cells_get h1
              obtain ⟨h5, h6⟩ := trod_rep n e q cs' _ hpe h2
              exact ⟨cs', h4, h3, h5, h6⟩
            obtain ⟨cs0, k1, k2, _, _⟩ := key 0 (by omega)
            have k3 := k1 0 hc
            rw [List.getElem?_eq_getElem (by omega)] at k3
            obtain ⟨hblt, hspot⟩ := cell_lt k3
            simp only [Nat.zero_mul, Addr.add_zero'] at hblt hspot
            have hb : a.block < w.heap.size := hblt
            have hs : a.spot = none := hspot
            obtain ⟨b, off, spot⟩ := a
            simp only at hb hs
            subst hs
            have e1 : len + 1 = ((List.range (len + 1)).map (dv ∘ D)).length := by simp
            have goal : RepP w (fun b => b < w.heap.size) (.sl .p ((List.range (len + 1)).map (dv ∘ D))) (.slice (some ⟨b, off, none⟩) ((List.range (len + 1)).map (dv ∘ D)).length cap) := by
              refine .sl _ b off cap (P.cellsOf e) (fun i j => (w.cell? ⟨b, off + i * P.cellsOf e + j, none⟩).getD default) hb (by omega) (fun row hrow => ?_) (fun i j row v hr hv => ?_) (fun i j row v hr hv => ?_)
              · obtain ⟨i, hi, rfl⟩ := List.mem_map.1 hrow
                obtain ⟨cs', _, g1, g2, _⟩ := key i (List.mem_range.1 hi)
                show (dv (D i)).cells.length = _
                omega
              · rw [List.getElem?_map] at hr
                have hi : i < len + 1 := by
                  have := (List.getElem?_eq_some_iff.1 (Option.map_eq_some_iff.1 hr).choose_spec.1).1
                  simpa using this
                rw [List.getElem?_range hi] at hr
                simp only [Option.map_some, Option.some.injEq, Function.comp] at hr
                subst hr
                obtain ⟨cs', g0, g1, g2, g3⟩ := key i hi
                have hj := (List.getElem?_eq_some_iff.1 hv).1
                have := g0 j (by omega)
                simp only [Addr.add_lit] at this
                rw [this, List.getElem?_eq_getElem (by omega)]
                rfl
              · rw [List.getElem?_map] at hr
                have hi : i < len + 1 := by
                  have := (List.getElem?_eq_some_iff.1 (Option.map_eq_some_iff.1 hr).choose_spec.1).1
                  simpa using this
                rw [List.getElem?_range hi] at hr
                simp only [Option.map_some, Option.some.injEq, Function.comp] at hr
                subst hr
                obtain ⟨cs', g0, g1, g2, g3⟩ := key i hi
                have hj := (List.getElem?_eq_some_iff.1 hv).1
                have := g0 j (by omega)
                simp only [Addr.add_lit] at this
                rw [this, List.getElem?_eq_getElem (by omega)]
                exact g3 j v _ hv (by rw [List.getElem?_eq_getElem (by omega)]; rfl)
            rw [← e1] at goal
            exact goal
    · rename_i fs ht
      simp only [Bool.and_eq_true, List.all_eq_true] at hp
      obtain ⟨hlay, hall⟩ := hp
      split at hlay
      · rename_i m hm
        have hme := Nat.eq_of_beq_eq_true hlay
        obtain ⟨xs, q, _, rfl, hlen, hxl, hseg⟩ := DataW.trod_struct ht h
        obtain ⟨_, g1, g2⟩ := fields_rep (P := P) (w := w) (S := fun b => b < w.heap.size) (cs := cs) fs.toList xs 0 m hm (by omega) (by simpa using hxl) (fun i f y hf hy => by
          have hf' : fs[i]? = some f := by simpa using hf
          have := hseg i f hf'
          rw [hy] at this
          exact trod_rep n f.type q _ y (hall f (List.mem_of_getElem? hf)) this)
        refine ⟨by simp only [dv, V.cells, g1]; omega, fun i v y hv hy => g2 i v y (by simpa [dv, V.cells] using hv) (by simpa using hy)⟩
      · cases hlay
    · rename_i len e ht
      simp only [Bool.and_eq_true] at hp
      obtain ⟨hlay, hpe⟩ := hp
      have hme := Nat.eq_of_beq_eq_true hlay
      obtain ⟨xs, q, _, rfl, hlen, hxl, hseg⟩ := DataW.trod_array ht h
      have hla := lay_arr (P := P) (e := e) len 0
      rw [Nat.zero_mul, Nat.zero_add] at hla
      obtain ⟨_, g1, g2⟩ := fields_rep (P := P) (w := w) (S := fun b => b < w.heap.size) (cs := cs) _ xs 0 _ hla (by omega) (by simpa using hxl) (fun i f y hf hy => by
        have hi : i < len := by have := (List.getElem?_eq_some_iff.1 hy).1; omega
        rw [List.getElem?_map, List.getElem?_range' hi] at hf
        simp only [Option.map_some, Option.some.injEq, Nat.zero_add, Nat.one_mul] at hf
        subst hf
        have := hseg i hi
        rw [hy] at this
        exact trod_rep n e q _ y hpe this)
      refine ⟨by simp only [dv, V.cells, g1]; omega, fun i v y hv hy => g2 i v y (by simpa [dv, V.cells] using hv) (by simpa using hy)⟩
    · cases hp
theorem arg_rep {n base : Nat} {t : TypeId} {v : Value} {d : DataW H} {ps : List MemPlace} (hp : pl P n t = true) (hok : Value.okWide P w .any base t v) (h : DataW.Trod enc P w 0 sp true t v d ps) : RepP w (fun b => b < w.heap.size) (dv d) v := by
  obtain ⟨fuel, h⟩ := h
  obtain ⟨h1, h2⟩ := trod_rep n t fuel _ _ hp h
  cases n with
  | zero => cases hp
  | succ n =>
    unfold pl at hp
    split at hp
    · rename_i ht
      obtain ⟨b, e, e2⟩ := DataW.trod_bool ht h
      injection e2 with e2 _
      subst e2
      cases v <;> simp [Value.okWide, ht, Cell.okWide, Cell.ok] at hok
      simp [Value.cells] at e
      subst e
      exact .bool _
    · rename_i k ht
      obtain ⟨m, e, e2, _⟩ := DataW.trod_int ht h
      injection e2 with e2 _
      subst e2
      cases v <;> simp [Value.okWide, ht, Cell.okWide, Cell.ok] at hok
      simp [Value.cells] at e
      obtain ⟨rfl, rfl⟩ := e
      exact .int _ _
    · rename_i ht
      obtain ⟨s, e, e2, _⟩ := DataW.trod_string ht h
      injection e2 with e2 _
      subst e2
      cases v <;> simp [Value.okWide, ht, Cell.okWide, Cell.ok] at hok
      simp [Value.cells] at e
      subst e
      exact h2 0 _ _ rfl rfl
    · rename_i e ht
      have hv : v.cells = #[v] := by
        cases v <;> first | rfl | (simp [Value.okWide, ht, Cell.okWide, Cell.ok] at hok)
      have hd : (dv d).cells = [dv d] := by
        rcases Go.Deep.open_slice ht h with ⟨_, e2⟩ | ⟨_, _, _, _, _, _, _, _, _, _, _, _, e2, _⟩ <;> (injection e2 with e2 _; subst e2; rfl)
      exact h2 0 _ _ (by rw [hd]; rfl) (by rw [hv]; rfl)
    · rename_i fs ht
      simp only [Value.okWide, ht] at hok
      obtain ⟨cs, rfl, _, _⟩ := hok
      obtain ⟨xs, q, _, e2, _⟩ := DataW.trod_struct ht h
      injection e2 with e2 _
      subst e2
      have := RepP.agg (w := w) (S := fun b => b < w.heap.size) (dvC (xs.map (·.1))) cs.toList (by
        have := h1
        simp only [dv, V.cells, Value.cells] at this
        exact this.symm) (fun i v x hv hx => h2 i v x (by simpa [dv, V.cells] using hv) (by simpa [Value.cells] using hx))
      simpa [dv] using this
    · rename_i len e ht
      simp only [Value.okWide, ht] at hok
      obtain ⟨cs, rfl, _, _⟩ := hok
      obtain ⟨xs, q, _, e2, _⟩ := DataW.trod_array ht h
      injection e2 with e2 _
      subst e2
      have := RepP.agg (w := w) (S := fun b => b < w.heap.size) (dvC (xs.map (·.1))) cs.toList (by
        have := h1
        simp only [dv, V.cells, Value.cells] at this
        exact this.symm) (fun i v x hv hx => h2 i v x (by simpa [dv, V.cells] using hv) (by simpa [Value.cells] using hx))
      simpa [dv] using this
    · cases hp
theorem args_rep {n base : Nat} : ∀ (ts : List TypeId) (vs : List Value) (ds : List (DataW H)) (ps : List MemPlace), ts.all (pl P n) = true → (∀ (j : Nat) t v, ts[j]? = some t → vs[j]? = some v → Value.okWide P w .any base t v) →
    DataW.TrodAll enc P w 0 sp true ts vs ds ps → Reps (RepP w (fun b => b < w.heap.size)) (ds.map dv) vs
  | [], [], [], _, _, _, _ => ⟨rfl, fun i v x h => by simp at h⟩
  | t :: ts, v :: vs, d :: ds, ps, hp, hok, h => by
    obtain ⟨p, q, h1, h2, _⟩ := h
    simp only [List.all_cons, Bool.and_eq_true] at hp
    have ih := args_rep ts vs ds q hp.2 (fun j t v ht hv => hok (j + 1) t v (by simpa using ht) (by simpa using hv)) h2
    refine ⟨by simpa using ih.1, fun i u x hu hx => ?_⟩
    cases i with
    | zero =>
      simp at hu hx
      subst hu hx
      exact arg_rep hp.1 (hok 0 t v rfl rfl) h1
    | succ i => exact ih.2 i u x (by simpa using hu) (by simpa using hx)
  | [], _ :: _, _, _, _, _, h => by simp [DataW.TrodAll] at h
  | [], [], _ :: _, _, _, _, h => by simp [DataW.TrodAll] at h
  | _ :: _, [], _, _, _, _, h => by simp [DataW.TrodAll] at h
  | _ :: _, _ :: _, [], _, _, _, h => by simp [DataW.TrodAll] at h
def wt (P : Program) {H : Type} : Nat → TypeId → DataW H → Prop
  | 0, _, _ => False
  | n + 1, t, d => match P.underlying t with
    | some .bool => ∃ b, d = .lit (.bool b)
    | some (.int k) => ∃ m, d = .lit (.int k m) ∧ (Lit.int k m).wf = true
    | some .string => ∃ l, d = .lit (.string l) ∧ l.length ≤ reachBytes
    | some (.slice e) => d = .nil ∨ ∃ elems spare, d = .slice elems spare ∧ elems.length * P.bytesOf e ≤ reachBytes ∧ ∀ x ∈ elems, wt P n e x
    | some (.struct fs) => ∃ parts, d = .agg parts ∧ parts.length = fs.size ∧ ∀ (i : Nat) (f : Field) (p : DataW H), fs[i]? = some f → parts[i]? = some p → wt P n f.type p
    | some (.array len e) => ∃ parts, d = .agg parts ∧ parts.length = len ∧ ∀ x ∈ parts, wt P n e x
    | _ => True
theorem weightsAll_mem {e : TypeId} : ∀ {l : List (DataW H)} {x : DataW H}, x ∈ l → ∀ n ∈ x.weights P e, n ∈ DataW.weightsAll P e l
  | d :: r, x, hx, n, hn => by
    simp only [DataW.weightsAll, List.mem_append]
    rcases List.mem_cons.1 hx with rfl | hx
    · exact .inl hn
    · exact .inr (weightsAll_mem hx n hn)
theorem trod_wt : ∀ (fuel : Nat) (t : TypeId) (cs : List Value) (x : DataW H × List MemPlace), DataW.trod enc P w 0 sp true fuel t cs = some x → (∀ n ∈ x.1.weights P t, n ≤ reachBytes) → wt P fuel t x.1
  | 0, t, cs, x, h, _ => by simp [DataW.trod] at h
  | fuel + 1, t, cs, x, h, hw => by
    unfold wt
    split
    · rename_i ht
      obtain ⟨b, _, rfl⟩ := DataW.trod_bool ht h
      exact ⟨b, rfl⟩
    · rename_i k ht
      obtain ⟨m, _, rfl, hm⟩ := DataW.trod_int ht h
      exact ⟨m, rfl, hm⟩
    · rename_i ht
      obtain ⟨s, _, rfl, _⟩ := DataW.trod_string ht h
      exact ⟨_, rfl, hw _ (by simp [DataW.weights])⟩
    · rename_i e ht
      rcases DataW.trod_slice ht h with ⟨_, rfl⟩ | ⟨a, len, cap, elems, rest, n, hn, _, rfl, _, _, _, hlen, hel, _, _⟩
      · exact .inl rfl
      · injection hn with hn
        subst hn
        refine .inr ⟨_, _, rfl, ?_, fun y hy => ?_⟩
        · have := hw ((elems.length + rest.length) * P.bytesOf e) (by simp [DataW.weights, ht])
          simp only [List.length_map]
          exact Nat.le_trans (Nat.mul_le_mul_right _ (Nat.le_add_right _ _)) this
        · obtain ⟨z, hz, rfl⟩ := List.mem_map.1 hy
          obtain ⟨i, hi, ez⟩ := List.getElem_of_mem hz
          have := hel i (by omega)
          rw [List.getElem?_eq_getElem hi, ez] at this
          obtain ⟨cs', h1, h2⟩ := Option.bind_eq_some_iff.1 this
          refine trod_wt fuel e cs' z h2 fun n hn => hw n ?_
          simp only [DataW.weights, ht, List.mem_cons, List.mem_append]
          exact .inr (.inl (weightsAll_mem hy n hn))
    · rename_i fs ht
      obtain ⟨xs, n, hn, rfl, _, hxl, hseg⟩ := DataW.trod_struct ht h
      injection hn with hn
      subst hn
      refine ⟨_, rfl, by simpa using hxl, fun i f p hf hp => ?_⟩
      rw [List.getElem?_map] at hp
      obtain ⟨z, hz, rfl⟩ := Option.map_eq_some_iff.1 hp
      have := hseg i f hf
      rw [hz] at this
      refine trod_wt fuel f.type _ z this fun n hn => hw n ?_
      simp only [DataW.weights, ht]
      exact DataW.weights_mem_each (j := i) (by rw [List.getElem?_map]; simp [hf]) (by rw [List.getElem?_map, hz]; rfl) n hn
    · rename_i len e ht
      obtain ⟨xs, n, hn, rfl, _, hxl, hseg⟩ := DataW.trod_array ht h
      injection hn with hn
      subst hn
      refine ⟨_, rfl, by simpa using hxl, fun y hy => ?_⟩
      obtain ⟨z, hz, rfl⟩ := List.mem_map.1 hy
      obtain ⟨i, hi, ez⟩ := List.getElem_of_mem hz
      have := hseg i (by omega)
      rw [List.getElem?_eq_getElem hi, ez] at this
      refine trod_wt fuel e _ z this fun n hn => hw n ?_
      simp only [DataW.weights, ht]
      exact weightsAll_mem hy n hn
    · trivial
theorem args_wt : ∀ (ts : List TypeId) (vs : List Value) (ds : List (DataW H)) (ps : List MemPlace), DataW.TrodAll enc P w 0 sp true ts vs ds ps → (∀ n ∈ DataW.weightsEach P ts ds, n ≤ reachBytes) →
    ds.length = ts.length ∧ ∀ (j : Nat) t d, ts[j]? = some t → ds[j]? = some d → ∃ n, wt P n t d
  | [], [], [], _, _, _ => ⟨rfl, fun j t d h => by simp at h⟩
  | t :: ts, v :: vs, d :: ds, ps, h, hw => by
    obtain ⟨p, q, ⟨fuel, h1⟩, h2, _⟩ := h
    have ih := args_wt ts vs ds q h2 (fun n hn => hw n (by simp only [DataW.weightsEach, List.mem_append]; exact .inr hn))
    refine ⟨by simpa using ih.1, fun j t' d' ht hd => ?_⟩
    cases j with
    | zero =>
      simp at ht hd
      subst ht hd
      exact ⟨fuel, trod_wt fuel t _ _ h1 fun n hn => hw n (by simp only [DataW.weightsEach, List.mem_append]; exact .inl hn)⟩
    | succ j => exact ih.2 j t' d' (by simpa using ht) (by simpa using hd)
  | [], _ :: _, _, _, h, _ => by simp [DataW.TrodAll] at h
  | [], [], _ :: _, _, h, _ => by simp [DataW.TrodAll] at h
  | _ :: _, [], _, _, h, _ => by simp [DataW.TrodAll] at h
  | _ :: _, _ :: _, [], _, h, _ => by simp [DataW.TrodAll] at h
end
section
variable {H : Type} {enc : TypeId × Value → H} {P : Program}
theorem below_all (hl : laidOutB P = true) {W W' : World} (hb : Go.RowKit.Below W.heap.size W W') : ∀ (ts : List TypeId) (vs : List Value) (ds : List (DataW H)) (ps : List MemPlace), (ts.all fun t => P.readableRec t && decide (t < P.types.size)) = true → (∀ x ∈ ps, x.block < W.heap.size) →
    DataW.TrodAll enc P W 0 (fun _ => true) true ts vs ds ps → DataW.TrodAll enc P W' 0 (fun b => decide (b < W.heap.size)) true ts vs ds ps
  | [], [], [], _, _, _, h => h
  | t :: ts, v :: vs, d :: ds, ps, hr, hlt, h => by
    obtain ⟨p, q, h1, h2, rfl⟩ := h
    simp only [List.all_cons, Bool.and_eq_true] at hr
    exact ⟨p, q, Go.RowKit.Below.trod hl hr.1.1 (of_decide_eq_true hr.1.2) h1 hb (fun x hx => hlt x (by simp [hx])), below_all hl hb ts vs ds q hr.2 (fun x hx => hlt x (by simp [hx])) h2, rfl⟩
  | [], _ :: _, _, _, _, _, h => by simp [DataW.TrodAll] at h
  | [], [], _ :: _, _, _, _, h => by simp [DataW.TrodAll] at h
  | _ :: _, [], _, _, _, _, h => by simp [DataW.TrodAll] at h
  | _ :: _, _ :: _, [], _, _, _, h => by simp [DataW.TrodAll] at h
end
theorem law_call {C : Checked} {f : FuncId} {fn : Func} {s : ChangeSpec} {H : Type} {enc : TypeId × Value → H} {tb : TypeId} {n : Nat}
    (hvars : s.vars = []) (hs : ∀ ds : List (DataW H), ds.length = fn.params.toList.length → (s.fn H (ds ++ [])).results = [.lit (.bool true)] ∧ (s.fn H (ds ++ [])).args = ds ∧ (s.fn H (ds ++ [])).vars = [])
    (hlaid : laidOutB C.prog = true) (hp : (fn.params.toList.all (pl C.prog n)) = true) (hr : (fn.params.toList.all fun t => C.prog.readableRec t && decide (t < C.prog.types.size)) = true)
    (hres : fn.resultTypes = #[tb]) (htb : C.prog.underlying tb = some .bool)
    (hc : ∀ ds : List (DataW H), ds.length = fn.params.toList.length → (∀ (j : Nat) t d, fn.params.toList[j]? = some t → ds[j]? = some d → ∃ n, wt C.prog n t d) → Fc C.prog f (ds.map dv) (.bool true))
    (W : World) (base : Nat) (args : Array Value) (ds gs : List (DataW H)) (before : List MemPlace)
    (hval : ∀ (j : Nat) t v, fn.params[j]? = some t → args[j]? = some v → Value.okWide C.prog W .any base t v)
    (hW : DataW.Whole enc C.prog fn.params.toList s.vars false W args.toList ds gs before)
    (hsz : (DataW.weightsEach C.prog (fn.params.toList ++ s.plain.varTypes C.prog) (ds ++ gs)).all (· ≤ reachBytes) = true)
    (hgl : ∀ p ∈ glb, ∃ (cs : List Value) (e : TypeId) (fr : Nat × Nat), W.heap[p.1]? = some (.cells cs.toArray e fr) ∧ p.2 cs) :
    Calls C.prog f args W fun e W' => ∃ v, e = .returned v ∧ s.post enc C.prog fn false true false false W args v W' := by
  have hW' := hW
  obtain ⟨p, q, hA, hV, hbe, hfz, hnd⟩ := hW
  rw [hvars] at hV
  have hg : gs = [] ∧ q = [] := by
    cases gs with
    | nil => exact ⟨rfl, by simpa [DataW.TrodVars] using hV⟩
    | cons g gs => simp [DataW.TrodVars] at hV
  obtain ⟨rfl, rfl⟩ := hg
  have hw : ∀ n ∈ DataW.weightsEach C.prog fn.params.toList ds, n ≤ reachBytes := by
    intro n hn
    have h1 := List.all_eq_true.1 hsz n
    have hlen : ds.length = fn.params.toList.length := by
      have : ∀ (ts : List TypeId) (vs : List Value) (ds : List (DataW H)) (ps : List MemPlace), DataW.TrodAll enc C.prog W 0 (fun _ => true) true ts vs ds ps → ds.length = ts.length := by
        intro ts
        induction ts with
        | nil => intro vs ds ps h; cases vs <;> cases ds <;> simp [DataW.TrodAll] at h ⊢
        | cons t ts ih =>
          intro vs ds ps h
          cases vs <;> cases ds <;> simp [DataW.TrodAll] at h ⊢
          obtain ⟨p, _, q, h2, _⟩ := h
          exact ih _ _ _ h2
      exact this _ _ _ _ hA
    have h2 : n ∈ DataW.weightsEach C.prog (fn.params.toList ++ s.plain.varTypes C.prog) (ds ++ []) := by
      have : ∀ (ts us : List TypeId) (ds : List (DataW H)), ds.length = ts.length → ∀ n ∈ DataW.weightsEach C.prog ts ds, n ∈ DataW.weightsEach C.prog (ts ++ us) ds := by
        intro ts
        induction ts with
        | nil => intro us ds h n hn; simp [DataW.weightsEach] at hn
        | cons t ts ih =>
          intro us ds h n hn
          cases ds with
          | nil => simp at h
          | cons d ds =>
            simp only [List.cons_append, DataW.weightsEach, List.mem_append] at hn ⊢
            rcases hn with hn | hn
            · exact .inl hn
            · exact .inr (ih us ds (by simpa using h) n hn)
      rw [List.append_nil]
      exact this _ _ _ hlen n hn
    exact of_decide_eq_true (h1 h2)
  obtain ⟨hdl, hwt⟩ := args_wt _ _ _ _ hA hw
  have hrep := args_rep (n := n) (base := base) _ _ _ _ hp (fun j t v ht hv => hval j t v (by simpa using ht) (by simpa using hv)) hA
  obtain ⟨_, hcall⟩ := (hc ds hdl hwt).out
  have hcw := callsIn_wide.1 (hcall W (fun b => b < W.heap.size) args.toList (fun b h => h) (fun p hp => by
    obtain ⟨cs, e, fr, h1, h2⟩ := hgl p hp
    exact ⟨(Array.getElem?_eq_some_iff.1 h1).1, cs, e, fr, h1, h2⟩) hrep)
  simp only [Array.toArray_toList] at hcw
  refine hcw.mono fun e W' ⟨x', S', he, hx, _, _, hgrow⟩ => ?_
  subst he
  cases hx
  have hb : Go.RowKit.Below W.heap.size W W' := ⟨hgrow.os, hgrow.tape, hgrow.output.1, hgrow.size, fun k hk => hgrow.same k hk⟩
  obtain ⟨s1, s2, s3⟩ := hs ds hdl
  refine ⟨_, rfl, ds, [], before, [], p, [], hW', ?_, ?_, ?_, ?_, fun h => by cases h⟩
  · rw [s1, hres]
    refine ⟨[], [], ⟨1, ?_⟩, rfl, rfl⟩
    unfold DataW.trod
    rw [htb]
    rfl
  · rw [s2]
    have hlt : ∀ x ∈ p, x.block < W.heap.size := fun x hx => hW'.lt x (by rw [hbe]; simp [hx])
    exact below_all hlaid hb _ _ _ _ hr hlt hA
  · rw [s3, hvars]; rfl
  · exact hb.frame _
theorem law_lift {C : Checked} {os : Os} {f : FuncId} {fn : Func} {s : ChangeSpec} {H : Type} {enc : TypeId × Value → H} {tb : TypeId} {n : Nat}
    (own : ownKnob C.prog.godebug = none) (started : os.Started) (noInit : C.prog.inits.idxOf? f = none) (hfn : C.prog.funcs[f]? = some fn)
    (witness : ∃ (w : World) (tape : Tape) (i : Input), w.os = os ∧ (w.forCall tape i).Shaped C.prog ∧ i.vars = [] ∧ Input.okWide C.prog (w.forCall tape i) .any w.heap.size f i ∧
      s.pre6 enc C.prog fn [] false (w.forCall tape i).memory i.args ∧ (({} : Assume)).holds C.prog (lone (Frame.enter C.prog f i.args .normal) [] (w.forCall tape i)))
    (hvars : s.vars = []) (hs : ∀ ds : List (DataW H), ds.length = fn.params.toList.length → (s.fn H (ds ++ [])).results = [.lit (.bool true)] ∧ (s.fn H (ds ++ [])).args = ds ∧ (s.fn H (ds ++ [])).vars = [])
    (hlaid : laidOutB C.prog = true) (hp : (fn.params.toList.all (pl C.prog n)) = true) (hr : (fn.params.toList.all fun t => C.prog.readableRec t && decide (t < C.prog.types.size)) = true)
    (hres : fn.resultTypes = #[tb]) (htb : C.prog.underlying tb = some .bool)
    (hglb : glb = [])
    (hc : ∀ ds : List (DataW H), ds.length = fn.params.toList.length → (∀ (j : Nat) t d, fn.params.toList[j]? = some t → ds[j]? = some d → ∃ n, wt C.prog n t d) → Fc C.prog f (ds.map dv) (.bool true)) :
    ReturnsInHanded {} C os f .any (s.pre6 enc C.prog fn [] false) (s.post enc C.prog fn false true false false) := by
  refine returnsInHanded_of_change_sized own started noInit hfn witness ?_
  intro W base args ds gs before hval hW _ hsz _
  exact law_call hvars hs hlaid hp hr hres htb hc W base args ds gs before hval hW hsz (fun p hp => by rw [hglb] at hp; cases hp)
end Hm
namespace Hm
open Go
section
variable {H : Type} {P : Program}
theorem wt_str {n : Nat} {t : TypeId} {d : DataW H} (ht : P.underlying t = some .string) (h : wt P n t d) : ∃ l, d = .lit (.string l) ∧ l.length ≤ 140737488351232 := by
  cases n with
  | zero => exact h.elim
  | succ n =>
    simp only [wt, ht] at h
    exact h
end
theorem in_str {H : Type} {n : Nat} {d : DataW H} (h : wt Go.Proofs.Try.prog n 9 d) : ∃ s : List UInt8, dv d = .str s ∧ s.length ≤ 140737488351232 := by
  obtain ⟨s, rfl, hs⟩ := wt_str Go.Proofs.Try.underlying9 h
  exact ⟨s, rfl, hs⟩
end Hm
end
