/- The facts of a translation: which value of which variable they stand for. No program in sight. -/
import Derived.Test.YtmgbnobaaihinaaMuA
section
/- The facts of a translation: which value of which variable they stand for. No program in sight. -/
namespace Hm
set_option linter.unusedVariables false
set_option linter.unusedSimpArgs false
open Go
theorem base_get : ∀ (l : List Int) (n : Int) (v : Nat), v < l.length → (baseFrom n l)[v]? = some (n + sumL (l.take v))
  | [], n, v, h => by simp at h
  | z :: l, n, 0, h => by simp [baseFrom, sumL]
  | z :: l, n, v + 1, h => by
    simp only [baseFrom, List.getElem?_cons_succ, List.take_succ_cons, sumL]
    rw [base_get l (n + z) v (by simpa using h)]
    congr 1
    omega
theorem sumL_append : ∀ a b : List Int, sumL (a ++ b) = sumL a + sumL b
  | [], b => by simp [sumL]
  | x :: a, b => by simp only [List.cons_append, sumL, sumL_append a b]; omega
theorem sumL_nonneg {l : List Int} (h : ∀ z ∈ l, 1 ≤ z ∧ z ≤ 6) : 0 ≤ sumL l := (sumL_range l h).1
theorem sum_mono {l : List Int} (h : ∀ z ∈ l, 1 ≤ z ∧ z ≤ 6) {i j : Nat} (hij : i < j) {z : Int} (hz : l[i]? = some z) : sumL (l.take i) + z ≤ sumL (l.take j) := by
  have h1 : l.take j = l.take (i + 1) ++ (l.take j).drop (i + 1) := by
    conv => lhs; rw [← List.take_append_drop (i + 1) (l.take j)]
    rw [List.take_take, Nat.min_eq_left (by omega)]
  rw [h1, sumL_append, take_succ_get hz, sumL_snoc]
  have := sumL_nonneg (l := (l.take j).drop (i + 1)) fun z hz => h z (List.mem_of_mem_take (List.mem_of_mem_drop hz))
  omega
def VX (l : List Int) (v : Nat) (x : Int) : Prop := ∃ z, l[v]? = some z ∧ 0 ≤ x ∧ x < z
def fv (l : List Int) (v : Nat) (x : Int) : Int := sumL (l.take v) + x
theorem fv_inj {l : List Int} (h : ∀ z ∈ l, 1 ≤ z ∧ z ≤ 6) {v v' : Nat} {x x' : Int} (a : VX l v x) (b : VX l v' x') (e : fv l v x = fv l v' x') : v = v' ∧ x = x' := by
  obtain ⟨z, hz, x0, x1⟩ := a
  obtain ⟨z', hz', y0, y1⟩ := b
  unfold fv at e
  by_cases c : v < v'
  · have := sum_mono h c hz; omega
  · by_cases c2 : v' < v
    · have := sum_mono h c2 hz'; omega
    · have : v = v' := by omega
      subst this
      exact ⟨rfl, by omega⟩
theorem fv_lt {l : List Int} (h : ∀ z ∈ l, 1 ≤ z ∧ z ≤ 6) {v v' : Nat} {x x' : Int} (a : VX l v x) (b : VX l v' x') (c : v < v') : fv l v x < fv l v' x' := by
  obtain ⟨z, hz, x0, x1⟩ := a
  obtain ⟨z', hz', y0, y1⟩ := b
  have := sum_mono h c hz
  unfold fv
  omega
theorem fv_rng {l : List Int} (h : ∀ z ∈ l, 1 ≤ z ∧ z ≤ 6) {v : Nat} {x : Int} (a : VX l v x) : 0 ≤ fv l v x ∧ fv l v x < sumL l := by
  obtain ⟨z, hz, x0, x1⟩ := a
  have h1 := sumL_nonneg (l := l.take v) fun z hz => h z (List.mem_of_mem_take hz)
  have h2 := sum_mono h (get_lt hz) hz
  rw [List.take_length] at h2
  unfold fv
  omega
theorem bAt_fv {l : List Int} {v : Nat} (h : v < l.length) : bAt (baseFrom 0 l) (v : Int) = sumL (l.take v) := by
  unfold bAt
  rw [show ((v : Int)).toNat = v from by omega, base_get l 0 v h]
  simp
theorem as_vx {sizes : List Int} {l : List Asg} (h : asB sizes l = true) : ∀ a ∈ l, VX sizes a.var.toNat a.value ∧ 0 ≤ a.var := by
  intro a ha
  obtain ⟨i, hi, e⟩ := List.getElem_of_mem ha
  obtain ⟨h1, z, hz, h2, h3⟩ := asB_idx h i a (by rw [← e]; exact List.getElem?_eq_getElem hi)
  exact ⟨⟨z, hz, h2, h3⟩, (asB_in h a ha).1⟩
theorem fact_fv {sizes : List Int} {l : List Asg} (h : asB sizes l = true) {a : Asg} (ha : a ∈ l) : factAt (baseFrom 0 sizes) a = fv sizes a.var.toNat a.value := by
  have h1 := asB_in h a ha
  unfold factAt fv
  rw [show a.var = ((a.var.toNat : Nat) : Int) from by omega, bAt_fv (by omega), show ((a.var.toNat : Nat) : Int).toNat = a.var.toNat from by omega]
def asgB (l : List Asg) (v x : Int) : Bool := l.any fun a => decide (a.var = v) && decide (a.value = x)
def setsB (l : List Asg) (v : Int) : Bool := l.any fun a => decide (a.var = v)
theorem has_map {sizes : List Int} (hz : ∀ z ∈ sizes, 1 ≤ z ∧ z ≤ 6) {l : List Asg} (h : asB sizes l = true) {v : Nat} {x : Int} (hv : VX sizes v x) : decide (fv sizes v x ∈ l.map (factAt (baseFrom 0 sizes))) = asgB l v x := by
  rw [Bool.eq_iff_iff]
  unfold asgB
  simp only [decide_eq_true_eq, List.mem_map, List.any_eq_true, Bool.and_eq_true]
  constructor
  · rintro ⟨a, ha, e⟩
    obtain ⟨h1, h2⟩ := as_vx h a ha
    rw [fact_fv h ha] at e
    obtain ⟨e1, e2⟩ := fv_inj hz h1 hv e
    exact ⟨a, ha, by omega, e2⟩
  · rintro ⟨a, ha, e1, e2⟩
    refine ⟨a, ha, ?_⟩
    rw [fact_fv h ha, e2, show a.var.toNat = v from by omega]
theorem asB_sorted {sizes : List Int} {l : List Asg} (h : asB sizes l = true) : l.Pairwise fun a b => a.var < b.var := by
  have adj : ∀ (i : Nat) (a b : Asg), l[i]? = some a → l[i + 1]? = some b → a.var < b.var := by
    intro i a b ha hb
    have := allN_get h (get_lt hb)
    unfold asAt at this
    rw [hb] at this
    simp only at this
    split at this
    · cases this
    · simp only [Bool.and_eq_true, decide_eq_true_eq, Bool.or_eq_true] at this
      rcases this.2 with e | e
      · omega
      · simp [asPrev, ha] at e; exact e
  have key : ∀ l : List Asg, (∀ (i : Nat) (a b : Asg), l[i]? = some a → l[i + 1]? = some b → a.var < b.var) → l.Pairwise fun a b => a.var < b.var := by
    intro l
    induction l with
    | nil => intro _; exact List.Pairwise.nil
    | cons x r ih =>
      intro h
      have ih' := ih fun i a b h1 h2 => h (i + 1) a b h1 h2
      refine List.Pairwise.cons ?_ ih'
      cases r with
      | nil => intro z hz; simp at hz
      | cons y r =>
        have hxy := h 0 x y rfl rfl
        intro z hz
        rcases List.mem_cons.1 hz with rfl | hz
        · exact hxy
        · exact Int.lt_trans hxy ((List.pairwise_cons.1 ih').1 z hz)
  exact key l adj
theorem asB_uniq {sizes : List Int} {l : List Asg} (h : asB sizes l = true) {a b : Asg} (ha : a ∈ l) (hb : b ∈ l) (e : a.var = b.var) : a = b := by
  have hs := asB_sorted h
  obtain ⟨i, hi, e1⟩ := List.getElem_of_mem ha
  obtain ⟨j, hj, e2⟩ := List.getElem_of_mem hb
  by_cases c : i < j
  · have := List.pairwise_iff_getElem.1 hs i j hi hj c
    rw [e1, e2] at this; omega
  · by_cases c2 : j < i
    · have := List.pairwise_iff_getElem.1 hs j i hj hi c2
      rw [e1, e2] at this; omega
    · have : i = j := by omega
      subst this
      rw [← e1, ← e2]
theorem mem_delA {sizes : List Int} {a : Asg} (hv : VX sizes a.var.toNat a.value) (h0 : 0 ≤ a.var) (p : Int) : p ∈ delA (baseFrom 0 sizes) sizes a ↔ ∃ y : Int, VX sizes a.var.toNat y ∧ y ≠ a.value ∧ p = fv sizes a.var.toNat y := by
  obtain ⟨z, hz, x0, x1⟩ := hv
  have hb : bAt (baseFrom 0 sizes) a.var = sumL (sizes.take a.var.toNat) := by
    rw [show a.var = ((a.var.toNat : Nat) : Int) from by omega, bAt_fv (get_lt hz), show ((a.var.toNat : Nat) : Int).toNat = a.var.toNat from by omega]
  unfold delA delK
  rw [hz, hb]
  simp only [Option.getD_some, List.mem_map, List.mem_filter, List.mem_range, decide_eq_true_eq, ne_eq]
  constructor
  · rintro ⟨y, ⟨h1, h2⟩, rfl⟩
    exact ⟨y, ⟨z, hz, by omega, by omega⟩, h2, rfl⟩
  · rintro ⟨y, ⟨z', hz', h1, h2⟩, h3, rfl⟩
    rw [hz] at hz'
    cases hz'
    refine ⟨y.toNat, ⟨by omega, by omega⟩, ?_⟩
    unfold fv
    omega
theorem has_dels {sizes : List Int} (hz : ∀ z ∈ sizes, 1 ≤ z ∧ z ≤ 6) {l : List Asg} (h : asB sizes l = true) {v : Nat} {x : Int} (hv : VX sizes v x) : decide (fv sizes v x ∈ dels (baseFrom 0 sizes) sizes l) = (setsB l v && !asgB l v x) := by
  rw [Bool.eq_iff_iff]
  unfold dels setsB asgB
  simp only [decide_eq_true_eq, List.mem_flatMap, List.any_eq_true, Bool.and_eq_true, Bool.not_eq_true', List.any_eq_false]
  constructor
  · rintro ⟨a, ha, hm⟩
    obtain ⟨h1, h2⟩ := as_vx h a ha
    obtain ⟨y, hy, hne, e⟩ := (mem_delA h1 h2 _).1 hm
    obtain ⟨e1, e2⟩ := fv_inj hz hv hy e
    refine ⟨⟨a, ha, by omega⟩, fun b hb => ?_⟩
    rintro ⟨c, e3⟩
    have := asB_uniq h hb ha (by omega)
    subst this
    exact hne (by rw [← e2, e3])
  · rintro ⟨⟨a, ha, e1⟩, h2⟩
    obtain ⟨h3, h4⟩ := as_vx h a ha
    refine ⟨a, ha, (mem_delA h3 h4 _).2 ⟨x, by rw [show a.var.toNat = v from by omega]; exact hv, fun e => ?_, by rw [show a.var.toNat = v from by omega]⟩⟩
    exact h2 a ha ⟨e1, e.symm⟩
end Hm
end

section
/- The translation of a valid task is valid. No program in sight. -/
namespace Hm
set_option linter.unusedVariables false
set_option linter.unusedSimpArgs false
open Go
theorem st_vx {m : MTask} (hv : MV m) {v : Nat} {x : Int} (hx : m.init[v]? = some x) : VX m.sizes v x := by
  have h := hv.init
  unfold stB at h
  simp only [Bool.and_eq_true] at h
  have := allN_get h.2 (get_lt hx)
  unfold stAt at this
  rw [hx] at this
  split at this
  · rename_i x' z h1 h2
    cases h1
    simp at this
    exact ⟨z, h2, this.1, this.2⟩
  · cases this
theorem init_eq {m : MTask} (hv : MV m) : (mStrips m).init = (List.range m.init.length).map fun v => fv m.sizes v ((m.init[v]?).getD 0) := by
  have hil : m.init.length = m.sizes.length := stB_len hv.init
  show initK (baseFrom 0 m.sizes) m.init m.init.length = _
  unfold initK
  refine List.map_congr_left fun v hm => ?_
  have : v < m.init.length := List.mem_range.1 hm
  rw [bAt_fv (by omega)]
  rfl
theorem has_init {m : MTask} (hv : MV m) {v : Nat} {x y : Int} (hx : VX m.sizes v x) (hy : m.init[v]? = some y) : decide (fv m.sizes v x ∈ (mStrips m).init) = (y == x) := by
  rw [Bool.eq_iff_iff, init_eq hv]
  simp only [decide_eq_true_eq, List.mem_map, List.mem_range, beq_iff_eq]
  constructor
  · rintro ⟨u, hu, e⟩
    obtain ⟨z, hz⟩ := get_some hu
    rw [hz] at e
    obtain ⟨e1, e2⟩ := fv_inj hv.rng (st_vx hv hz) hx e
    subst e1
    rw [hy] at hz
    cases hz
    exact e2
  · rintro rfl
    exact ⟨v, get_lt hy, by rw [hy]; rfl⟩
theorem map_ss {sizes : List Int} (hz : ∀ z ∈ sizes, 1 ≤ z ∧ z ≤ 6) {l : List Asg} (h : asB sizes l = true) : IsSet (sumL sizes) (l.map (factAt (baseFrom 0 sizes))) := by
  refine ⟨?_, fun p hp => ?_⟩
  · unfold SS
    rw [List.pairwise_map]
    refine List.Pairwise.imp_of_mem (fun {a b} ha hb hab => ?_) (asB_sorted h)
    obtain ⟨h1, h2⟩ := as_vx h a ha
    obtain ⟨h3, h4⟩ := as_vx h b hb
    rw [fact_fv h ha, fact_fv h hb]
    exact fv_lt hz h1 h3 (by omega)
  · obtain ⟨a, ha, rfl⟩ := List.mem_map.1 hp
    rw [fact_fv h ha]
    exact fv_rng hz (as_vx h a ha).1
theorem dels_ss {sizes : List Int} (hz : ∀ z ∈ sizes, 1 ≤ z ∧ z ≤ 6) {l : List Asg} (h : asB sizes l = true) : IsSet (sumL sizes) (dels (baseFrom 0 sizes) sizes l) := by
  refine ⟨?_, fun p hp => ?_⟩
  · unfold SS dels
    rw [List.pairwise_flatMap]
    refine ⟨fun a ha => ?_, List.Pairwise.imp_of_mem (fun {a b} ha hb hab => ?_) (asB_sorted h)⟩
    · unfold delA delK
      rw [List.pairwise_map]
      refine List.Pairwise.filter _ (List.Pairwise.imp (fun {x y} hxy => ?_) List.pairwise_lt_range)
      omega
    · intro p hp q hq
      obtain ⟨h1, h2⟩ := as_vx h a ha
      obtain ⟨h3, h4⟩ := as_vx h b hb
      obtain ⟨y, hy, _, rfl⟩ := (mem_delA h1 h2 p).1 hp
      obtain ⟨y', hy', _, rfl⟩ := (mem_delA h3 h4 q).1 hq
      exact fv_lt hz hy hy' (by omega)
  · obtain ⟨a, ha, hm⟩ := List.mem_flatMap.1 hp
    obtain ⟨h1, h2⟩ := as_vx h a ha
    obtain ⟨y, hy, _, rfl⟩ := (mem_delA h1 h2 p).1 hm
    exact fv_rng hz hy
theorem add_del {sizes : List Int} (hz : ∀ z ∈ sizes, 1 ≤ z ∧ z ≤ 6) {l : List Asg} (h : asB sizes l = true) : ∀ p ∈ l.map (factAt (baseFrom 0 sizes)), p ∉ dels (baseFrom 0 sizes) sizes l := by
  intro p hp hd
  obtain ⟨a, ha, rfl⟩ := List.mem_map.1 hp
  obtain ⟨b, hb, hm⟩ := List.mem_flatMap.1 hd
  obtain ⟨h1, h2⟩ := as_vx h a ha
  obtain ⟨h3, h4⟩ := as_vx h b hb
  obtain ⟨y, hy, hne, e⟩ := (mem_delA h3 h4 _).1 hm
  rw [fact_fv h ha] at e
  obtain ⟨e1, e2⟩ := fv_inj hz h1 hy e
  have := asB_uniq h ha hb (by omega)
  subst this
  exact hne e2.symm
theorem mStrips_sv {m : MTask} (hv : MV m) (hsm : sumL m.sizes ≤ 24) : SV (mStrips m) where
  f0 := sumL_nonneg hv.rng
  f1 := hsm
  init := by
    rw [init_eq hv]
    have hil : m.init.length = m.sizes.length := stB_len hv.init
    refine ⟨?_, fun p hp => ?_⟩
    · unfold SS
      rw [List.pairwise_map]
      refine List.Pairwise.imp_of_mem (fun {a b} ha hb hab => ?_) (List.pairwise_lt_range (n := m.init.length))
      obtain ⟨x, hx⟩ := get_some (List.mem_range.1 ha)
      obtain ⟨y, hy⟩ := get_some (List.mem_range.1 hb)
      rw [hx, hy]
      exact fv_lt hv.rng (st_vx hv hx) (st_vx hv hy) hab
    · obtain ⟨a, ha, rfl⟩ := List.mem_map.1 hp
      obtain ⟨x, hx⟩ := get_some (List.mem_range.1 ha)
      rw [hx]
      exact fv_rng hv.rng (st_vx hv hx)
  goal := map_ss hv.rng hv.goal
  opl := by
    show (m.ops.map _).length ≤ 40
    rw [List.length_map]; exact hv.opl
  op := fun o ho => by
    obtain ⟨q, hq, rfl⟩ := List.mem_map.1 ho
    obtain ⟨p1, p2, p3, p4⟩ := hv.op q hq
    exact ⟨map_ss hv.rng p1, map_ss hv.rng p2, dels_ss hv.rng p2, add_del hv.rng p2, p3, p4⟩
end Hm
end

section
/- Contracts: assignments that are looked for. -/
namespace Hm
open Go
set_option maxRecDepth 100000
set_option maxHeartbeats 4000000
set_option linter.unusedSimpArgs false
set_option linter.unusedVariables false
def c_L1_sets : Cmd :=
  (.seq
   (.ops [
   .op (some 4) none (.mov (.c (.bool false)))])
   (.cut
   (.seq
   (.seq
   (.ops [
   .op (some 5) none (.mov (.c (.int .i64 (0))))])
   (.cut
   (.block 0
   (.loop
   (.seq
   (.seq
   (.ops [
   .op (some 6) none (.mov (.t 5)),
   .op (some 7) none (.mov (.t 0)),
   .op (some 8) none (.len false (.t 7)),
   .op (some 9) none (.bin .lss false [] (.t 6) (.t 8))])
   (.cut
   (.cond (.t 9)
   .skip
   (.exit 0))))
   (.cut
   (.seq
   (.block 1
   (.seq
   (.ops [
   .op (some 12) none (.mov (.t 0)),
   .op (some 13) none (.mov (.t 5)),
   .op (some 14) none (.iaddr 2 (.t 12) (.t 13)),
   .op (some 15) none (.faddr 0 (.t 14)),
   .op (some 16) none (.load false 1 (.t 15)),
   .op (some 17) none (.mov (.t 1)),
   .op (some 18) none (.bin .eql false [.i] (.t 16) (.t 17))])
   (.cut
   (.cond (.t 18)
   (.seq
   (.ops [
   .op (some 4) none (.mov (.c (.bool true)))])
   .ret)
   .skip))))
   (.cut
   (.ops [
   .op (some 10) none (.mov (.t 5)),
   .op (some 11) none (.bin .add false [] (.t 10) (.c (.int .i64 (1)))),
   .op (some 5) none (.mov (.t 11))])))))))))
   (.cut
   (.seq
   (.ops [
   .op (some 4) none (.mov (.c (.bool false)))])
   .ret)))))
def r_L1_sets : List RVar := [.tmp 4]
def n_L1_sets : Nat := 19
theorem k_L1_sets : chkFn Go.Proofs.Try.prog 26 n_L1_sets r_L1_sets c_L1_sets = true := by kernel_rfl
theorem f_L1_sets (l : List Asg) (v : Int) (hl : l.length ≤ 140737488355328) : Fc Go.Proofs.Try.prog 26 [.sl .p (l.map asV), .int .i64 v] (.bool (setsB l v)) := by
  refine Fn.step mixed k_L1_sets ?_
  repeat (first | refine i_len rfl ?_ | refine i_s rfl ?_ | refine i_lenm rfl rfl rfl ?_ | refine c_seq ?_ | refine c_cut0 ?_ | refine c_ops ?_ | refine i_nil ?_ | refine e_seq ?_ | refine e_block ?_ | refine c_block ?_ | refine c_skip ?_ | refine c_ret ?_ | refine c_exit ?_ | refine e_exit rfl ?_ | refine i_s0 rfl ?_ | refine c_leaf ?_ | refine i_gt rfl ?_ | refine i_gf rfl ?_ | refine i_gd rfl ?_ | refine c_t rfl ?_ | refine c_f rfl ?_ | refine i_conv rfl (by simp only [InR, List.length_map]; omega) ?_ | refine i_add rfl rfl (by simp only [InR, List.length_map]; omega) ?_ | refine i_sub rfl rfl (by simp only [InR, List.length_map]; omega) ?_ | refine i_ixm rfl rfl (by assumption) ?_ | refine i_iai rfl rfl (by omega) (by assumption) rfl ?_ | refine i_iam rfl rfl (by assumption) rfl ?_ | refine i_tk rfl rfl (by omega) ?_ | refine i_stb rfl ?_ | refine i_alloc rfl ?_ | refine i_box rfl rfl ?_ | refine i_nv rfl ?_)
  refine c_for l.length (fun k => [(0, .sl .p (l.map asV)), (1, .int .i64 v), (5, .int .i64 k)]) (fun _ => []) (fun k => setsB (l.take k) v = false) (by simp [setsB]) ⟨by repeat (first | exact trivial | refine ⟨rfl, ?_⟩), by repeat (first | exact trivial | refine ⟨rfl, ?_⟩), rfl⟩ fun k hk hi => ?_
  repeat (first | refine i_len rfl ?_ | refine i_s rfl ?_ | refine i_lenm rfl rfl rfl ?_ | refine c_seq ?_ | refine c_cut0 ?_ | refine c_ops ?_ | refine i_nil ?_ | refine e_seq ?_ | refine e_block ?_ | refine c_block ?_ | refine c_skip ?_ | refine c_ret ?_ | refine c_exit ?_ | refine e_exit rfl ?_ | refine i_s0 rfl ?_ | refine c_leaf ?_ | refine i_gt rfl ?_ | refine i_gf rfl ?_ | refine i_gd rfl ?_ | refine c_t rfl ?_ | refine c_f rfl ?_ | refine i_conv rfl (by simp only [InR, List.length_map]; omega) ?_ | refine i_add rfl rfl (by simp only [InR, List.length_map]; omega) ?_ | refine i_sub rfl rfl (by simp only [InR, List.length_map]; omega) ?_ | refine i_ixm rfl rfl (by assumption) ?_ | refine i_iai rfl rfl (by omega) (by assumption) rfl ?_ | refine i_iam rfl rfl (by assumption) rfl ?_ | refine i_tk rfl rfl (by omega) ?_ | refine i_stb rfl ?_ | refine i_alloc rfl ?_ | refine i_box rfl rfl ?_ | refine i_nv rfl ?_)
  refine c_cond rfl (fun h => ?_) (fun h => ?_)
  · have hlt : k < l.length := by simpa using h
    obtain ⟨a, ha⟩ := get_some hlt
    clear h
    repeat' (first | refine i_len rfl ?_ | refine i_s rfl ?_ | refine i_lenm rfl rfl rfl ?_ | refine c_seq ?_ | refine c_cut0 ?_ | refine c_ops ?_ | refine i_nil ?_ | refine e_seq ?_ | refine e_block ?_ | refine c_block ?_ | refine c_skip ?_ | refine c_ret ?_ | refine c_exit ?_ | refine e_exit rfl ?_ | refine i_s0 rfl ?_ | refine c_leaf ?_ | refine i_gt rfl ?_ | refine i_gf rfl ?_ | refine i_gd rfl ?_ | refine c_t rfl ?_ | refine c_f rfl ?_ | refine i_conv rfl (by simp only [InR, List.length_map]; omega) ?_ | refine i_add rfl rfl (by simp only [InR, List.length_map]; omega) ?_ | refine i_sub rfl rfl (by simp only [InR, List.length_map]; omega) ?_ | refine i_ixm rfl rfl (by assumption) ?_ | refine i_iai rfl rfl (by omega) (by assumption) rfl ?_ | refine i_iam rfl rfl (by assumption) rfl ?_ | refine i_tk rfl rfl (by omega) ?_ | refine i_stb rfl ?_ | refine i_alloc rfl ?_ | refine i_box rfl rfl ?_ | refine i_nv rfl ?_ | refine c_node ?_ ?_ | refine i_g rfl (fun h => ?_) (fun h => ?_) | refine c_cond rfl (fun h => ?_) (fun h => ?_))
    · refine e_ret ⟨rfl, _, rfl, congrArg V.bool ?_⟩
      exact List.any_eq_true.2 ⟨a, mem_get ha, h⟩
    · refine e_for hlt ?_ ⟨by repeat (first | exact trivial | refine ⟨rfl, ?_⟩), by repeat (first | exact trivial | refine ⟨rfl, ?_⟩), rfl⟩
      unfold setsB at hi ⊢
      rw [take_succ_get ha, List.any_append, hi]
      simpa using h
  · have hge : ¬ k < l.length := by simpa using h
    rw [List.take_of_length_le (by omega)] at hi
    repeat' (first | refine i_len rfl ?_ | refine i_s rfl ?_ | refine i_lenm rfl rfl rfl ?_ | refine c_seq ?_ | refine c_cut0 ?_ | refine c_ops ?_ | refine i_nil ?_ | refine e_seq ?_ | refine e_block ?_ | refine c_block ?_ | refine c_skip ?_ | refine c_ret ?_ | refine c_exit ?_ | refine e_exit rfl ?_ | refine i_s0 rfl ?_ | refine c_leaf ?_ | refine i_gt rfl ?_ | refine i_gf rfl ?_ | refine i_gd rfl ?_ | refine c_t rfl ?_ | refine c_f rfl ?_ | refine i_conv rfl (by simp only [InR, List.length_map]; omega) ?_ | refine i_add rfl rfl (by simp only [InR, List.length_map]; omega) ?_ | refine i_sub rfl rfl (by simp only [InR, List.length_map]; omega) ?_ | refine i_ixm rfl rfl (by assumption) ?_ | refine i_iai rfl rfl (by omega) (by assumption) rfl ?_ | refine i_iam rfl rfl (by assumption) rfl ?_ | refine i_tk rfl rfl (by omega) ?_ | refine i_stb rfl ?_ | refine i_alloc rfl ?_ | refine i_box rfl rfl ?_ | refine i_nv rfl ?_ | refine c_node ?_ ?_ | refine i_g rfl (fun h => ?_) (fun h => ?_) | refine c_cond rfl (fun h => ?_) (fun h => ?_))
    exact e_ret ⟨rfl, _, rfl, congrArg V.bool hi⟩
def c_L1_assigned : Cmd :=
  (.seq
   (.ops [
   .op (some 6) none (.mov (.c (.bool false)))])
   (.cut
   (.seq
   (.seq
   (.ops [
   .op (some 7) none (.mov (.c (.int .i64 (0))))])
   (.cut
   (.block 0
   (.loop
   (.seq
   (.seq
   (.ops [
   .op (some 8) none (.mov (.t 7)),
   .op (some 9) none (.mov (.t 0)),
   .op (some 10) none (.len false (.t 9)),
   .op (some 11) none (.bin .lss false [] (.t 8) (.t 10))])
   (.cut
   (.cond (.t 11)
   .skip
   (.exit 0))))
   (.cut
   (.seq
   (.block 1
   (.seq
   (.ops [
   .op (some 14) none (.mov (.t 0)),
   .op (some 15) none (.mov (.t 7)),
   .op (some 16) none (.iaddr 2 (.t 14) (.t 15)),
   .op (some 17) none (.faddr 0 (.t 16)),
   .op (some 18) none (.load false 1 (.t 17)),
   .op (some 19) none (.mov (.t 1)),
   .op (some 20) none (.bin .eql false [.i] (.t 18) (.t 19)),
   .op (some 21) none (.mov (.t 20)),
   .op (some 22) (some (21, true)) (.mov (.t 0)),
   .op (some 23) (some (21, true)) (.mov (.t 7)),
   .op (some 24) (some (21, true)) (.iaddr 2 (.t 22) (.t 23)),
   .op (some 25) (some (21, true)) (.faddr 1 (.t 24)),
   .op (some 26) (some (21, true)) (.load false 1 (.t 25)),
   .op (some 27) (some (21, true)) (.mov (.t 2)),
   .op (some 28) (some (21, true)) (.bin .eql false [.i] (.t 26) (.t 27)),
   .op (some 29) none (.pick (.t 21) (.t 28) (.c (.bool false)))])
   (.cut
   (.cond (.t 29)
   (.seq
   (.ops [
   .op (some 6) none (.mov (.c (.bool true)))])
   .ret)
   .skip))))
   (.cut
   (.ops [
   .op (some 12) none (.mov (.t 7)),
   .op (some 13) none (.bin .add false [] (.t 12) (.c (.int .i64 (1)))),
   .op (some 7) none (.mov (.t 13))])))))))))
   (.cut
   (.seq
   (.ops [
   .op (some 6) none (.mov (.c (.bool false)))])
   .ret)))))
def r_L1_assigned : List RVar := [.tmp 6]
def n_L1_assigned : Nat := 30
theorem k_L1_assigned : chkFn Go.Proofs.Try.prog 25 n_L1_assigned r_L1_assigned c_L1_assigned = true := by kernel_rfl
theorem f_L1_assigned (l : List Asg) (v x : Int) (hl : l.length ≤ 140737488355328) : Fc Go.Proofs.Try.prog 25 [.sl .p (l.map asV), .int .i64 v, .int .i64 x] (.bool (asgB l v x)) := by
  refine Fn.step mixed k_L1_assigned ?_
  repeat (first | refine i_len rfl ?_ | refine i_s rfl ?_ | refine i_lenm rfl rfl rfl ?_ | refine c_seq ?_ | refine c_cut0 ?_ | refine c_ops ?_ | refine i_nil ?_ | refine e_seq ?_ | refine e_block ?_ | refine c_block ?_ | refine c_skip ?_ | refine c_ret ?_ | refine c_exit ?_ | refine e_exit rfl ?_ | refine i_s0 rfl ?_ | refine c_leaf ?_ | refine i_gt rfl ?_ | refine i_gf rfl ?_ | refine i_gd rfl ?_ | refine c_t rfl ?_ | refine c_f rfl ?_ | refine i_conv rfl (by simp only [InR, List.length_map]; omega) ?_ | refine i_add rfl rfl (by simp only [InR, List.length_map]; omega) ?_ | refine i_sub rfl rfl (by simp only [InR, List.length_map]; omega) ?_ | refine i_ixm rfl rfl (by assumption) ?_ | refine i_iai rfl rfl (by omega) (by assumption) rfl ?_ | refine i_iam rfl rfl (by assumption) rfl ?_ | refine i_tk rfl rfl (by omega) ?_ | refine i_stb rfl ?_ | refine i_alloc rfl ?_ | refine i_box rfl rfl ?_ | refine i_nv rfl ?_)
  refine c_for l.length (fun k => [(0, .sl .p (l.map asV)), (1, .int .i64 v), (2, .int .i64 x), (7, .int .i64 k)]) (fun _ => []) (fun k => asgB (l.take k) v x = false) (by simp [asgB]) ⟨by repeat (first | exact trivial | refine ⟨rfl, ?_⟩), by repeat (first | exact trivial | refine ⟨rfl, ?_⟩), rfl⟩ fun k hk hi => ?_
  repeat (first | refine i_len rfl ?_ | refine i_s rfl ?_ | refine i_lenm rfl rfl rfl ?_ | refine c_seq ?_ | refine c_cut0 ?_ | refine c_ops ?_ | refine i_nil ?_ | refine e_seq ?_ | refine e_block ?_ | refine c_block ?_ | refine c_skip ?_ | refine c_ret ?_ | refine c_exit ?_ | refine e_exit rfl ?_ | refine i_s0 rfl ?_ | refine c_leaf ?_ | refine i_gt rfl ?_ | refine i_gf rfl ?_ | refine i_gd rfl ?_ | refine c_t rfl ?_ | refine c_f rfl ?_ | refine i_conv rfl (by simp only [InR, List.length_map]; omega) ?_ | refine i_add rfl rfl (by simp only [InR, List.length_map]; omega) ?_ | refine i_sub rfl rfl (by simp only [InR, List.length_map]; omega) ?_ | refine i_ixm rfl rfl (by assumption) ?_ | refine i_iai rfl rfl (by omega) (by assumption) rfl ?_ | refine i_iam rfl rfl (by assumption) rfl ?_ | refine i_tk rfl rfl (by omega) ?_ | refine i_stb rfl ?_ | refine i_alloc rfl ?_ | refine i_box rfl rfl ?_ | refine i_nv rfl ?_)
  refine c_cond rfl (fun h => ?_) (fun h => ?_)
  · have hlt : k < l.length := by simpa using h
    obtain ⟨a, ha⟩ := get_some hlt
    clear h
    repeat' (first | refine i_len rfl ?_ | refine i_s rfl ?_ | refine i_lenm rfl rfl rfl ?_ | refine c_seq ?_ | refine c_cut0 ?_ | refine c_ops ?_ | refine i_nil ?_ | refine e_seq ?_ | refine e_block ?_ | refine c_block ?_ | refine c_skip ?_ | refine c_ret ?_ | refine c_exit ?_ | refine e_exit rfl ?_ | refine i_s0 rfl ?_ | refine c_leaf ?_ | refine i_gt rfl ?_ | refine i_gf rfl ?_ | refine i_gd rfl ?_ | refine c_t rfl ?_ | refine c_f rfl ?_ | refine i_conv rfl (by simp only [InR, List.length_map]; omega) ?_ | refine i_add rfl rfl (by simp only [InR, List.length_map]; omega) ?_ | refine i_sub rfl rfl (by simp only [InR, List.length_map]; omega) ?_ | refine i_ixm rfl rfl (by assumption) ?_ | refine i_iai rfl rfl (by omega) (by assumption) rfl ?_ | refine i_iam rfl rfl (by assumption) rfl ?_ | refine i_tk rfl rfl (by omega) ?_ | refine i_stb rfl ?_ | refine i_alloc rfl ?_ | refine i_box rfl rfl ?_ | refine i_nv rfl ?_ | refine c_node ?_ ?_ | refine i_g rfl (fun h => ?_) (fun h => ?_) | refine c_cond rfl (fun h => ?_) (fun h => ?_))
    all_goals first
      | (refine e_ret ⟨rfl, _, rfl, congrArg V.bool ?_⟩
         exact List.any_eq_true.2 ⟨a, mem_get ha, by grind⟩)
      | (refine e_for hlt ?_ ⟨by repeat (first | exact trivial | refine ⟨rfl, ?_⟩), by repeat (first | exact trivial | refine ⟨rfl, ?_⟩), rfl⟩
         unfold asgB at hi ⊢
         rw [take_succ_get ha, List.any_append, hi]
         simp only [List.any_cons, List.any_nil, Bool.or_false, Bool.false_or]
         grind)
      | (exfalso; grind)
  · have hge : ¬ k < l.length := by simpa using h
    rw [List.take_of_length_le (by omega)] at hi
    repeat' (first | refine i_len rfl ?_ | refine i_s rfl ?_ | refine i_lenm rfl rfl rfl ?_ | refine c_seq ?_ | refine c_cut0 ?_ | refine c_ops ?_ | refine i_nil ?_ | refine e_seq ?_ | refine e_block ?_ | refine c_block ?_ | refine c_skip ?_ | refine c_ret ?_ | refine c_exit ?_ | refine e_exit rfl ?_ | refine i_s0 rfl ?_ | refine c_leaf ?_ | refine i_gt rfl ?_ | refine i_gf rfl ?_ | refine i_gd rfl ?_ | refine c_t rfl ?_ | refine c_f rfl ?_ | refine i_conv rfl (by simp only [InR, List.length_map]; omega) ?_ | refine i_add rfl rfl (by simp only [InR, List.length_map]; omega) ?_ | refine i_sub rfl rfl (by simp only [InR, List.length_map]; omega) ?_ | refine i_ixm rfl rfl (by assumption) ?_ | refine i_iai rfl rfl (by omega) (by assumption) rfl ?_ | refine i_iam rfl rfl (by assumption) rfl ?_ | refine i_tk rfl rfl (by omega) ?_ | refine i_stb rfl ?_ | refine i_alloc rfl ?_ | refine i_box rfl rfl ?_ | refine i_nv rfl ?_ | refine c_node ?_ ?_ | refine i_g rfl (fun h => ?_) (fun h => ?_) | refine c_cond rfl (fun h => ?_) (fun h => ?_))
    exact e_ret ⟨rfl, _, rfl, congrArg V.bool hi⟩
end Hm
end
