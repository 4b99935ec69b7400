/- Part KHA of the proof. -/
import Derived.Test.YtmninopppdnhoaaGreatKPB
import Derived.Shelf.SlSortCmp.WholeK
import Derived.Shelf.Spec.SlicesGrow
set_option linter.unusedVariables false
set_option linter.unusedSimpArgs false
section
namespace Hm
open Go
theorem ct_of_fn {G : Type} {P : Program} {H : HT G} {f : Nat} {args : List V} {r : V} {pn : List Nat} {σ : Store} {g : G} (h : Fn P f (args.map (er σ 6)) r) (hfl : flatB r = true) (hpn : ∀ nm, nm ∉ pn → σ nm = .unused) :
    CT P H f args pn σ g fun v σ' g' => v = r ∧ σ' = σ ∧ g' = g :=
  ⟨h.1, fun J l hst hM hH w S F θ xs hs hargs => by
    have hcall := h.2 w (All w) _ (fun b hb => hb) (reps_map hargs (fun v x _ hr => hr.er hs 6))
    refine hcall.mono fun e w' he' => ?_
    obtain ⟨x', S', rfl, hr, hS1, hS2, hg⟩ := he'
    exact ⟨r, x', σ, g, _, F, θ, rfl, ⟨rfl, rfl, rfl⟩, St.grow hst hs hg (N := fun _ => False) (fun b hb => hb.elim) (fun b hb => hb.elim), .pure (hr.flat hfl), Fr.grow hs hg (fun b hb => hb.elim), hpn⟩⟩
theorem putRow_setI (w : World) (b : Nat) (c : Array Value) (e : TypeId) (fr : Nat × Nat) (d : Array Value) (hb : w.heap[b]? = some (.cells c e fr)) :
    Sort.putRow id w b 0 d = w.setRow b (Sort.putCells id 0 d c) := by
  unfold Sort.putRow Sort.mapBlock World.setRow
  congr 1
  apply Array.ext_getElem?
  intro k
  simp only [Array.getElem?_modify]
  by_cases hk : b = k
  · subst hk
    simp [hb, Sort.onCells]
  · simp [hk]
theorem putCells_getI (d : Array Value) (c : Array Value) (j : Nat) : (Sort.putCells id 0 d c)[j]? = (c[j]?).map fun x => if j < d.size then d[j]! else x := by
  unfold Sort.putCells
  rw [Array.getElem?_mapIdx]
  simp
theorem ups_same {σ : Store} {nm : Nat} {b : Blk} (h : σ nm = b) : ups σ nm b = σ := by
  funext k
  unfold ups
  cases hb : Nat.beq k nm with
  | true => have := Nat.eq_of_beq_eq_true hb; subst this; exact h.symm
  | false => rfl
theorem grow_eq {w w' : World} (h : Grow w w') : ∃ q os', w' = Sort.grow (w.drewN q) os' := by
  refine ⟨w'.drawn - w.drawn, w'.heap.extract w.heap.size w'.heap.size, ?_⟩
  obtain ⟨heap', tape', drawn', os', output'⟩ := w'
  obtain ⟨hs, e1, e2, e3, hb⟩ := h
  have e1 : os' = w.os := e1
  have e2 : tape' = w.tape := e2
  obtain ⟨e3, e4⟩ := e3
  have e3 : output' = w.output := e3
  have e4 : w.drawn ≤ drawn' := e4
  have hs : w.heap.size ≤ heap'.size := hs
  have hb : ∀ k, k < w.heap.size → heap'[k]? = w.heap[k]? := hb
  subst e1 e2 e3
  have eh : heap' = w.heap ++ heap'.extract w.heap.size heap'.size := by
    apply Array.ext_getElem?
    intro k
    by_cases hk : k < w.heap.size
    · rw [Array.getElem?_append_left hk]; exact hb k hk
    · rw [Array.getElem?_append_right (by omega), Array.getElem?_extract]
      by_cases hk2 : k < heap'.size
      · rw [if_pos (by omega)]; congr 1; omega
      · rw [if_neg (by omega), Array.getElem?_eq_none (by omega)]
  simp only [Sort.grow, World.drewN]
  congr 1
  omega
theorem rep_one {w : World} {S : Nat → Prop} {u : V} {v : Value} (h : RepP w S u v) (hl : leafB u = true) : v.oneCell' = true := by
  cases h <;> first
    | rfl
    | (exact absurd hl (by simp [leafB]))
theorem repP_agg {w : World} {S : Nat → Prop} {lv : List V} {arr : Array Value} (h : RepP w S (.agg lv) (.agg arr)) : lv.length = arr.size ∧ ∀ (j : Nat) (v : V), lv[j]? = some v → ∃ y, arr[j]? = some y ∧ RepP w S v y := by
  cases h with
  | agg _ xs hl h =>
    refine ⟨by simpa using hl, fun j v hv => ?_⟩
    have hj := (List.getElem?_eq_some_iff.1 hv).1
    have hx : xs[j]? = some xs[j] := List.getElem?_eq_getElem (by omega)
    exact ⟨xs[j], by simp, h j v _ hv hx⟩
structure EC {α : Type} (f : α → V) (ok : α → Prop) (k : Nat) (w : World) (S : Nat → Prop) where
  e : α
  cs : List Value
  hl : cs.length = k
  h1 : ∀ v ∈ cs, v.oneCell' = true
  ok : ok e
  rep : RepP w S (f e) (.agg cs.toArray)
theorem ct_sortF {G : Type} {P : Program} {H : HT G} {ρ : Shelf.Ren} (Ly : Go.Proofs.SlLaysF0.n6 P ρ) {α : Type} (f : α → V) (ok : α → Prop) (k : Nat) (k0 : 0 < k)
    (aE : ∀ w, (isAgg (ρ.t 24)).run P w = .ok true w) (zE : ∀ w, (Go.sizeOf (ρ.t 24)).run P w = .ok k w) (hf : ∀ x, ∃ lv, f x = .agg lv ∧ lv.length = k ∧ lv.all leafB = true)
    (cf : α → α → Int) (hO : Sort.SWO (Go.Proofs.ltOf cf)) (g0 : Nat) (eg : ∀ args w, (callFunc g0 args).run P w = .ok (.enter g0 args) w) (hcmp : ∀ a b, ok a → ok b → Fn P g0 [f a, f b] (.int .i64 (cf a b)))
    (nm gen : Nat) (l : List α) (hok : ∀ x ∈ l, ok x) {pn : List Nat} {σ : Store} {g : G} (hw : wd nm = k) (hσ : σ nm = .arr gen (l.map f)) (hpn : ∀ nm', nm' ∉ pn → σ nm' = .unused)
    (h0 : Fn P (ρ.f 6) [.sl .p [], .fn g0 []] (.tup [])) (hsz : l.length < 4611686018427387904) :
    CT P H (ρ.f 6) [.msl nm gen 0 l.length, .fn g0 []] pn σ g fun v σ' g' => v = .tup [] ∧ (∃ l' : List α, l'.Perm l ∧ (l'.Pairwise fun x y => ¬ cf y x < 0) ∧ σ' = ups σ nm (.arr gen (l'.map f))) ∧ g' = g := by
  by_cases hl : l = []
  · subst hl
    have := ct_of_fn (G := G) (H := H) (P := P) (f := ρ.f 6) (args := [.msl nm gen 0 0, .fn g0 []]) (r := .tup []) (pn := pn) (σ := σ) (g := g) (by simpa [er, hσ] using h0) rfl hpn
    refine CT_mono (fun v σ' g' h => ?_) this
    refine ⟨h.1, ⟨[], List.Perm.refl _, List.Pairwise.nil, ?_⟩, h.2.2⟩
    rw [h.2.1]
    exact (ups_same (by simpa using hσ)).symm
  refine ⟨h0.1, fun J lc hst hM hH w S F θ xs hs hargs => ?_⟩
  obtain ⟨hlen, hrep⟩ := hargs
  match xs, hlen with
  | [x, y], _ =>
  have hx := hrep 0 _ x rfl rfl
  have hy := hrep 1 _ y rfl rfl
  have hy0 : y = .func (.func g0) #[] #[] := by
    cases hy with
    | pure h =>
      cases h with
      | fn _ _ xs hl _ => match xs, hl with
        | [], _ => rfl
    | fn _ _ xs hl _ => match xs, hl with
      | [], _ => rfl
  subst hy0
  have hlen0 : 0 < l.length := List.length_pos_iff.2 hl
  obtain ⟨b, m, cap, hθ, hcap, rfl, hck, hle⟩ : ∃ b m cap, θ nm = some (b, m) ∧ l.length ≤ cap ∧ x = .slice (some ⟨b, 0 * m, none⟩) l.length cap ∧ CapOk w b ((0 + cap) * m) ∧ 0 + l.length ≤ (l.map f).length := by
    cases hx with
    | pure h => cases h
    | msl _ _ _ _ _ _ _ _ h =>
      rcases h _ hσ with h | ⟨h, _⟩
      · exact h
      · omega
  have hlv : (σ nm).live := live_arr hσ
  have hblk := hs.hblk nm
  rw [hσ] at hblk
  simp only [BlkOk] at hblk
  rcases hblk with ⟨hn, _⟩ | ⟨b', m', c, e, hθ', hb, hrows, ⟨hm, hsz'⟩, hcells⟩
  · rw [hθ] at hn; cases hn
  rw [hθ] at hθ'
  injection hθ' with hθ'
  injection hθ' with e1 e2
  subst e1 e2
  rw [hw] at hm
  subst hm
  have hgl : b < w.heap.size := (Array.getElem?_eq_some_iff.1 hb).1
  have hcs : l.length * m ≤ c.size := by simpa using hsz'
  have hnS : ∀ b', S b' → b' ≠ b := fun b' hb' e => hs.hliveS b' ⟨nm, m, hlv, by rw [e]; exact hθ⟩ hb'
  have hpos : ∀ i j, i < l.length → j < m → i * m + j < c.size := fun i j hi hj => by
    have : (i + 1) * m ≤ l.length * m := Nat.mul_le_mul_right _ hi
    rw [Nat.add_mul] at this
    omega
  have hex : ∀ i (hi : i < l.length), ∃ E : EC f ok m w S, E.e = l[i] ∧ ∀ j, j < m → E.cs[j]? = c[i * m + j]? := fun i hi => by
    obtain ⟨lv, q1, q2, q3⟩ := hf l[i]
    have hcell : ∀ j v, lv[j]? = some v → ∃ y, c[i * m + j]? = some y ∧ RepP w S v y := fun j v hv => hcells i j (f l[i]) v (by rw [List.getElem?_map, List.getElem?_eq_getElem hi]; rfl) (by rw [q1]; exact hv)
    have hget : ∀ j, j < m → ((List.range m).map fun j => c.getD (i * m + j) undef)[j]? = c[i * m + j]? := fun j hj => by
      have := hpos i j hi hj
      simp [hj, Array.getD, this]
    refine ⟨⟨l[i], (List.range m).map fun j => c.getD (i * m + j) undef, by simp, fun v hv => ?_, hok _ (List.getElem_mem hi), ?_⟩, rfl, hget⟩
    · obtain ⟨j, hj⟩ := List.getElem?_of_mem hv
      have hjm : j < m := by have := (List.getElem?_eq_some_iff.1 hj).1; simpa using this
      obtain ⟨u, hu⟩ : ∃ u, lv[j]? = some u := ⟨lv[j], List.getElem?_eq_getElem (by omega)⟩
      obtain ⟨y, hy1, hy2⟩ := hcell j u hu
      rw [hget j hjm, hy1] at hj
      cases hj
      exact rep_one hy2 (by rw [List.all_eq_true] at q3; exact q3 u (List.mem_of_getElem? hu))
    · rw [q1]
      refine .agg lv _ (by simp [q2]) fun j v x hv hxv => ?_
      have hjm : j < m := by have := (List.getElem?_eq_some_iff.1 hv).1; omega
      obtain ⟨y, hy1, hy2⟩ := hcell j v hv
      rw [hget j hjm, hy1] at hxv
      cases hxv
      exact hy2
  obtain ⟨el, hel⟩ : ∃ el : Fin l.length → EC f ok m w S, ∀ i, (el i).e = l[i.1] ∧ ∀ j, j < m → (el i).cs[j]? = c[i.1 * m + j]? :=
    ⟨fun i => (hex i.1 i.2).choose, fun i => (hex i.1 i.2).choose_spec⟩
  haveI : Inhabited (EC f ok m w S) := ⟨el ⟨0, hlen0⟩⟩
  obtain ⟨d, hd⟩ : ∃ d : Array (EC f ok m w S), d = Array.ofFn el := ⟨_, rfl⟩
  have hds : d.size = l.length := by rw [hd]; simp
  have hdg : ∀ i (hi : i < l.length), d[i]! = el ⟨i, hi⟩ := fun i hi => by
    rw [getElem!_pos d i (by omega)]
    simp [hd]
  have hH : Sort.HoldsK (fun E : EC f ok m w S => E.cs) m w b 0 d := by
    intro t ht
    have ht' : t < l.length * m := by rw [Sort.size_flatK, hds] at ht; exact ht
    have hdiv : t / m < l.length := Nat.div_lt_of_lt_mul (by rw [Nat.mul_comm]; exact ht')
    have hmod : t % m < m := Nat.mod_lt _ k0
    have htm : t / m * m + t % m = t := by rw [Nat.mul_comm]; exact Nat.div_add_mod t m
    refine ⟨?_, ?_⟩
    · rw [Nat.zero_add, cell_of_row w b t c e (0, 0) hb]
      show _ = some (id (Sort.flatK _ m d)[t]!)
      rw [Sort.get_flatK _ _ _ _ (by rw [hds]; exact ht'), hdg _ hdiv]
      have h2 := (hel ⟨t / m, hdiv⟩).2 (t % m) hmod
      simp only at h2
      rw [htm] at h2
      have h3 : t < c.size := by omega
      rw [Array.getElem?_eq_getElem h3] at h2 ⊢
      simp only [id]
      congr 1
      rw [getElem!_pos (el ⟨t / m, hdiv⟩).cs (t % m) (List.getElem?_eq_some_iff.1 h2).1]
      exact (List.getElem?_eq_some_iff.1 h2).2.symm
    · simp [World.frozen?, hb]
  have hheap : ∀ (mm : Nat) (dk : Array (EC f ok m w S)) (os : Array Go.Obj) (b' : Nat), b' ≠ b → b' < w.heap.size → (Go.Proofs.sortWorldK (fun E : EC f ok m w S => E.cs) m w b 0 mm dk os).heap[b']? = w.heap[b']? := fun mm dk os b' hne hlt => by
    unfold Go.Proofs.sortWorldK Sort.putRowK
    rw [putRow_setI (Sort.ahead w mm) b c e (0, 0) _ hb]
    show ((World.setRow _ b _).heap ++ os)[b']? = _
    rw [Array.getElem?_append_left (by rw [setRow_size]; exact hlt), setRow_old _ _ _ hne]
    rfl
  have hcmp' : Go.Proofs.CmpLays P g0 #[] (fun E : EC f ok m w S => E.cs) m (fun x y => cf x.e y.e) b 0 d.size w := by
    intro mm os dk hdk x y
    have hc := (hcmp x.e y.e x.ok y.ok).2 (Go.Proofs.sortWorldK (fun E : EC f ok m w S => E.cs) m w b 0 mm dk os) S [.agg x.cs.toArray, .agg y.cs.toArray] (fun b' hb' => by
        have h1 := hs.hS b' hb'
        unfold Go.Proofs.sortWorldK Sort.putRowK
        rw [putRow_setI (Sort.ahead w mm) b c e (0, 0) _ hb]
        show b' < ((World.setRow _ b _).heap ++ os).size
        rw [Array.size_append, setRow_size]
        show b' < w.heap.size + _
        omega)
      ⟨rfl, fun i v z h1 h2 => by
        match i with
        | 0 => cases h1; cases h2; exact x.rep.mono (fun b' hb' => hheap mm dk os b' (hnS b' hb') (hs.hS b' hb')) fun _ h => h
        | 1 => cases h1; cases h2; exact y.rep.mono (fun b' hb' => hheap mm dk os b' (hnS b' hb') (hs.hS b' hb')) fun _ h => h
        | i + 2 => cases h1⟩
    refine ((callsIn_wide (n := 0)).1 hc).mono fun en w' he' => ?_
    obtain ⟨x', S', rfl, hr, _, _, hgw⟩ := he'
    cases hr
    exact ⟨rfl, grow_eq hgw⟩
  have hO' : Sort.SWO (Go.Proofs.ltOf fun x y : EC f ok m w S => cf x.e y.e) := ⟨fun x => hO.irrefl x.e, fun x y z => hO.trans x.e y.e z.e, fun x y z => hO.ntrans x.e y.e z.e⟩
  have hcall := (callsIn_wide (n := 0)).2 (Go.Proofs.AnyQ.slices_SortFunc Ly m aE zE (fun E : EC f ok m w S => E.cs) (fun x => x.hl) (fun x => x.h1) (fun x y => cf x.e y.e) hO' g0 #[] b 0 cap d w eg hcmp' hH hgl (by rw [hds]; exact hsz))
  rw [hds] at hcall
  simp only [Nat.zero_mul]
  refine hcall.mono fun en w' he' => ?_
  obtain ⟨rfl, d', n, os, hperm, hsorted, rfl⟩ := he'
  have hd's : d'.size = l.length := hperm.1.trans hds
  obtain ⟨l', hl'⟩ : ∃ l' : List α, l' = d'.toList.map EC.e := ⟨_, rfl⟩
  have hll : l'.length = l.length := by rw [hl']; simp [hd's]
  have hpl : l'.Perm l := by
    have h1 := hperm.2.2
    rw [← hds] at h1
    rw [show d'.extract 0 d.size = d' from by rw [show d.size = d'.size by omega]; simp, show d.extract 0 d.size = d by simp] at h1
    have h2 := h1.map EC.e
    rw [hl']
    refine h2.trans ?_
    have : d.toList.map EC.e = l := by
      apply List.ext_getElem
      · simp [hds]
      · intro i h3 h4
        simp only [List.getElem_map, Array.getElem_toList]
        have := hdg i h4
        rw [getElem!_pos d i (by omega)] at this
        rw [this]
        exact (hel ⟨i, h4⟩).1
    rw [this]
  have hsl : l'.Pairwise fun x y => ¬ cf y x < 0 := by
    rw [hl', List.pairwise_iff_getElem]
    intro i j hi hj hij
    have hi' : i < d'.size := by simpa using hi
    have hj' : j < d'.size := by simpa using hj
    have := hsorted i j (Nat.zero_le _) hij (by omega)
    rw [getElem!_pos d' i hi', getElem!_pos d' j hj'] at this
    simp only [List.getElem_map, Array.getElem_toList]
    simpa [Go.Proofs.ltOf] using this
  have hg1 : Grow w (Sort.ahead w n) := ⟨Nat.le_refl _, rfl, rfl, ⟨rfl, by simp⟩, fun _ _ => rfl⟩
  have hs1 := St.grow hst hs hg1 (N := fun _ => False) (fun b hb => hb.elim) (fun b hb => hb.elim)
  have hf1 := Fr.grow hs hg1 (N := fun _ => False) (fun b hb => hb.elim)
  have hb1 : (Sort.ahead w n).heap[b]? = some (.cells c e (0, 0)) := hb
  unfold Go.Proofs.sortWorldK Sort.putRowK
  rw [putRow_setI _ b c e (0, 0) _ hb1]
  obtain ⟨c', hc'⟩ : ∃ c', c' = Sort.putCells id 0 (Sort.flatK (fun E : EC f ok m w S => E.cs) m d') c := ⟨_, rfl⟩
  rw [← hc']
  have hcz : c'.size = c.size := by rw [hc']; simp [Sort.putCells]
  have hf2 : Fr (Sort.ahead w n) (fun b => S b ∨ False) F θ σ ((Sort.ahead w n).setRow b c') (fun b => S b ∨ False) F θ (ups σ nm (.arr gen (l'.map f))) := by
    refine Fr.write hs1 nm b m c c' e _ hlv hθ hb1 hcz ?_
    rw [hσ]
    exact ⟨l'.map f, .inl ⟨rfl, by simp [hll]⟩⟩
  have hk : BlkOk ((Sort.ahead w n).setRow b c') (fun b => S b ∨ False) θ (ups σ nm (.arr gen (l'.map f))) lc nm (.arr gen (l'.map f)) := by
    refine .inr ⟨b, m, c', e, hθ, setRow_heap _ b c c' _ _ hb1, fun row hrow => ?_, ⟨hw.symm, by simp [hll, hcz]; exact hcs⟩, fun i j row v h1 h2 => ?_⟩
    · obtain ⟨z, _, rfl⟩ := List.mem_map.1 hrow
      obtain ⟨lv, q1, q2, _⟩ := hf z
      rw [q1]
      exact q2
    · rw [List.getElem?_map] at h1
      cases h3 : l'[i]? with
      | none => rw [h3] at h1; cases h1
      | some z =>
        rw [h3] at h1
        cases h1
        have hi : i < l'.length := (List.getElem?_eq_some_iff.1 h3).1
        have hid : i < d'.size := by omega
        obtain ⟨lv, q1, q2, q3⟩ := hf z
        rw [q1] at h2
        have hjm : j < m := by have := (List.getElem?_eq_some_iff.1 h2).1; simp only [V.cells] at this; omega
        have hez : (d'[i]!).e = z := by
          have := (List.getElem?_eq_some_iff.1 h3).2
          simp only [hl', List.getElem_map, Array.getElem_toList] at this
          rw [getElem!_pos d' i hid]
          exact this
        have hrp := (d'[i]!).rep
        rw [hez, q1] at hrp
        obtain ⟨_, hrp2⟩ := repP_agg hrp
        obtain ⟨y, hy1, hy2⟩ := hrp2 j v h2
        have hp := hpos i j (by omega) hjm
        have hlt : i * m + j < d'.size * m := by
          have : (i + 1) * m ≤ d'.size * m := Nat.mul_le_mul_right _ hid
          rw [Nat.add_mul] at this
          omega
        refine ⟨y, ?_, hy2.mono (fun b' hb' => ?_) fun _ h => .inl h⟩
        · rw [hc', putCells_getI, Array.getElem?_eq_getElem hp]
          simp only [Option.map_some, Sort.size_flatK, if_pos hlt]
          rw [Sort.get_flatK _ _ _ _ hlt]
          have e1 : (i * m + j) / m = i := by rw [Nat.mul_comm, Nat.mul_add_div k0, Nat.div_eq_of_lt hjm, Nat.add_zero]
          have e2 : (i * m + j) % m = j := by rw [Nat.mul_comm, Nat.mul_add_mod, Nat.mod_eq_of_lt hjm]
          rw [e1, e2]
          congr 1
          have hy3 : (d'[i]!).cs[j]? = some y := by simpa using hy1
          rw [getElem!_pos (d'[i]!).cs j (List.getElem?_eq_some_iff.1 hy3).1]
          exact (List.getElem?_eq_some_iff.1 hy3).2
        · rw [setRow_old _ _ _ (hnS b' hb')]
          rfl
  have hs2 := St.write hst hs1 nm b m c' _ hlv hθ hf2 hk
  have hg3 : Grow ((Sort.ahead w n).setRow b c') (Sort.grow ((Sort.ahead w n).setRow b c') os) :=
    ⟨by simp [Sort.grow], rfl, rfl, Out.refl _, fun b' hb' => by simp [Sort.grow, Array.getElem?_append_left hb']⟩
  have hs3 := St.grow hst hs2 hg3 (N := fun _ => False) (fun b hb => hb.elim) (fun b hb => hb.elim)
  have hf3 := Fr.grow hs2 hg3 (N := fun _ => False) (fun b hb => hb.elim)
  refine ⟨.tup [], _, _, g, _, F, θ, rfl, ⟨rfl, ⟨l', hpl, hsl, rfl⟩, rfl⟩, hs3, .pure (.tup [] [] rfl fun i v x h1 h2 => by simp at h1), (hf1.trans hs1 hf2).trans hs2 hf3, fun nm' hnm => ?_⟩
  have h5 : nm' ≠ nm := fun h => by rw [h] at hnm; have := hpn nm hnm; rw [this] at hσ; cases hσ
  rw [upt_ne σ _ h5]
  exact hpn nm' hnm
theorem zeroCells_size (z : Array Value) (n : Nat) : (Builtin.zeroCells z n).size = n * z.size := by simp [Builtin.zeroCells]
theorem ct_grow {G : Type} {P : Program} {H : HT G} {ρ : Shelf.Ren} (Ly : Go.Proofs.Lays8.n4 P ρ) (i0 : TypeInfo) (z : Value) (k : Nat) (hi0 : P.info? (ρ.t 25) = some i0) (hz0 : i0.zero = some z) (hs0 : i0.size = k) (hzk : z.cells.size = k) (k0 : 0 < k)
    (hcb : callable P (ρ.f 4) = true) (nm n : Nat) {pn : List Nat} {σ : Store} {g : G} (hw : wd nm = k) (hσ : σ nm = .unused) (hm : nm ∈ pn) (hpn : ∀ nm', nm' ∉ pn → σ nm' = .unused) (hbig : n * i0.bytes ≤ 140737488355328) (h63 : n ≤ 4611686018427387904) :
    CT P H (ρ.f 4) [.sl .nil [], .int .i64 n] pn σ g fun v σ' g' => v = .msl nm 0 0 0 ∧ σ' = ups σ nm (.arr 0 []) ∧ g' = g := by
  refine ⟨hcb, fun J lc hst hM hH w S F θ xs hs hargs => ?_⟩
  obtain ⟨hlen, hrep⟩ := hargs
  match xs, hlen with
  | [x, y], _ =>
  have hx := hrep 0 _ x rfl rfl
  have hy := hrep 1 _ y rfl rfl
  have hy0 : y = .int .i64 n := by
    cases hy with
    | pure h => cases h; rfl
  subst hy0
  obtain ⟨ad, rfl⟩ : ∃ ad, x = .slice ad 0 0 := by
    cases hx with
    | pure h => cases h with
      | nilsl ad => exact ⟨ad, rfl⟩
  have hθ : θ nm = none := by have := hs.hblk nm; rw [hσ] at this; exact this
  have hpn' : ∀ b : Blk, ∀ nm', nm' ∉ pn → ups σ nm b nm' = .unused := fun b nm' h => by
    rw [upt_ne σ _ (fun e => h (by rw [e]; exact hm))]
    exact hpn nm' h
  by_cases hn : n = 0
  · subst hn
    have hcall := (callsIn_wide (n := 0)).2 (Go.Proofs.Any8.slices_Grow_room Ly ad 0 0 0 w (Nat.le_refl _) (by omega) (by omega) (Nat.le_refl _))
    refine hcall.mono fun en w' he' => ?_
    obtain ⟨rfl, rfl⟩ := he'
    refine ⟨_, _, _, g, S, F, θ, rfl, ⟨rfl, rfl, rfl⟩, St.fresh hst hs nm (.arr 0 []) hσ (.inl ⟨hθ, rfl⟩), ?_, Fr.fresh nm (.arr 0 []) hσ hθ, hpn' _⟩
    exact .msl nm 0 0 0 _ rfl (by rw [upt_self]; intro h; cases h) (fun _ _ _ => Nat.zero_le _) (fun rows _ => .inr ⟨rfl, ad, rfl⟩)
  · have hcall := (callsIn_wide (n := 0)).2 (Go.Proofs.Any8.slices_Grow_grow Ly i0 z hi0 hz0 (by omega) ad 0 0 n [] w (Nat.le_refl _) (by omega) (by rw [Nat.zero_add]; exact hbig) (by omega) (by simp) (fun _ => rfl) (fun a _ j v h => by simp at h))
    refine hcall.mono fun en w' he' => ?_
    obtain ⟨rfl, rfl⟩ := he'
    have hG := Go.grownCap_ge w (0 + n) 0 (ρ.t 25)
    generalize grownCap w (0 + n) 0 (ρ.t 25) = GG at *
    generalize hCS : ([] : List Value).toArray ++ Builtin.zeroCells z.cells (0 + n - 0) ++ Builtin.zeroCells z.cells (GG - (0 + n)) = CS
    have hcs : CS.size = GG * k := by
      rw [← hCS]
      simp only [Array.size_append, zeroCells_size, hzk]
      have : (0 + n - 0) * k + (GG - (0 + n)) * k = GG * k := by rw [← Nat.add_mul]; congr 1; omega
      simpa using this
    obtain ⟨hsd, hfd⟩ := St.drew hst hs
    have hk : BlkOk (w.drew.alloc (.cells CS (ρ.t 25))) S (upn θ nm (some (w.drew.heap.size, k))) (ups σ nm (.arr 0 [])) lc nm (.arr 0 []) :=
      .inr ⟨w.drew.heap.size, k, CS, ρ.t 25, upn_self _ _ _, heap_alloc_new' _ _, fun row h => by simp at h, ⟨hw.symm, by simp⟩, fun i j row v h => by simp at h⟩
    have hs2 := St.alloc hst hsd (.cells CS (ρ.t 25)) nm k (.arr 0 []) hσ hk
    refine ⟨.msl nm 0 0 0, _, _, g, S, F, _, rfl, ⟨rfl, rfl, rfl⟩, hs2, ?_, hfd.trans hsd (Fr.alloc hsd (.cells CS (ρ.t 25)) nm k (.arr 0 []) hσ), hpn' _⟩
    refine .msl nm 0 0 0 _ rfl (by rw [upt_self]; intro h; cases h) (fun _ _ _ => Nat.zero_le _) (fun rows _ => .inl ⟨w.drew.heap.size, k, GG, upn_self _ _ _, Nat.zero_le _, by rw [Nat.zero_mul]; rfl, ?_, by simp⟩)
    exact ⟨CS, ρ.t 25, heap_alloc_new' _ _, by rw [hcs, Nat.zero_add]; exact Nat.le_refl _⟩
end Hm
end
section
namespace Go.Proofs
open Go.Shelf
def Tryz.sortF_ren : Go.Shelf.Ren := ⟨fun | 6 => 140 | 14 => 146 | 15 => 147 | 20 => 148 | 21 => 149 | 22 => 150 | 23 => 151 | 24 => 152 | 25 => 153 | 26 => 154 | 27 => 155 | 28 => 156 | 29 => 157 | 46 => 158 | 47 => 159 | 48 => 160 | 49 => 161 | 50 => 162 | 57 => 163 | n => n, fun | 0 => 0 | 3 => 3 | 4 => 4 | 5 => 5 | 9 => 9 | 22 => 27 | 25 => 178 | 39 => 192 | 45 => 194 | 46 => 195 | 50 => 139 | 53 => 201 | 55 => 203 | 66 => 204 | 70 => 208 | 76 => 210 | 77 => 211 | 24 => 62 | n => n, fun n => n⟩
theorem Tryz.sortF_lays : SlLaysF0.n6 Tryz.prog Tryz.sortF_ren :=
  {
    mixed := by kernel_rfl,
    f6 := ⟨Tryz.f140.name, by kernel_rfl, Tryz.func140.trans (congrArg some (by kernel_rfl))⟩,
    f14 := ⟨Tryz.f146.name, by kernel_rfl, Tryz.func146.trans (congrArg some (by kernel_rfl))⟩,
    f15 := Tryz.func147.trans (congrArg some (by kernel_rfl)),
    f20 := ⟨Tryz.f148.name, by kernel_rfl, Tryz.func148.trans (congrArg some (by kernel_rfl))⟩,
    f21 := ⟨Tryz.f149.name, by kernel_rfl, Tryz.func149.trans (congrArg some (by kernel_rfl))⟩,
    f22 := ⟨Tryz.f150.name, by kernel_rfl, Tryz.func150.trans (congrArg some (by kernel_rfl))⟩,
    f23 := ⟨Tryz.f151.name, by kernel_rfl, Tryz.func151.trans (congrArg some (by kernel_rfl))⟩,
    f24 := ⟨Tryz.f152.name, by kernel_rfl, Tryz.func152.trans (congrArg some (by kernel_rfl))⟩,
    f25 := ⟨Tryz.f153.name, by kernel_rfl, Tryz.func153.trans (congrArg some (by kernel_rfl))⟩,
    f26 := ⟨Tryz.f154.name, by kernel_rfl, Tryz.func154.trans (congrArg some (by kernel_rfl))⟩,
    f27 := ⟨Tryz.f155.name, by kernel_rfl, Tryz.func155.trans (congrArg some (by kernel_rfl))⟩,
    f28 := Tryz.func156.trans (congrArg some (by kernel_rfl)),
    f29 := Tryz.func157.trans (congrArg some (by kernel_rfl)),
    f46 := ⟨Tryz.f158.name, by kernel_rfl, Tryz.func158.trans (congrArg some (by kernel_rfl))⟩,
    f47 := Tryz.func159.trans (congrArg some (by kernel_rfl)),
    f48 := Tryz.func160.trans (congrArg some (by kernel_rfl)),
    f49 := ⟨Tryz.f161.name, by kernel_rfl, Tryz.func161.trans (congrArg some (by kernel_rfl))⟩,
    f50 := ⟨Tryz.f162.name, by kernel_rfl, Tryz.func162.trans (congrArg some (by kernel_rfl))⟩,
    f57 := ⟨Tryz.f163.name, by kernel_rfl, Tryz.func163.trans (congrArg some (by kernel_rfl))⟩,
    t0 := Tryz.underlying0,
    a0 := Tryz.isAgg0,
    z0 := Tryz.sizeOf0,
    v0 := Tryz.zeroValue0,
    t3 := Tryz.underlying3,
    a3 := Tryz.isAgg3,
    z3 := Tryz.sizeOf3,
    v3 := Tryz.zeroValue3,
    t4 := Tryz.underlying4,
    a4 := Tryz.isAgg4,
    z4 := Tryz.sizeOf4,
    v4 := Tryz.zeroValue4,
    t5 := Tryz.underlying5,
    a5 := Tryz.isAgg5,
    z5 := Tryz.sizeOf5,
    v5 := Tryz.zeroValue5,
    t9 := Tryz.underlying9,
    a9 := Tryz.isAgg9,
    z9 := Tryz.sizeOf9,
    v9 := Tryz.zeroValue9,
    t22 := Tryz.underlying27,
    a22 := Tryz.isAgg27,
    z22 := Tryz.sizeOf27,
    v22 := Tryz.zeroValue27,
    t25 := Tryz.underlying178,
    a25 := Tryz.isAgg178,
    z25 := Tryz.sizeOf178,
    v25 := Tryz.zeroValue178,
    t39 := Tryz.underlying192,
    a39 := Tryz.isAgg192,
    z39 := Tryz.sizeOf192,
    v39 := Tryz.zeroValue192,
    t45 := Tryz.underlying194,
    a45 := Tryz.isAgg194,
    z45 := Tryz.sizeOf194,
    v45 := Tryz.zeroValue194,
    t46 := Tryz.underlying195,
    a46 := Tryz.isAgg195,
    z46 := Tryz.sizeOf195,
    v46 := Tryz.zeroValue195,
    t50 := Tryz.underlying139,
    a50 := Tryz.isAgg139,
    z50 := Tryz.sizeOf139,
    v50 := Tryz.zeroValue139,
    t53 := Tryz.underlying201,
    a53 := Tryz.isAgg201,
    z53 := Tryz.sizeOf201,
    v53 := Tryz.zeroValue201,
    t55 := Tryz.underlying203,
    a55 := Tryz.isAgg203,
    z55 := Tryz.sizeOf203,
    v55 := Tryz.zeroValue203,
    t66 := Tryz.underlying204,
    a66 := Tryz.isAgg204,
    z66 := Tryz.sizeOf204,
    v66 := Tryz.zeroValue204,
    t70 := Tryz.underlying208,
    a70 := Tryz.isAgg208,
    z70 := Tryz.sizeOf208,
    v70 := Tryz.zeroValue208,
    t76 := Tryz.underlying210,
    a76 := Tryz.isAgg210,
    z76 := Tryz.sizeOf210,
    v76 := Tryz.zeroValue210,
    t77 := Tryz.underlying211,
    a77 := Tryz.isAgg211,
    z77 := Tryz.sizeOf211,
    v77 := Tryz.zeroValue211 }
def Tryz.grow_ren : Go.Shelf.Ren := ⟨fun | 4 => 145 | n => n, fun | 0 => 0 | 3 => 3 | 4 => 4 | 9 => 9 | 20 => 20 | 22 => 27 | 25 => 62 | n => n, fun n => n⟩
theorem Tryz.grow_lays : Lays8.n4 Tryz.prog Tryz.grow_ren :=
  {
    mixed := by kernel_rfl,
    f4 := ⟨Tryz.f145.name, by kernel_rfl, Tryz.func145.trans (congrArg some (by kernel_rfl))⟩,
    t0 := Tryz.underlying0,
    a0 := Tryz.isAgg0,
    z0 := Tryz.sizeOf0,
    v0 := Tryz.zeroValue0,
    t3 := Tryz.underlying3,
    a3 := Tryz.isAgg3,
    z3 := Tryz.sizeOf3,
    v3 := Tryz.zeroValue3,
    t4 := Tryz.underlying4,
    a4 := Tryz.isAgg4,
    z4 := Tryz.sizeOf4,
    v4 := Tryz.zeroValue4,
    t9 := Tryz.underlying9,
    a9 := Tryz.isAgg9,
    z9 := Tryz.sizeOf9,
    v9 := Tryz.zeroValue9,
    t20 := Tryz.underlying20,
    a20 := Tryz.isAgg20,
    z20 := Tryz.sizeOf20,
    v20 := Tryz.zeroValue20,
    t22 := Tryz.underlying27,
    a22 := Tryz.isAgg27,
    z22 := Tryz.sizeOf27,
    v22 := Tryz.zeroValue27 }
end Go.Proofs
end
section
namespace Hm
open Go
set_option maxRecDepth 100000
set_option maxHeartbeats 4000000
def c_math_bits_Len64 : Cmd :=
 (qS [qc 2 0]
 (qT (qS [qm 3 0, qq 4 (.bin .geq false [] (.t 3) (.c (.int .u64 4294967296)))]
 (.cond (.t 4) (qS [qm 5 0, qq 6 (.bin .shr false [] (.t 5) (.c (.int .u64 32))), qm 0 6]
 (.ops [qc 2 32])) .skip))
 (qT (qS [qm 7 0, qq 8 (.bin .geq false [] (.t 7) (.c (.int .u64 65536)))]
 (.cond (.t 8) (qS [qm 9 0, qq 10 (.bin .shr false [] (.t 9) (.c (.int .u64 16))), qm 0 10]
 (.ops [qm 11 2, qv 12 .add [] 11 16, qm 2 12])) .skip))
 (qT (qS [qm 13 0, qq 14 (.bin .geq false [] (.t 13) (.c (.int .u64 256)))]
 (.cond (.t 14) (qS [qm 15 0, qq 16 (.bin .shr false [] (.t 15) (.c (.int .u64 8))), qm 0 16]
 (.ops [qm 17 2, qv 18 .add [] 17 8, qm 2 18])) .skip))
 (.seq (.ops [qm 19 2, qm 20 0, qq 21 (.conv .u8 (.t 20)), qq 22 (.index (.c (.str [0, 1, 2, 2, 3, 3, 3, 3, 4, 4, 4, 4, 4, 4, 4, 4, 5, 5, 5, 5, 5, 5, 5, 5, 5, 5, 5, 5, 5, 5, 5, 5, 6, 6, 6, 6, 6, 6, 6, 6, 6, 6, 6, 6, 6, 6, 6, 6, 6, 6, 6, 6, 6, 6, 6, 6, 6, 6, 6, 6, 6, 6, 6, 6, 7, 7, 7, 7, 7, 7, 7, 7, 7, 7, 7, 7, 7, 7, 7, 7, 7, 7, 7, 7, 7, 7, 7, 7, 7, 7, 7, 7, 7, 7, 7, 7, 7, 7, 7, 7, 7, 7, 7, 7, 7, 7, 7, 7, 7, 7, 7, 7, 7, 7, 7, 7, 7, 7, 7, 7, 7, 7, 7, 7, 7, 7, 7, 7, 8, 8, 8, 8, 8, 8, 8, 8, 8, 8, 8, 8, 8, 8, 8, 8, 8, 8, 8, 8, 8, 8, 8, 8, 8, 8, 8, 8, 8, 8, 8, 8, 8, 8, 8, 8, 8, 8, 8, 8, 8, 8, 8, 8, 8, 8, 8, 8, 8, 8, 8, 8, 8, 8, 8, 8, 8, 8, 8, 8, 8, 8, 8, 8, 8, 8, 8, 8, 8, 8, 8, 8, 8, 8, 8, 8, 8, 8, 8, 8, 8, 8, 8, 8, 8, 8, 8, 8, 8, 8, 8, 8, 8, 8, 8, 8, 8, 8, 8, 8, 8, 8, 8, 8, 8, 8, 8, 8, 8, 8, 8, 8, 8, 8, 8, 8, 8, 8, 8, 8, 8, 8, 8, 8, 8, 8, 8, 8])) (.t 21)), qq 23 (.conv .i64 (.t 22)), qu 24 .add [] 19 23, qm 2 24]) .ret)))))
def r_math_bits_Len64 : List RVar := [.tmp 2]
def n_math_bits_Len64 : Nat := 25
theorem k_math_bits_Len64 : chkFn Go.Proofs.Tryz.prog 157 n_math_bits_Len64 r_math_bits_Len64 c_math_bits_Len64 = true := by kernel_rfl
theorem f_bits_Len64_0 : Fc Go.Proofs.Tryz.prog 157 [.int .u64 0] (.int .i64 0) := by
  refine Fn.step mixed k_math_bits_Len64 ?_
  repeat' (first | refine i_s rfl ?_ | refine sw ?_ | refine c_f rfl ?_ | refine jc rfl ?_ | fail)
  refine i_ix rfl rfl (by decide) (c := 0) (by decide +kernel) ?_
  skip
  refine i_conv (n := 0) rfl ⟨by decide, by decide⟩ ?_
  repeat' (first | refine i_s rfl ?_ | refine sw ?_ | refine ja rfl rfl ?_ | fail)
  exact e_ret ⟨rfl, _, rfl, rfl⟩
def c_math_bits_Len : Cmd :=
 (qS [qc 2 0]
 (qT (.cond (.c (.bool false)) (.seq (.ops [qm 3 0, qq 4 (.conv .u32 (.t 3)), qk 5 156 [4], qm 2 5]) .ret) .skip)
 (.seq (.ops [qm 6 0, qk 7 157 [6], qm 2 7]) .ret)))
def r_math_bits_Len : List RVar := [.tmp 2]
def n_math_bits_Len : Nat := 8
theorem k_math_bits_Len : chkFn Go.Proofs.Tryz.prog 147 n_math_bits_Len r_math_bits_Len c_math_bits_Len = true := by kernel_rfl
theorem f_bits_Len_0 : Fc Go.Proofs.Tryz.prog 147 [.int .u64 0] (.int .i64 0) := by
  refine Fn.step mixed k_math_bits_Len ?_
  repeat' (first | refine i_s rfl ?_ | refine sw ?_ | refine c_f rfl ?_ | refine sf rfl rfl f_bits_Len64_0 ?_ | fail)
  exact e_ret ⟨rfl, _, rfl, rfl⟩
def c_slices_insertionSortCmpFunc_Literal : Cmd :=
 (qS [qm 10 1, qv 11 .add [] 10 1, qm 8 11]
 (.block 0 (.loop (qT (qS [qm 12 8, qm 13 2, qu 14 .lss [] 12 13]
 (.cond (.t 14) .skip (.exit 0)))
 (qT (.block 1 (qS [qm 17 8, qm 9 17]
 (.block 2 (.loop (qT (qS [qm 18 9, qm 19 1, qu 20 .gtr [] 18 19, qm 21 20, qg 22 21 true (.mov (.t 3)), qg 23 21 true (.mov (.t 0)), qg 24 21 true (.mov (.t 9)), qg 25 21 true (.iaddr 3 (.t 23) (.t 24)), qg 26 21 true (.load true 3 (.t 25)), qg 27 21 true (.mov (.t 0)), qg 28 21 true (.mov (.t 9)), qg 29 21 true (.bin .sub false [] (.t 28) (.c (.int .i64 1))), qg 30 21 true (.iaddr 3 (.t 27) (.t 29)), qg 31 21 true (.load true 3 (.t 30)), qg 32 21 true (.call .f (.t 22) [.t 26, .t 31]), qg 33 21 true (.bin .lss false [] (.t 32) (.c (.int .i64 0))), qq 34 (.pick (.t 21) (.t 33) (.c (.bool false)))]
 (.cond (.t 34) .skip (.exit 2)))
 (qT (.block 3 (.ops [qm 37 0, qm 38 9, qm 39 0, qm 40 9, qv 41 .sub [] 40 1, qm 42 0, qm 43 9, qv 44 .sub [] 43 1, qi 45 3 42 44, qL 46 3 45, qm 47 0, qm 48 9, qi 49 3 47 48, qL 50 3 49, qi 51 3 37 38, qs 3 51 46, qi 52 3 39 41, qs 3 52 50]))
 (.ops [qm 35 9, qv 36 .sub [] 35 1, qm 9 36])))))))
 (.ops [qm 15 8, qv 16 .add [] 15 1, qm 8 16]))))))
def r_slices_insertionSortCmpFunc_Literal : List RVar := []
def n_slices_insertionSortCmpFunc_Literal : Nat := 53
theorem k_slices_insertionSortCmpFunc_Literal : chkFn Go.Proofs.Tryz.prog 148 n_slices_insertionSortCmpFunc_Literal r_slices_insertionSortCmpFunc_Literal c_slices_insertionSortCmpFunc_Literal = true := by kernel_rfl
theorem f_insertionSortF_0 (v : V) (hv : closedB [] v = true) : Fc Go.Proofs.Tryz.prog 148 [.sl .p [], .int .i64 0, .int .i64 0, v] (.tup []) := by
  refine Fn.step mixed k_slices_insertionSortCmpFunc_Literal ?_
  repeat' (first | refine i_s rfl ?_ | refine sw ?_ | refine ja rfl rfl ?_ | fail)
  refine c_lp (ι := Unit) (fun _ => [(0, .sl .p []), (1, .int .i64 0), (2, .int .i64 0), (8, .int .i64 1)]) (fun _ => []) (fun _ => True) (fun _ => 0) () trivial ft fun _ _ => ?_
  repeat' (first | refine i_s rfl ?_ | refine sw ?_ | refine c_f rfl ?_)
  refine e_end ⟨rfl, _, rfl, rfl⟩
def c_slices_pdqsortCmpFunc_Literal : Cmd :=
 (qS [qb 10 true]
 (qS [qb 11 true]
 (.block 0 (.loop (.block 1 (qS [qm 21 2, qm 22 1, qu 23 .sub [] 21 22, qm 12 23]
 (qT (qS [qm 24 12, qv 25 .leq [] 24 12]
 (.cond (.t 25) (.seq (.ops [qm 26 0, qm 27 1, qm 28 2, qm 29 4, qk 30 148 [26, 27, 28, 29]]) .ret) .skip))
 (qT (qS [qm 31 3, qv 32 .eql [.i] 31 0]
 (.cond (.t 32) (.seq (.ops [qm 33 0, qm 34 1, qm 35 2, qm 36 4, qk 37 149 [33, 34, 35, 36]]) .ret) .skip))
 (qT (qS [qm 38 10, qq 39 (.not (.t 38))]
 (.cond (.t 39) (qS [qm 40 0, qm 41 1, qm 42 2, qm 43 4, qk 44 150 [40, 41, 42, 43]]
 (.ops [qm 45 3, qv 46 .sub [] 45 1, qm 3 46])) .skip))
 (qS [qm 48 0, qm 49 1, qm 50 2, qm 51 4, qk 52 151 [48, 49, 50, 51], qm 47 52, qq 53 (.extract (.t 47) 0), qq 54 (.extract (.t 47) 1), qm 13 53, qm 14 54]
 (qT (qS [qm 55 14, qv 56 .eql [.i] 55 2]
 (.cond (.t 56) (qS [qm 57 0, qm 58 1, qm 59 2, qm 60 4, qk 61 152 [57, 58, 59, 60]]
 (qS [qm 62 2, qv 63 .sub [] 62 1, qm 64 13, qm 65 1, qu 66 .sub [] 64 65, qu 67 .sub [] 63 66, qm 13 67]
 (.ops [qc 14 1]))) .skip))
 (qT (qS [qm 68 10, qm 69 68, qg 70 69 true (.mov (.t 11)), qq 71 (.pick (.t 69) (.t 70) (.c (.bool false))), qm 72 71, qg 73 72 true (.mov (.t 14)), qg 74 72 true (.bin .eql false [.i] (.t 73) (.c (.int .i64 1))), qq 75 (.pick (.t 72) (.t 74) (.c (.bool false)))]
 (.cond (.t 75) (qS [qm 76 0, qm 77 1, qm 78 2, qm 79 4, qk 80 153 [76, 77, 78, 79]]
 (.cond (.t 80) .ret .skip)) .skip))
 (qT (qS [qm 81 1, qv 82 .gtr [] 81 0, qm 83 82, qg 84 83 true (.mov (.t 4)), qg 85 83 true (.mov (.t 0)), qg 86 83 true (.mov (.t 1)), qg 87 83 true (.bin .sub false [] (.t 86) (.c (.int .i64 1))), qg 88 83 true (.iaddr 3 (.t 85) (.t 87)), qg 89 83 true (.load true 3 (.t 88)), qg 90 83 true (.mov (.t 0)), qg 91 83 true (.mov (.t 13)), qg 92 83 true (.iaddr 3 (.t 90) (.t 91)), qg 93 83 true (.load true 3 (.t 92)), qg 94 83 true (.call .f (.t 84) [.t 89, .t 93]), qg 95 83 true (.bin .lss false [] (.t 94) (.c (.int .i64 0))), qg 96 83 true (.not (.t 95)), qq 97 (.pick (.t 83) (.t 96) (.c (.bool false)))]
 (.cond (.t 97) (qS [qm 98 0, qm 99 1, qm 100 2, qm 101 13, qm 102 4, qk 103 154 [98, 99, 100, 101, 102], qm 15 103]
 (qS [qm 104 15, qm 1 104]
 (.exit 1))) .skip))
 (qS [qm 106 0, qm 107 1, qm 108 2, qm 109 13, qm 110 4, qk 111 155 [106, 107, 108, 109, 110], qm 105 111, qq 112 (.extract (.t 105) 0), qq 113 (.extract (.t 105) 1), qm 16 112, qm 17 113]
 (qS [qm 114 17, qm 11 114]
 (qS [qm 115 16, qm 116 1, qu 117 .sub [] 115 116, qm 118 2, qm 119 16, qu 120 .sub [] 118 119, qm 18 117, qm 19 120]
 (qS [qm 121 12, qv 122 .quo [] 121 8, qm 20 122]
 (qS [qm 123 18, qm 124 19, qu 125 .lss [] 123 124]
 (.cond (.t 125) (qS [qm 126 18, qm 127 20, qu 128 .geq [] 126 127, qm 10 128]
 (qS [qm 129 0, qm 130 1, qm 131 16, qm 132 3, qm 133 4, qk 134 146 [129, 130, 131, 132, 133]]
 (.ops [qm 135 16, qv 136 .add [] 135 1, qm 1 136]))) (qS [qm 137 19, qm 138 20, qu 139 .geq [] 137 138, qm 10 139]
 (qS [qm 140 0, qm 141 16, qv 142 .add [] 141 1, qm 143 2, qm 144 3, qm 145 4, qk 146 146 [140, 142, 143, 144, 145]]
 (.ops [qm 147 16, qm 2 147]))))))))))))))))))))))
def r_slices_pdqsortCmpFunc_Literal : List RVar := []
def n_slices_pdqsortCmpFunc_Literal : Nat := 148
theorem k_slices_pdqsortCmpFunc_Literal : chkFn Go.Proofs.Tryz.prog 146 n_slices_pdqsortCmpFunc_Literal r_slices_pdqsortCmpFunc_Literal c_slices_pdqsortCmpFunc_Literal = true := by kernel_rfl
theorem f_pdqsortF_0 : Fc Go.Proofs.Tryz.prog 146 [.sl .p [], .int .i64 0, .int .i64 0, .int .i64 0, .fn 137 []] (.tup []) := by
  refine Fn.step mixed k_slices_pdqsortCmpFunc_Literal ?_
  repeat' (first | refine i_s rfl ?_ | refine sw ?_ | fail)
  refine c_lp (ι := Unit) (fun _ => [(0, .sl .p []), (1, .int .i64 0), (2, .int .i64 0), (3, .int .i64 0), (4, .fn 137 [])]) (fun _ => []) (fun _ => True) (fun _ => 0) () trivial ft fun _ _ => ?_
  repeat' (first | refine i_s rfl ?_ | refine sw ?_ | refine c_t rfl ?_ | refine jb rfl rfl ?_ | refine sf rfl rfl (f_insertionSortF_0 _ rfl) ?_ | fail)
  exact e_ret ⟨rfl, _, rfl, rfl⟩
def c_slices_SortFunc_Literal : Cmd :=
 (qS [qm 5 0, qn 6 5, qm 4 6]
 (.ops [qm 7 0, qm 8 4, qm 9 4, qq 10 (.conv .u64 (.t 9)), qk 11 147 [10], qm 12 1, qq 13 (.call .f (.c (.fn 146 [])) [.t 7, .c (.int .i64 0), .t 8, .t 11, .t 12])]))
def r_slices_SortFunc_Literal : List RVar := []
def n_slices_SortFunc_Literal : Nat := 14
theorem k_slices_SortFunc_Literal : chkFn Go.Proofs.Tryz.prog 140 n_slices_SortFunc_Literal r_slices_SortFunc_Literal c_slices_SortFunc_Literal = true := by kernel_rfl
theorem f_SortF_0 : Fc Go.Proofs.Tryz.prog 140 [.sl .p [], .fn 137 []] (.tup []) := by
  refine Fn.step mixed k_slices_SortFunc_Literal ?_
  repeat' (first | refine i_s rfl ?_ | refine sw ?_ | fail)
  refine i_conv (n := 0) rfl ⟨by decide, by decide⟩ ?_
  repeat' (first | refine i_s rfl ?_ | refine sw ?_ | refine sf rfl rfl f_bits_Len_0 ?_ | refine sf rfl rfl f_pdqsortF_0 ?_ | fail)
  refine e_end ⟨rfl, _, rfl, rfl⟩
theorem litSWO : Go.Sort.SWO (Go.Proofs.ltOf litOrd) := ⟨fun x => by
    unfold Go.Proofs.ltOf
    rw [litOrd_irr]
    rfl, fun x y z h1 h2 => by
    unfold Go.Proofs.ltOf at *
    simp only [decide_eq_true_eq] at *
    exact litOrd_trans h1 h2, fun x y z h1 h2 => by
    unfold Go.Proofs.ltOf at *
    simp only [decide_eq_false_iff_not] at *
    intro h3
    have e1 := litOrd_neg x y
    have e2 := litOrd_neg y z
    rcases Int.lt_or_eq_of_le (show litOrd y x ≤ 0 by omega) with a | a
    · exact h2 (litOrd_trans a h3)
    · have := litOrd_zero.1 a
      subst this
      exact h2 h3⟩
theorem c_SortF {G : Type} {H : HT G} (nm gen : Nat) (l : List Lit) (hok : ∀ x ∈ l, AtOk x.at_) {pn : List Nat} {σ : Store} {g : G} (hw : wd nm = 3) (hσ : σ nm = .arr gen (l.map litV)) (hpn : ∀ nm', σ nm' ≠ .unused → nm' ∈ pn) (hsz : l.length < 4611686018427387904) :
    Cc Go.Proofs.Tryz.prog H 140 [.msl nm gen 0 l.length, .fn 137 []] pn σ g fun v σ' g' => v = .tup [] ∧ (∃ l' : List Lit, l'.Perm l ∧ (l'.Pairwise fun x y => ¬ litOrd y x < 0) ∧ σ' = ups σ nm (.arr gen (l'.map litV))) ∧ g' = g :=
  ⟨ct_sortF (ρ := Go.Proofs.Tryz.sortF_ren) Go.Proofs.Tryz.sortF_lays litV (fun x => AtOk x.at_) 3 (by decide) Go.Proofs.Tryz.isAgg62 Go.Proofs.Tryz.sizeOf62 (fun x => ⟨_, rfl, rfl, rfl⟩) litOrd litSWO 137
    (Go.Proofs.enters_of Go.Proofs.Tryz.func137 (by kernel_rfl) rfl) (fun a b ha hb => (f_CompareLiterals a b ha hb).out) nm gen l hok hw hσ (fun nm' h => Classical.byContradiction fun h' => h (hpn nm' h')) f_SortF_0.out hsz⟩
theorem lit_some : (Go.Proofs.Tryz.prog.info? 62).isSome = true := by kernel_rfl
theorem lit_zero : ((Go.Proofs.Tryz.prog.info? 62).get lit_some).zero = some (.agg #[.bool false, .int .i64 0, .slice none 0 0]) := by kernel_rfl
theorem lit_size : ((Go.Proofs.Tryz.prog.info? 62).get lit_some).size = 3 := by kernel_rfl
theorem lit_bytes : ((Go.Proofs.Tryz.prog.info? 62).get lit_some).bytes = 40 := by kernel_rfl
theorem c_Grow {G : Type} {H : HT G} (nm n : Nat) {pn : List Nat} {σ : Store} {g : G} (hw : wd nm = 3) (hσ : σ nm = .unused) (hm : nm ∈ pn) (hpn : ∀ nm', σ nm' ≠ .unused → nm' ∈ pn) (hn : n ≤ 3518437208883) :
    Cc Go.Proofs.Tryz.prog H 145 [.sl .nil [], .int .i64 n] pn σ g fun v σ' g' => v = .msl nm 0 0 0 ∧ σ' = ups σ nm (.arr 0 []) ∧ g' = g :=
  ⟨ct_grow (ρ := Go.Proofs.Tryz.grow_ren) Go.Proofs.Tryz.grow_lays _ _ 3 (Option.some_get lit_some).symm lit_zero lit_size rfl (by decide) (by kernel_rfl) nm n hw hσ hm (fun nm' h => Classical.byContradiction fun h' => h (hpn nm' h')) (by rw [lit_bytes]; omega) (by omega)⟩
def accL (a b : List Lit) : Nat → List Lit
  | 0 => []
  | 1 => a
  | _ => a ++ b
def accN (a b : List Lit) : Nat → Nat
  | 0 => 0
  | 1 => a.length
  | _ => a.length + b.length
def c_slices_Concat_Literal : Cmd :=
 (qS [qq 2 (.mov (.c (.sl .nil [])))]
 (qS [qc 3 0]
 (qT (qS [qm 9 0, qn 10 9, qc 11 0]
 (.block 0 (.loop (qS [qu 12 .lss [] 11 10]
 (qT (.cond (.t 12) .skip (.exit 0))
 (qT (.block 1 (qS [qi 13 1 9 11, ql 14 1 13, qm 5 14]
 (qS [qm 15 3, qm 16 5, qn 17 16, qu 18 .add [] 15 17, qm 3 18]
 (qS [qm 19 3, qv 20 .lss [] 19 0]
 (.cond (.t 20) (.ops [qq 21 (.dead), .op none none (.dead)]) .skip)))))
 (.ops [qv 22 .add [] 11 1, qm 11 22])))))))
 (qS [qm 23 3, qq 24 (.call (.s [8896387]) (.c (.fn 145 [])) [.c (.sl .nil []), .t 23]), qm 6 24]
 (qT (qS [qm 25 0, qn 26 25, qc 27 0]
 (.block 2 (.loop (qS [qu 28 .lss [] 27 26]
 (qT (.cond (.t 28) .skip (.exit 2))
 (qT (.block 3 (qS [qi 29 1 25 27, ql 30 1 29, qm 8 30]
 (.ops [qm 31 6, qm 32 8, qq 33 (.append 3 40 62 (.t 31) (.t 32)), qm 6 33])))
 (.ops [qv 34 .add [] 27 1, qm 27 34])))))))
 (.seq (.ops [qm 35 6, qm 2 35]) .ret))))))
def r_slices_Concat_Literal : List RVar := [.tmp 2]
def n_slices_Concat_Literal : Nat := 36
theorem k_slices_Concat_Literal : chkFn Go.Proofs.Tryz.prog 139 n_slices_Concat_Literal r_slices_Concat_Literal c_slices_Concat_Literal = true := by kernel_rfl
theorem ct_Concat {G : Type} {H : HT G} (a b : List Lit) (ha : a.length ≤ 100000000) (hb : b.length ≤ 100000000) (σ : Store) (g : G) (h1 : σ 8896387 = .unused) (hp : ∀ nm, σ nm ≠ .unused → nm ∈ [8896387]) :
    Cc Go.Proofs.Tryz.prog H 139 [.sl .p ([a, b].map caV)] [8896387] σ g fun r σ' g' => (r = .msl 8896387 2 0 (a ++ b).length ∧ σ' = stOf [(8896387, .arr 2 ((a ++ b).map litV))]) ∧ g' = g := by
  refine CT.step _ mixed k_slices_Concat_Literal hp fun hM => ?_
  repeat (first | refine i_len rfl ?_ | refine i_s rfl ?_ | refine sw ?_)
  refine c_for 2 (fun k => [(0, .sl .p ([a, b].map caV)), (3, .int .i64 (accN a b k : Nat)), (9, .sl .p ([a, b].map caV)), (10, .int .i64 2), (11, .int .i64 k)]) (fun _ => [(8896387, .unused)]) (fun _ => True) trivial ⟨⟨rfl, rfl, rfl, rfl, rfl, trivial⟩, ⟨h1, trivial⟩, rfl⟩ fun k hk _ => ?_
  have hk3 : k = 0 ∨ k = 1 ∨ k = 2 := by omega
  rcases hk3 with rfl | rfl | rfl
  · have g0 : [a, b][0]? = some a := rfl
    have n0 : (accN a b 0 : Int) = 0 := rfl
    have n1 : (accN a b 1 : Int) = 0 + a.length := by simp [accN]
    rw [n0]
    repeat' (first | refine i_len rfl ?_ | refine i_s rfl ?_ | refine sw ?_ | refine c_t rfl ?_ | refine c_f rfl ?_ | refine ja rfl rfl ?_ | refine jd rfl rfl ?_ | fail)
    all_goals first
      | (exfalso; simp at *; done)
      | (exfalso; simp at *; omega)
      | (refine e_for (by omega) trivial ⟨⟨rfl, ?_, rfl, rfl, rfl, trivial⟩, ⟨rfl, trivial⟩, rfl⟩; rw [n1]; rfl)
  · have g1 : [a, b][1]? = some b := rfl
    have n1 : (accN a b 1 : Int) = a.length := rfl
    have n2 : (accN a b 2 : Int) = a.length + b.length := by simp [accN]
    rw [n1]
    repeat' (first | refine i_len rfl ?_ | refine i_s rfl ?_ | refine sw ?_ | refine c_t rfl ?_ | refine c_f rfl ?_ | refine ja rfl rfl ?_ | refine jd rfl rfl ?_ | fail)
    all_goals first
      | (exfalso; simp at *; done)
      | (exfalso; simp at *; omega)
      | (refine e_for (by omega) trivial ⟨⟨rfl, ?_, rfl, rfl, rfl, trivial⟩, ⟨rfl, trivial⟩, rfl⟩; rw [n2]; rfl)
  · repeat' (first | refine i_s rfl ?_ | refine sw ?_ | refine c_f rfl ?_)
    all_goals first
      | (exfalso; simp at *; done)
      | (exfalso; simp at *; omega)
      | skip
    refine i_c rfl rfl rfl (c_Grow 8896387 (accN a b 2) rfl rfl (by simp) (fun nm h => restr_mem nm h) (by simp only [accN]; omega)) ?_
    rintro _ _ _ ⟨rfl, rfl, rfl⟩
    repeat (first | refine i_len rfl ?_ | refine i_s rfl ?_ | refine sw ?_)
    refine c_for 2 (fun k => [(6, .msl 8896387 k 0 (accL a b k).length), (25, .sl .p ([a, b].map caV)), (26, .int .i64 2), (27, .int .i64 k)]) (fun k => [(8896387, .arr k ((accL a b k).map litV))]) (fun _ => True) trivial ft fun k hk _ => ?_
    have hk3 : k = 0 ∨ k = 1 ∨ k = 2 := by omega
    rcases hk3 with rfl | rfl | rfl
    · have g0 : [a, b][0]? = some a := rfl
      repeat' (first | refine i_s rfl ?_ | refine sw ?_ | refine c_t rfl ?_ | refine jd rfl rfl ?_ | fail)
      all_goals first
        | (exfalso; simp at *; done)
        | (exfalso; simp at *; omega)
        | skip
      refine i_appmM (l := []) (f := litV) a rfl rfl rfl rfl rfl (fun c hc => ⟨rfl, rfl⟩) (by simp; omega) (by simp; omega) ?_
      repeat (first | refine i_s rfl ?_ | refine sw ?_ | refine ja rfl rfl ?_)
      exact e_for (by omega) trivial ft
    · have g1 : [a, b][1]? = some b := rfl
      repeat' (first | refine i_s rfl ?_ | refine sw ?_ | refine c_t rfl ?_ | refine jd rfl rfl ?_ | fail)
      all_goals first
        | (exfalso; simp at *; done)
        | (exfalso; simp at *; omega)
        | skip
      refine i_appmM (l := a) (f := litV) b rfl rfl rfl rfl rfl (fun c hc => ⟨rfl, rfl⟩) (by omega) (by omega) ?_
      repeat (first | refine i_s rfl ?_ | refine sw ?_ | refine ja rfl rfl ?_)
      exact e_for (by omega) trivial ft
    · repeat' (first | refine i_s rfl ?_ | refine sw ?_ | refine c_f rfl ?_)
      all_goals first
        | (exfalso; simp at *; done)
        | (exfalso; simp at *; omega)
        | exact e_ret ⟨rfl, _, rfl, rfl, rfl, ⟨rfl, restr_stOf _ _⟩, rfl⟩
def c_slices_CompactFunc_Literal : Cmd :=
 (qS [qq 4 (.mov (.c (.sl .nil [])))]
 (qT (qS [qm 8 0, qn 9 8, qv 10 .lss [] 9 2]
 (.cond (.t 10) (.seq (.ops [qm 11 0, qm 4 11]) .ret) .skip))
 (qT (qS [qc 5 1]
 (.block 0 (.loop (qT (qS [qm 12 5, qm 13 0, qn 14 13, qu 15 .lss [] 12 14]
 (.cond (.t 15) .skip (.exit 0)))
 (qT (.block 1 (qS [qm 18 1, qm 19 0, qm 20 5, qi 21 3 19 20, qL 22 3 21, qm 23 0, qm 24 5, qv 25 .sub [] 24 1, qi 26 3 23 25, qL 27 3 26, qq 28 (.call .f (.t 18) [.t 22, .t 27])]
 (.cond (.t 28) (qS [qm 29 0, qm 30 5, qq 31 (.slice false 3 (.t 29) (some (.t 30)) none), qm 6 31]
 (qT (qS [qc 7 1]
 (.block 2 (.loop (qT (qS [qm 32 7, qm 33 6, qn 34 33, qu 35 .lss [] 32 34]
 (.cond (.t 35) .skip (.exit 2)))
 (qT (.block 3 (qS [qm 38 1, qm 39 6, qm 40 7, qi 41 3 39 40, qL 42 3 41, qm 43 6, qm 44 7, qv 45 .sub [] 44 1, qi 46 3 43 45, qL 47 3 46, qq 48 (.call .f (.t 38) [.t 42, .t 47]), qq 49 (.not (.t 48))]
 (.cond (.t 49) (qS [qm 50 0, qm 51 5, qm 52 6, qm 53 7, qi 54 3 52 53, qL 55 3 54, qi 56 3 50 51, qs 3 56 55]
 (.ops [qm 57 5, qv 58 .add [] 57 1, qm 5 58])) .skip)))
 (.ops [qm 36 7, qv 37 .add [] 36 1, qm 7 37]))))))
 (qS [qm 59 0, qm 60 5, qq 61 (.slice false 3 (.t 59) (some (.t 60)) none), .op none none (.clear 3 40 (.agg [.bool false, .int .i64 0, .sl .nil []]) (.t 61))]
 (.seq (.ops [qm 62 0, qm 63 5, qq 64 (.slice false 3 (.t 62) none (some (.t 63))), qm 4 64]) .ret)))) .skip)))
 (.ops [qm 16 5, qv 17 .add [] 16 1, qm 5 17]))))))
 (.seq (.ops [qm 65 0, qm 4 65]) .ret))))
def r_slices_CompactFunc_Literal : List RVar := [.tmp 4]
def n_slices_CompactFunc_Literal : Nat := 66
theorem k_slices_CompactFunc_Literal : chkFn Go.Proofs.Tryz.prog 141 n_slices_CompactFunc_Literal r_slices_CompactFunc_Literal c_slices_CompactFunc_Literal = true := by kernel_rfl
theorem ct_CompactF {G : Type} {H : HT G} (gen : Nat) (l : List Lit) (hl : l.length ≤ 1000000000) (hok : ∀ x ∈ l, AtOk x.at_) (σ : Store) (g : G) (hσ : σ 8896387 = .arr gen (l.map litV)) (hp : ∀ nm, σ nm ≠ .unused → nm ∈ [8896387]) :
    Cc Go.Proofs.Tryz.prog H 141 [.msl 8896387 gen 0 l.length, .fn 142 []] [8896387] σ g fun v σ' g' => (∃ rows, v = .msl 8896387 gen 0 (compG l).length ∧ σ' = stOf [(8896387, .arr gen rows)] ∧ rows.take (compG l).length = (compG l).map litV) ∧ g' = g := by
  refine CT.step _ mixed k_slices_CompactFunc_Literal hp fun hM => ?_
  refine c_seq ?_
  refine c_ops ?_
  refine i_s rfl ?_
  refine i_nil ?_
  refine e_seq ?_
  refine c_cut [(0, .msl 8896387 gen 0 l.length), (1, .fn 142 [])] [(8896387, .arr gen (l.map litV))] ⟨⟨rfl, rfl, trivial⟩, ⟨hσ, trivial⟩, rfl⟩ ?_
  have fin : compG l = l → ∃ rows, V.msl 8896387 gen 0 l.length = .msl 8896387 gen 0 (compG l).length ∧ stOf [(8896387, .arr gen (l.map litV))] = stOf [(8896387, .arr gen rows)] ∧ rows.take (compG l).length = (compG l).map litV := fun e => ⟨l.map litV, by rw [e], rfl, by rw [e, List.take_of_length_le (by simp)]⟩
  repeat (first | refine i_s rfl ?_ | refine i_lenm rfl rfl rfl ?_ | refine sw ?_)
  refine c_cond rfl (fun h => ?_) (fun h => ?_)
  · have h2 : l.length < 2 := by have : (l.length : Int) < 2 := by simpa using h
                                 omega
    repeat (first | refine i_s rfl ?_ | refine sw ?_)
    refine e_ret ⟨rfl, _, rfl, rfl, rfl, ?_, rfl⟩
    rw [restr_stOf]
    exact fin (by unfold compG; rw [ddG_all _ (Nat.le_refl _) fun j h1 h3 => by omega, List.take_length])
  have h2 : 2 ≤ l.length := by have : ¬ (l.length : Int) < 2 := by simpa using h
                               omega
  clear h
  repeat (first | refine i_s rfl ?_ | refine sw ?_)
  refine c_lp (ι := Nat) (fun k => [(0, .msl 8896387 gen 0 l.length), (1, .fn 142 []), (5, .int .i64 k)]) (fun _ => [(8896387, .arr gen (l.map litV))]) (fun k => 1 ≤ k ∧ k ≤ l.length ∧ ∀ j, 0 < j → j < k → l[j]? ≠ l[j - 1]?) (fun k => l.length - k) 1 ⟨Nat.le_refl _, by omega, fun j h1 h2 => by omega⟩ ft fun k hi => ?_
  obtain ⟨k1, k2, k3⟩ := hi
  repeat (first | refine i_s rfl ?_ | refine i_lenm rfl rfl rfl ?_ | refine sw ?_)
  refine c_cond rfl (fun h => ?_) (fun h => ?_)
  · have hlt : k < l.length := by have : (k : Int) < l.length := by simpa using h
                                  omega
    obtain ⟨x, hx⟩ := get_some hlt
    obtain ⟨y, hy⟩ := get_some (l := l) (k := k - 1) (by omega)
    have hE := f_merge_1 x y (hok x (mem_get hx)) (hok y (mem_get hy))
    clear h
    repeat (first | refine i_s rfl ?_ | refine sw ?_)
    refine i_ima rfl rfl rfl rfl (by omega) (by omega) rfl ?_
    refine i_ldp (row := litV x) rfl rfl rfl (by simp [hx]) rfl ?_
    repeat (first | refine i_s rfl ?_ | refine jb rfl rfl ?_)
    refine i_ima rfl rfl rfl rfl (by omega) (by omega) rfl ?_
    refine i_ldp (row := litV y) rfl rfl rfl (by rw [show 0 + ((k : Int) - 1).toNat = k - 1 from by omega]; simp [hy]) rfl ?_
    repeat (first | refine sw ?_ | refine sf rfl rfl hE ?_)
    refine c_cond rfl (fun h => ?_) (fun h => ?_)
    · have e : x = y := by simpa using h
      subst e
      clear h hE
      repeat (first | refine i_s rfl ?_ | refine sw ?_)
      refine i_sm rfl rfl rfl rfl (by omega) (by omega) rfl ?_
      repeat (first | refine i_s rfl ?_ | refine sw ?_)
      have e0 := ddG_all k (by omega) k3
      have e1 : ddG l (k + 1) = l.take k := by rw [ddG_skip hx (by omega) hy, e0]
      refine c_lp (ι := Nat) (fun j => [(0, .msl 8896387 gen 0 l.length), (1, .fn 142 []), (5, .int .i64 (ddG l (k + j)).length), (6, .msl 8896387 gen (0 + k) (l.length - k)), (7, .int .i64 j)])
        (fun j => [(8896387, .arr gen ((ddG l (k + j) ++ l.drop (ddG l (k + j)).length).map litV))]) (fun j => 1 ≤ j ∧ k + j ≤ l.length ∧ (ddG l (k + j)).length + 1 ≤ k + j) (fun j => l.length - j) 1 ⟨Nat.le_refl _, by omega, by rw [e1]; simp; omega⟩ ⟨⟨rfl, rfl, ?_, rfl, rfl, trivial⟩, ⟨?_, trivial⟩, rfl⟩ fun j hj => ?_
      · rw [e1, List.length_take, Nat.min_eq_left (by omega)]; rfl
      · rw [e1, List.length_take, Nat.min_eq_left (by omega), List.take_append_drop]; rfl
      obtain ⟨j1, j2, j3⟩ := hj
      have hdl := ddG_len l (k + j)
      have hAl : (ddG l (k + j) ++ l.drop (ddG l (k + j)).length).length = l.length := by simp; omega
      repeat (first | refine i_s rfl ?_ | refine i_lenm rfl rfl rfl ?_ | refine sw ?_)
      refine c_cond rfl (fun h => ?_) (fun h => ?_)
      · have hlt2 : j < l.length - k := by have : (j : Int) < ((l.length - k : Nat) : Int) := by simpa using h
                                           omega
        obtain ⟨a, ha⟩ := get_some (l := l) (k := k + j) (by omega)
        obtain ⟨b, hb⟩ := get_some (l := l) (k := k + j - 1) (by omega)
        have hE := f_merge_1 a b (hok a (mem_get ha)) (hok b (mem_get hb))
        have ha' := ha
        rw [← ddG_get (m := k + j) (by omega)] at ha'
        have hb' := hb
        rw [← ddG_get (m := k + j) (by omega)] at hb'
        clear h
        repeat (first | refine i_s rfl ?_ | refine sw ?_)
        refine i_ima rfl rfl rfl rfl (by omega) (by omega) rfl ?_
        refine i_ldp (row := litV a) rfl rfl rfl (by rw [show 0 + k + (j : Int).toNat = k + j from by omega, List.getElem?_map, ha']; rfl) rfl ?_
        repeat (first | refine i_s rfl ?_ | refine jb rfl rfl ?_)
        refine i_ima rfl rfl rfl rfl (by omega) (by omega) rfl ?_
        refine i_ldp (row := litV b) rfl rfl rfl (by rw [show 0 + k + ((j : Int) - 1).toNat = k + j - 1 from by omega, List.getElem?_map, hb']; rfl) rfl ?_
        repeat (first | refine i_s rfl ?_ | refine sw ?_ | refine sf rfl rfl hE ?_)
        refine c_cond rfl (fun h => ?_) (fun h => ?_)
        · have hne : a ≠ b := by simpa using h
          have ek : ddG l (k + (j + 1)) = ddG l (k + j) ++ [a] := ddG_keep (k := k + j) ha (.inr (by rw [hb]; simpa using fun e => hne e.symm))
          obtain ⟨z, hz⟩ := get_some (l := ddG l (k + j) ++ l.drop (ddG l (k + j)).length) (k := (ddG l (k + j)).length) (by omega)
          clear h hE
          repeat (first | refine i_s rfl ?_ | refine sw ?_)
          refine i_ima rfl rfl rfl rfl (by omega) (by omega) rfl ?_
          refine i_ldp (row := litV a) rfl rfl rfl (by rw [show 0 + k + (j : Int).toNat = k + j from by omega, List.getElem?_map, ha']; rfl) rfl ?_
          skip
          refine i_ima rfl rfl rfl rfl (by omega) (by omega) rfl ?_
          refine i_stp (row := litV z) rfl rfl rfl (by rw [show 0 + ((ddG l (k + j)).length : Int).toNat = (ddG l (k + j)).length from by omega, List.getElem?_map, hz]; rfl) rfl rfl ?_
          repeat (first | refine i_s rfl ?_ | refine sw ?_ | refine ja rfl rfl ?_)
          refine e_lp (j + 1) ⟨by omega, by omega, by rw [ek]; simp; omega⟩ (by omega) ⟨⟨rfl, rfl, ?_, rfl, rfl, trivial⟩, ⟨?_, trivial⟩, rfl⟩
          · rw [ek]; simp; rfl
          · have := ddG_set (l := l) (m := k + j) (x := a) (by omega)
            show Blk.arr gen _ = Blk.arr gen _
            rw [ek, ← this, show (0 + ((ddG l (k + j)).length : Int).toNat) = (ddG l (k + j)).length from by omega, List.map_set]
            rfl
        · have he : a = b := by simpa using h
          subst he
          have ek : ddG l (k + (j + 1)) = ddG l (k + j) := ddG_skip (k := k + j) ha (by omega) hb
          clear h hE
          repeat (first | refine i_s rfl ?_ | refine sw ?_ | refine ja rfl rfl ?_)
          refine e_lp (j + 1) ⟨by omega, by omega, by rw [ek]; omega⟩ (by omega) ⟨⟨rfl, rfl, ?_, rfl, rfl, trivial⟩, ⟨?_, trivial⟩, rfl⟩
          · rw [ek]; rfl
          · rw [ek]; rfl
      · have hje : k + j = l.length := by have : ¬ (j : Int) < ((l.length - k : Nat) : Int) := by simpa using h
                                          omega
        have ec : compG l = ddG l (k + j) := by unfold compG; rw [hje]
        clear fin
        clear h
        repeat (first | refine i_s rfl ?_ | refine sw ?_)
        refine i_sm rfl rfl rfl rfl (by omega) (by omega) rfl ?_
        refine i_clear rfl rfl rfl rfl ?_
        repeat (first | refine i_s rfl ?_ | refine sw ?_)
        refine i_smh rfl rfl rfl rfl rfl (by omega) (by omega) (by omega) rfl ?_
        repeat (first | refine i_s rfl ?_ | refine sw ?_)
        rw [ec]
        refine e_ret ⟨rfl, _, rfl, rfl, rfl, ⟨_, ?_, restr_stOf _ _, ?_⟩, rfl⟩
        · show V.msl _ _ _ _ = V.msl _ _ _ _
          simp
        · have e1 : (0 + ((ddG l (k + j)).length : Int).toNat) = (ddG l (k + j)).length := by omega
          rw [e1, List.append_assoc, List.take_append_of_le_length (by simp), List.take_take, Nat.min_self, ← List.map_take, List.take_append_of_le_length (Nat.le_refl _), List.take_length]
    · have hne : x ≠ y := by simpa using h
      clear h hE
      repeat (first | refine i_s rfl ?_ | refine sw ?_ | refine ja rfl rfl ?_)
      refine e_lp (k + 1) ⟨by omega, by omega, fun j h1 h3 => ?_⟩ (by omega) ft
      by_cases e : j = k
      · subst e; rw [hx, hy]; simpa using hne
      · exact k3 j h1 (by omega)
  · have hke : k = l.length := by have : ¬ (k : Int) < l.length := by simpa using h
                                  omega
    subst hke
    repeat (first | refine i_s rfl ?_ | refine sw ?_)
    refine e_ret ⟨rfl, _, rfl, rfl, rfl, ?_, rfl⟩
    rw [restr_stOf]
    exact fin (by unfold compG; rw [ddG_all _ (Nat.le_refl _) k3, List.take_length])
def mergeV : Option (List Lit) → V
  | some c => .tup [caV c, .bool true]
  | none => .tup [.sl .p [], .bool false]
def c_condition_merge : Cmd :=
 (qS [qq 4 (.mov (.c (.sl .nil []))), qb 5 false]
 (qS [qm 8 0, qm 9 1, qq 10 (.bsl 1 [.t 8, .t 9]), qq 11 (.call (.s [8896387]) (.c (.fn 139 [])) [.t 10]), qm 6 11]
 (qS [qm 12 6, qq 13 (.call (.s [8896387]) (.c (.fn 140 [])) [.t 12, .c (.fn 137 [])])]
 (qS [qm 14 6, qq 15 (.call (.s [8896387]) (.c (.fn 141 [])) [.t 14, .c (.fn 142 [])]), qm 6 15]
 (qT (qS [qc 7 1]
 (.block 0 (.loop (qT (qS [qm 16 7, qm 17 6, qn 18 17, qu 19 .lss [] 16 18]
 (.cond (.t 19) .skip (.exit 0)))
 (qT (.block 1 (qS [qm 22 6, qm 23 7, qi 24 3 22 23, qf 25 1 24, qL 26 2 25, qm 27 6, qm 28 7, qv 29 .sub [] 28 1, qi 30 3 27 29, qf 31 1 30, qL 32 2 31, qk 33 46 [26, 32], qv 34 .eql [.i] 33 0]
 (.cond (.t 34) (.seq (.ops [qq 4 (.mov (.c (.sl .nil []))), qb 5 false]) .ret) .skip)))
 (.ops [qm 20 7, qv 21 .add [] 20 1, qm 7 21]))))))
 (.seq (.ops [qm 35 6, qm 4 35, qb 5 true]) .ret))))))
def r_condition_merge : List RVar := [.tmp 4, .tmp 5]
def n_condition_merge : Nat := 36
theorem k_condition_merge : chkFn Go.Proofs.Tryz.prog 132 n_condition_merge r_condition_merge c_condition_merge = true := by kernel_rfl
theorem f_condition_merge (a b : List Lit) (hla : a.length ≤ 100000000) (hlb : b.length ≤ 100000000) (hoa : ∀ x ∈ a, AtOk x.at_) (hob : ∀ x ∈ b, AtOk x.at_) (hsa : SLt a) (hca : ConsL a) :
    Fc Go.Proofs.Tryz.prog 132 [caV a, caV b] (mergeV (joinL a b)) := by
  have hlab : (a ++ b).length = a.length + b.length := by simp
  have hoab : ∀ x ∈ a ++ b, AtOk x.at_ := fun x hx => by
    rcases List.mem_append.1 hx with h | h
    · exact hoa x h
    · exact hob x h
  refine Fn.step mixed k_condition_merge ?_
  repeat (first | refine i_s rfl ?_ | refine sw ?_)
  refine i_c rfl rfl rfl (ct_Concat a b hla hlb _ _ rfl fun nm h => restr_mem nm h) ?_
  rintro _ _ _ ⟨⟨rfl, rfl⟩, rfl⟩
  repeat (first | refine i_s rfl ?_ | refine sw ?_)
  refine i_c rfl rfl rfl (c_SortF 8896387 2 (a ++ b) hoab rfl rfl (fun nm h => restr_mem nm h) (by omega)) ?_
  rintro _ _ _ ⟨rfl, ⟨s, hsp, hss, rfl⟩, rfl⟩
  have hsl : s.length = a.length + b.length := by rw [hsp.length_eq, hlab]
  have hos : ∀ x ∈ s, AtOk x.at_ := fun x hx => hoab x (hsp.mem_iff.1 hx)
  have hms := merge_spec (b := b) hsa hca hsp (hss.imp fun {x y} h => by have := litOrd_neg x y; omega)
  rw [hms]
  rw [show (a ++ b).length = s.length from by omega]
  repeat (first | refine i_s rfl ?_ | refine sw ?_)
  refine i_c rfl rfl rfl (ct_CompactF 2 s (by omega) hos _ _ rfl fun nm h => restr_mem nm h) ?_
  rintro _ _ _ ⟨⟨rows, rfl, rfl, hrows⟩, rfl⟩
  have htl : (compG s).length ≤ s.length := ddG_len s s.length
  have hot : ∀ x ∈ compG s, AtOk x.at_ := fun x hx => hos x (compG_mem.1 hx)
  generalize compG s = t at *
  clear hms hss hsp hos hoab hoa hob hsa hca
  have hget : ∀ i x, t[i]? = some x → rows[i]? = some (litV x) := fun i x hx => by
    have hi := get_lt hx
    have h1 : (rows.take t.length)[i]? = (t.map litV)[i]? := by rw [hrows]
    rw [List.getElem?_take, if_pos hi, List.getElem?_map, hx] at h1
    exact h1
  repeat (first | refine i_s rfl ?_ | refine sw ?_)
  refine c_lp (ι := Nat) (fun i => [(6, .msl 8896387 2 0 t.length), (7, .int .i64 i)]) (fun _ => [(8896387, .arr 2 rows)]) (fun i => 1 ≤ i ∧ (i ≤ 1 ∨ i ≤ t.length) ∧ ∀ j, 1 ≤ j → j < i → adjBad t j = false) (fun i => t.length - i) 1 ⟨Nat.le_refl _, .inl (Nat.le_refl _), fun j h1 h2 => by omega⟩ ft fun i hi => ?_
  obtain ⟨i1, i2, i3⟩ := hi
  by_cases hlt : i < t.length
  · obtain ⟨x, hx⟩ := get_some hlt
    obtain ⟨y, hy⟩ := get_some (l := t) (k := i - 1) (by omega)
    have hC := f_domain_Compare x.at_ y.at_ (hot x (mem_get hx)) (hot y (mem_get hy))
    have hbad : adjBad t i = decide (x.at_ = y.at_) := by unfold adjBad; rw [hx, hy]
    have hx' := hget i x hx
    have hy' := hget (i - 1) y hy
    by_cases e : x.at_ = y.at_
    · rw [atomOrd_zero.2 e] at hC
      rw [if_pos (adjAny_iff.2 ⟨i, i1, hlt, by rw [hbad]; exact decide_eq_true e⟩)]
      clear i3 hbad hot hget hrows
      repeat' (first | refine i_s rfl ?_ | refine sw ?_ | refine c_t rfl ?_ | refine jb rfl rfl ?_ | refine c_cond rfl (fun h => ?_) (fun h => ?_) | refine sf rfl rfl hC ?_ | refine i_ima rfl rfl rfl rfl (by omega) (by omega) rfl ?_ | refine i_ldp rfl rfl rfl (by rw [show 0 + (i : Int).toNat = i from by omega]; exact hx') rfl ?_ | refine i_ldp rfl rfl rfl (by rw [show 0 + ((i : Int) - 1).toNat = i - 1 from by omega]; exact hy') rfl ?_)
      all_goals first
        | exact e_ret ⟨rfl, _, rfl, rfl⟩
        | (exfalso; clear hC; simp at *; done)
        | (exfalso; clear hC; simp at *; omega)
    · have hz : atomOrd x.at_ y.at_ ≠ 0 := fun h => e (atomOrd_zero.1 h)
      rw [decide_eq_false e] at hbad
      generalize atomOrd x.at_ y.at_ = q at *
      clear hot hget hrows
      repeat' (first | refine i_s rfl ?_ | refine sw ?_ | refine ja rfl rfl ?_ | refine jb rfl rfl ?_ | refine c_cond rfl (fun h => ?_) (fun h => ?_) | refine sf rfl rfl hC ?_ | refine i_ima rfl rfl rfl rfl (by omega) (by omega) rfl ?_ | refine i_ldp rfl rfl rfl (by rw [show 0 + (i : Int).toNat = i from by omega]; exact hx') rfl ?_ | refine i_ldp rfl rfl rfl (by rw [show 0 + ((i : Int) - 1).toNat = i - 1 from by omega]; exact hy') rfl ?_)
      all_goals first
        | (exact e_lp (i + 1) ⟨by omega, .inr (by omega), fun j h1 h2 => (by
            by_cases e2 : j = i
            · subst e2; exact hbad
            · exact i3 j h1 (by omega))⟩ (by omega) ft)
        | (exfalso; clear hC i3; simp at *; done)
        | (exfalso; clear hC i3; simp at *; omega)
  · rw [if_neg fun h => by
      obtain ⟨j, j1, j2, j3⟩ := adjAny_iff.1 h
      rw [i3 j j1 (by omega)] at j3
      cases j3]
    have hfin : er (stOf [(8896387, .arr 2 rows)]) 5 (.msl 8896387 2 0 t.length) = caV t := by
      rw [er_msl (gen := 2) (rows := rows) (n := 4) rfl, List.drop_zero, hrows]
      rfl
    clear i3 hot hget hrows
    repeat' (first | refine i_s rfl ?_ | refine sw ?_ | refine c_cond rfl (fun h => ?_) (fun h => ?_))
    all_goals first
      | exact e_ret ⟨rfl, _, rfl, congrArg (fun v => V.tup [v, .bool true]) hfin.symm⟩
      | (exfalso; simp at *; done)
      | (exfalso; simp at *; omega)
def csV (cs : Cs) : V := .sl .p (cs.map caV)
def exV (d : Dom) (c : Cnd) (much : Bool) : V := .agg [.sl .p (d.types.map tyV), .sl .p (d.objects.map obV), .sl .p (d.preds.map prdV), .sl .p (d.schemas.map schV), .sl .p (d.init.map atV), .sl .p (d.goal.map litV), .sl .p (c.types.map i64V), .sl .p (c.nodes.map cnV), .bool much]
abbrev exS (d : Dom) (c : Cnd) (much : Bool) : List (Nat × Blk) := [(1345929, .box (exV d c much))]
theorem one_memX {a : Nat} {x : Blk} (nm : Nat) (h : stOf [(a, x)] nm ≠ .unused) : nm ∈ [a] := stOf_mem _ nm h
def AllCa (B : Nat) (cs : Cs) : Prop := ∀ l ∈ cs, CaOk B l
def c_condition_expander_or : Cmd :=
 (qS [qq 6 (.mov (.c (.sl .p [])))]
 (qS [qm 11 1, qq 12 (.call (.s [8512321]) (.c (.fn 133 [])) [.t 11]), qm 7 12]
 (qT (qS [qm 13 2, qn 14 13, qc 15 0]
 (.block 0 (.loop (qS [qu 16 .lss [] 15 14]
 (qT (.cond (.t 16) .skip (.exit 0))
 (qT (.block 1 (qS [qi 17 1 13 15, ql 18 1 17, qq 9 (.alloc 7936577 (.sl .nil [])), qs 1 9 18]
 (qS [qq 19 (.mkfn 134 [.t 9]), qm 10 19]
 (qS [qm 20 7, qm 21 10, qk 22 138 [20, 21], qq 23 (.not (.t 22))]
 (.cond (.t 23) (.ops [qm 24 7, ql 25 1 9, qq 26 (.bsl 1 [.t 25]), qq 27 (.append 1 24 27 (.t 24) (.t 26)), qm 7 27]) .skip)))))
 (.ops [qv 28 .add [] 15 1, qm 15 28])))))))
 (.seq (qS [qm 29 7, qn 30 29, qv 31 .gtr [] 30 40]
 (.cond (.t 31) (qS [qm 32 0, qq 33 (.nilck (.t 32)), qf 34 8 33, .op none none (.store 1 (.t 34) (.c (.bool true)))]
 (.seq (.ops [qq 6 (.mov (.c (.sl .p [])))]) .ret)) .skip)) (qT (.frz 7)
 (.seq (.ops [qm 35 7, qm 6 35]) .ret))))))
def r_condition_expander_or : List RVar := [.tmp 6]
def n_condition_expander_or : Nat := 36
theorem k_condition_expander_or : chkFn Go.Proofs.Tryz.prog 124 n_condition_expander_or r_condition_expander_or c_condition_expander_or = true := by kernel_rfl
theorem ct_or {G : Type} {H : HT G} (d : Dom) (c : Cnd) (much : Bool) (a b : Cs) (B : Nat) (hB : B ≤ 100000000) (hla : a.length ≤ 1000) (hlb : b.length ≤ 1000) (ha : AllCa B a) (hb : AllCa B b) (g : G) :
    Cc Go.Proofs.Tryz.prog H 124 [.bptr 1345929 0, csV a, csV b] [1345929] (stOf (exS d c much)) g fun r σ' g' => r = csV (orP a b).1 ∧ σ' = stOf (exS d c (much || (orP a b).2)) ∧ g' = g := by
  unfold csV
  refine CT.step _ mixed k_condition_expander_or one_memX fun hM => ?_
  repeat (first | refine i_s rfl ?_ | refine sw ?_)
  refine i_c rfl rfl rfl (ct_CloneCa a (by omega) _ _ rfl fun nm h => restr_mem nm h) ?_
  rintro _ _ _ ⟨⟨gen, rfl, rfl⟩, rfl⟩
  repeat (first | refine i_len rfl ?_ | refine i_s rfl ?_ | refine sw ?_)
  refine c_lp (ι := Nat × Cs) (fun p => [(0, .bptr 1345929 0), (7, .msl 8512321 (gen + p.2.length) 0 (a ++ p.2).length), (13, .sl .p (b.map caV)), (14, .int .i64 b.length), (15, .int .i64 p.1)])
    (fun p => [(1345929, .box (exV d c much)), (8512321, .arr (gen + p.2.length) ((a ++ p.2).map caV))]) (fun p => p.1 ≤ b.length ∧ orL a (b.take p.1) = a ++ p.2 ∧ p.2.length ≤ p.1) (fun p => b.length - p.1) (0, []) ⟨Nat.zero_le _, by simp [orL], Nat.le_refl _⟩
    ⟨⟨rfl, by rw [List.append_nil]; rfl, rfl, rfl, rfl, trivial⟩, ⟨rfl, by rw [List.append_nil]; rfl, trivial⟩, rfl⟩ fun p hp => ?_
  obtain ⟨k, e⟩ := p
  obtain ⟨h1, h2, h3⟩ := hp
  simp only at h1 h2 h3
  have hle : (a ++ e).length = a.length + e.length := by simp
  repeat (first | refine i_s rfl ?_ | refine sw ?_)
  refine c_cond rfl (fun h => ?_) (fun h => ?_)
  · have hlt : k < b.length := by simpa using h
    obtain ⟨l, hl⟩ := get_some hlt
    have hlo := hb l (mem_get hl)
    have hmem : ∀ m ∈ a ++ e, CaOk B m := fun m hm => by
      rw [← h2] at hm
      rcases orL_mem.1 hm with h | h
      · exact ha m h
      · exact hb m (List.mem_of_mem_take h)
    have hC := f_ContainsFunc_Literal (a ++ e) (fun m => decide (l = m)) 134 [.cptr .p (caV l) 0] (by omega) (fun _ _ => rfl) rfl (fun m hm => f_or_1 l m hlo.at_ (hmem m hm).at_ (by have := hlo.len; omega) (by have := (hmem m hm).len; omega))
    have hany : ((a ++ e).any fun m => decide (l = m)) = decide (l ∈ a ++ e) := by rw [Bool.eq_iff_iff]; simp
    rw [hany] at hC
    have hstep : orL a (b.take (k + 1)) = addCs (a ++ e) l := by rw [take_succ_get hl]; unfold orL at h2 ⊢; rw [List.foldl_append, h2]; rfl
    clear h
    repeat (first | refine i_s rfl ?_ | refine sw ?_ | refine jd rfl rfl ?_ | refine i_stb rfl ?_ | refine i_alloc rfl ?_)
    refine i_f rfl (congrArg (fun x => [x, V.fn 134 [.cptr .p (caV l) 0]]) ((er_msl (gen := gen + e.length) (rows := (a ++ e).map caV) (n := 5) rfl).trans (by rw [List.drop_zero, List.take_of_length_le (by simp)]))) hC rfl ?_
    repeat (first | refine i_s rfl ?_ | refine sw ?_)
    refine c_cond rfl (fun h => ?_) (fun h => ?_)
    · have hnm : l ∉ a ++ e := by simpa using h
      have hadd : addCs (a ++ e) l = a ++ (e ++ [l]) := by unfold addCs; rw [if_neg hnm, List.append_assoc]
      clear h hC hany hb ha hmem
      repeat (first | refine i_s rfl ?_ | refine sw ?_)
      refine i_appmM [l] rfl rfl rfl rfl rfl (fun c hc => ⟨rfl, rfl⟩) (by simp only [List.length_singleton]; omega) (by simp only [List.length_singleton]; omega) ?_
      repeat (first | refine i_s rfl ?_ | refine sw ?_ | refine ja rfl rfl ?_)
      refine e_lp (k + 1, e ++ [l]) ⟨hlt, by rw [hstep, hadd], by simp; omega⟩ (by simp only; omega) ⟨⟨rfl, ?_, rfl, rfl, rfl, trivial⟩, ⟨rfl, ?_, trivial⟩, rfl⟩
      · simp only
        rw [← List.append_assoc, show (e ++ [l]).length = e.length + 1 from by simp]
        rfl
      · simp only
        rw [← List.append_assoc, show (e ++ [l]).length = e.length + 1 from by simp]
        rfl
    · have hm : l ∈ a ++ e := by
        cases hd : decide (l ∈ a ++ e) with
        | true => exact of_decide_eq_true hd
        | false => rw [hd] at h; cases h
      have hadd : addCs (a ++ e) l = a ++ e := by unfold addCs; rw [if_pos hm]
      clear h hC hany hb ha hmem
      repeat (first | refine i_s rfl ?_ | refine sw ?_ | refine ja rfl rfl ?_)
      exact e_lp (k + 1, e) ⟨hlt, by rw [hstep, hadd], by simp only; omega⟩ (by simp only; omega) ft
  · have hge : k = b.length := by have : ¬ k < b.length := by simpa using h
                                  omega
    subst hge
    rw [List.take_length] at h2
    unfold orP
    rw [h2]
    clear h hb ha
    by_cases big : (a ++ e).length > 40
    · rw [if_pos big]
      have hbig : ((a ++ e).length : Int) > 40 := by omega
      repeat (first | refine i_s rfl ?_ | refine i_lenm rfl rfl rfl ?_ | refine sw ?_)
      refine c_cond rfl (fun h => ?_) (fun h => ?_)
      · repeat (first | refine i_s rfl ?_ | refine sw ?_ | refine i_stb rfl ?_)
        refine e_ret ⟨rfl, _, rfl, rfl, rfl, rfl, ?_, rfl⟩
        rw [restr_stOf, Bool.or_true]
        rfl
      · exact absurd hbig (of_decide_eq_false h)
    · rw [if_neg big]
      have hbig : ¬ ((a ++ e).length : Int) > 40 := by omega
      repeat (first | refine i_s rfl ?_ | refine i_lenm rfl rfl rfl ?_ | refine sw ?_)
      refine c_cond rfl (fun h => ?_) (fun h => ?_)
      · exact absurd (of_decide_eq_true h) hbig
      · repeat refine sw ?_
        refine c_frza rfl rfl rfl ?_
        repeat (first | refine i_s rfl ?_ | refine sw ?_)
        refine e_ret ⟨rfl, _, rfl, rfl, rfl, ?_, ?_, rfl⟩
        · show V.sl .p _ = V.sl .p _
          rw [List.drop_zero, List.take_of_length_le (by simp)]
        · rw [restr_stOf, Bool.or_false]
          rfl
def andO (a b : Cs) (i : Nat) : Cs × Bool := (a.take i).foldl (fun s l => b.foldl (andStep l) s) ([], false)
def andI (a b : Cs) (i : Nat) (l : List Lit) (k : Nat) : Cs × Bool := (b.take k).foldl (andStep l) (andO a b i)
theorem andO_succ {a b : Cs} {i : Nat} {l : List Lit} (h : a[i]? = some l) : andO a b (i + 1) = andI a b i l b.length := by
  unfold andI andO
  rw [take_succ_get h, List.foldl_append, List.take_length]
  rfl
theorem andI_succ {a b : Cs} {i k : Nat} {l m : List Lit} (h : b[k]? = some m) : andI a b i l (k + 1) = andStep l (andI a b i l k) m := by
  unfold andI
  rw [take_succ_get h, List.foldl_append]
  rfl
theorem andO_ok {B C : Nat} {a b : Cs} (ha : AllCa B a) (hb : AllCa C b) (i : Nat) : CsOk (B + C) (andO a b i).1 := foldOut_ok hb (fun x hx => ha x (List.mem_of_mem_take hx)) (.nil _)
theorem andI_ok {B C : Nat} {a b : Cs} (ha : AllCa B a) (hb : AllCa C b) {i : Nat} {l : List Lit} (hl : CaOk B l) (k : Nat) : CsOk (B + C) (andI a b i l k).1 := foldIn_ok hl (fun x hx => hb x (List.mem_of_mem_take hx)) (andO_ok ha hb i)
def c_condition_expander_and : Cmd :=
 (qS [qq 6 (.mov (.c (.sl .p [])))]
 (qS [qq 7 (.mov (.c (.sl .p [])))]
 (qT (qS [qm 14 1, qn 15 14, qc 16 0]
 (.block 0 (.loop (qS [qu 17 .lss [] 16 15]
 (qT (.cond (.t 17) .skip (.exit 0))
 (qT (.block 1 (qS [qi 18 1 14 16, ql 19 1 18, qm 9 19]
 (qS [qm 20 2, qn 21 20, qc 22 0]
 (.block 2 (.loop (qS [qu 23 .lss [] 22 21]
 (qT (.cond (.t 23) .skip (.exit 2))
 (qT (.block 3 (qS [qi 24 1 20 22, ql 25 1 24, qm 11 25]
 (qS [qm 27 9, qm 28 11, qk 29 132 [27, 28], qm 26 29, qq 30 (.extract (.t 26) 0), qq 31 (.extract (.t 26) 1), qm 12 30, qm 13 31]
 (qS [qm 32 13]
 (.cond (.t 32) (.ops [qm 33 0, qm 34 7, qm 35 12, qq 36 (.bsl 1 [.t 35]), qq 37 (.call (.s [1345929]) (.c (.fn 124 [])) [.t 33, .t 34, .t 36]), qm 7 37]) .skip)))))
 (.ops [qv 38 .add [] 22 1, qm 22 38])))))))))
 (.ops [qv 39 .add [] 16 1, qm 16 39])))))))
 (.seq (.ops [qm 40 7, qm 6 40]) .ret))))
def r_condition_expander_and : List RVar := [.tmp 6]
def n_condition_expander_and : Nat := 41
theorem k_condition_expander_and : chkFn Go.Proofs.Tryz.prog 123 n_condition_expander_and r_condition_expander_and c_condition_expander_and = true := by kernel_rfl
theorem ct_and {G : Type} {H : HT G} (d : Dom) (c : Cnd) (much : Bool) (a b : Cs) (B C : Nat) (hB : B ≤ 40000000) (hC : C ≤ 40000000) (hla : a.length ≤ 1000) (hlb : b.length ≤ 1000) (ha : AllCa B a) (hb : AllCa C b) (g : G) :
    Cc Go.Proofs.Tryz.prog H 123 [.bptr 1345929 0, csV a, csV b] [1345929] (stOf (exS d c much)) g fun r σ' g' => r = csV (andP a b).1 ∧ σ' = stOf (exS d c (much || (andP a b).2)) ∧ g' = g := by
  have hfull : andP a b = andO a b a.length := by unfold andP andO; rw [List.take_length]
  rw [hfull]
  unfold csV
  refine CT.step _ mixed k_condition_expander_and one_memX fun hM => ?_
  repeat (first | refine i_len rfl ?_ | refine i_s rfl ?_ | refine sw ?_)
  refine c_for a.length (fun i => [(0, .bptr 1345929 0), (2, .sl .p (b.map caV)), (7, .sl .p ((andO a b i).1.map caV)), (14, .sl .p (a.map caV)), (15, .int .i64 a.length), (16, .int .i64 i)])
    (fun i => exS d c (much || (andO a b i).2)) (fun _ => True) trivial ⟨⟨rfl, rfl, rfl, rfl, rfl, rfl, trivial⟩, ⟨by rw [show (andO a b 0).2 = false from rfl, Bool.or_false]; rfl, trivial⟩, rfl⟩ fun i hi _ => ?_
  repeat (first | refine i_s rfl ?_ | refine sw ?_)
  refine c_cond rfl (fun h => ?_) (fun h => ?_)
  · have hlt : i < a.length := by simpa using h
    obtain ⟨l, hl⟩ := get_some hlt
    have hlo := ha l (mem_get hl)
    clear h
    repeat (first | refine i_len rfl ?_ | refine i_s rfl ?_ | refine sw ?_ | refine jd rfl rfl ?_)
    refine c_for b.length (fun k => [(0, .bptr 1345929 0), (2, .sl .p (b.map caV)), (7, .sl .p ((andI a b i l k).1.map caV)), (9, caV l), (14, .sl .p (a.map caV)), (15, .int .i64 a.length), (16, .int .i64 i), (20, .sl .p (b.map caV)), (21, .int .i64 b.length), (22, .int .i64 k)])
      (fun k => exS d c (much || (andI a b i l k).2)) (fun _ => True) trivial ft fun k hk _ => ?_
    repeat (first | refine i_s rfl ?_ | refine sw ?_)
    refine c_cond rfl (fun h => ?_) (fun h => ?_)
    · have hlt2 : k < b.length := by simpa using h
      obtain ⟨m, hm⟩ := get_some hlt2
      have hmo := hb m (mem_get hm)
      have hT := andI_ok ha hb (i := i) hlo k
      have hst := andI_succ (a := a) (i := i) (l := l) hm
      have hMg := f_condition_merge l m (by have := hlo.len; omega) (by have := hmo.len; omega) hlo.at_ hmo.at_ hlo.so hlo.co
      clear h
      unfold andStep at hst
      cases hj : joinL l m with
      | none =>
        rw [hj] at hMg hst
        simp only at hst
        unfold mergeV at hMg
        clear hT hlo hmo ha hb
        generalize andI a b i l k = T at *
        repeat' (first | refine i_s rfl ?_ | refine sw ?_ | refine c_f rfl ?_ | refine ja rfl rfl ?_ | refine jd rfl rfl ?_ | refine sf rfl rfl hMg ?_ | fail)
        all_goals first
          | (refine e_for hlt2 trivial ⟨⟨rfl, rfl, ?_, rfl, rfl, rfl, rfl, rfl, rfl, rfl, trivial⟩, ⟨?_, trivial⟩, rfl⟩ <;> rw [hst] <;> rfl)
          | (exfalso; clear hMg; simp at *; done)
      | some q =>
        rw [hj] at hMg hst
        simp only at hst
        unfold mergeV at hMg
        obtain ⟨q1, q2, q3⟩ := joinL_some hlo.so hlo.co hj
        have hq : CaOk (B + C) q := ⟨by have := joinL_len hj; have := hlo.len; have := hmo.len; omega, fun y hy => by
          rcases (q3 y).1 hy with h | h
          · exact hlo.at_ y h
          · exact hmo.at_ y h, q1, q2⟩
        have hO := ct_or (H := H) d c (much || (andI a b i l k).2) (andI a b i l k).1 [q] (B + C) (by omega) (by have := hT.len; omega) (by simp) hT.ca (fun x hx => by rw [List.mem_singleton.1 hx]; exact hq)
        clear hT hlo hmo ha hb hq
        generalize andI a b i l k = T at *
        repeat' (first | refine i_s rfl ?_ | refine sw ?_ | refine c_t rfl ?_ | refine jd rfl rfl ?_ | refine sf rfl rfl hMg ?_ | fail)
        all_goals first
          | (exfalso; clear hMg hO; simp at *; done)
          | skip
        refine i_cs rfl rfl rfl rfl (hO _) ?_
        rintro _ _ _ ⟨rfl, rfl, rfl⟩
        repeat' (first | refine i_s rfl ?_ | refine sw ?_ | refine ja rfl rfl ?_ | fail)
        refine e_for hlt2 trivial ⟨⟨rfl, rfl, ?_, rfl, rfl, rfl, rfl, rfl, rfl, rfl, trivial⟩, ⟨?_, trivial⟩, rfl⟩
        · rw [hst]; rfl
        · rw [hst, ← Bool.or_assoc]; rfl
    · have hge : k = b.length := by have : ¬ k < b.length := by simpa using h
                                    omega
      subst hge
      have hst := andO_succ (b := b) hl
      clear h ha hb hlo
      repeat (first | refine i_s rfl ?_ | refine sw ?_ | refine ja rfl rfl ?_)
      refine e_for hlt trivial ⟨⟨rfl, rfl, ?_, rfl, rfl, rfl, trivial⟩, ⟨?_, trivial⟩, rfl⟩
      · rw [hst]; rfl
      · rw [hst]; rfl
  · have hge : i = a.length := by have : ¬ i < a.length := by simpa using h
                                  omega
    subst hge
    clear h ha hb
    repeat (first | refine i_s rfl ?_ | refine sw ?_)
    exact e_ret ⟨rfl, _, rfl, rfl, rfl, rfl, restr_stOf _ _, rfl⟩
def foldK (all : Bool) (parts : List Cs) (k : Nat) : Cs × Bool := (parts.take k).foldl (stepP all) (someL all, false)
theorem foldK_succ {all : Bool} {parts : List Cs} {k : Nat} {p : Cs} (h : parts[k]? = some p) : foldK all parts (k + 1) = stepP all (foldK all parts k) p := by
  unfold foldK
  rw [take_succ_get h, List.foldl_append]
  rfl
theorem PartsOk.all : ∀ {ps : List Cs} {S : Nat}, PartsOk ps S → ∀ p ∈ ps, CsOk S p
  | [], _, _, p, hp => by simp at hp
  | q :: ps, S, ⟨B, S', h1, h2, h3⟩, p, hp => by
    rcases List.mem_cons.1 hp with rfl | hp
    · exact h2.mono (by omega)
    · exact (PartsOk.all h3 p hp).mono (by omega)
theorem PartsOk.take : ∀ {ps : List Cs} {S : Nat} (k : Nat), PartsOk ps S → PartsOk (ps.take k) S
  | [], _, k, _ => by simp [PartsOk]
  | q :: ps, S, 0, _ => trivial
  | q :: ps, S, k + 1, ⟨B, S', h1, h2, h3⟩ => ⟨B, S', h1, h2, PartsOk.take k h3⟩
theorem foldK_ok {all : Bool} {parts : List Cs} {S : Nat} (h : PartsOk parts S) (k : Nat) : CsOk S (foldK all parts k).1 := by
  have := foldS_ok (all := all) (s := (someL all, false)) (h.take k) (CsOk.some 0 all)
  unfold foldK
  rwa [Nat.zero_add] at this
def c_condition_expander_fold : Cmd :=
 (qS [qq 6 (.mov (.c (.sl .p [])))]
 (qS [qq 7 (.mov (.c (.sl .p [])))]
 (qT (qS [qm 10 1]
 (.cond (.t 10) (.ops [qq 11 (.bsl 1 [.c (.sl .p [])]), qm 7 11]) .skip))
 (qT (qS [qm 12 2, qn 13 12, qc 14 0]
 (.block 0 (.loop (qS [qu 15 .lss [] 14 13]
 (qT (.cond (.t 15) .skip (.exit 0))
 (qT (.block 1 (qS [qi 16 1 12 14, ql 17 1 16, qm 9 17]
 (qS [qm 18 1]
 (.cond (.t 18) (.ops [qm 19 0, qm 20 7, qm 21 9, qq 22 (.call (.s [1345929]) (.c (.fn 123 [])) [.t 19, .t 20, .t 21]), qm 7 22]) (.ops [qm 23 0, qm 24 7, qm 25 9, qq 26 (.call (.s [1345929]) (.c (.fn 124 [])) [.t 23, .t 24, .t 25]), qm 7 26])))))
 (.ops [qv 27 .add [] 14 1, qm 14 27])))))))
 (.seq (.ops [qm 28 7, qm 6 28]) .ret)))))
def r_condition_expander_fold : List RVar := [.tmp 6]
def n_condition_expander_fold : Nat := 29
theorem k_condition_expander_fold : chkFn Go.Proofs.Tryz.prog 100 n_condition_expander_fold r_condition_expander_fold c_condition_expander_fold = true := by kernel_rfl
theorem ct_fold {G : Type} {H : HT G} (d : Dom) (c : Cnd) (much all : Bool) (parts : List Cs) (S : Nat) (hS : S ≤ 40000000) (hl : parts.length ≤ 17592186044416) (hp : PartsOk parts S) (g : G) :
    Cc Go.Proofs.Tryz.prog H 100 [.bptr 1345929 0, .bool all, .sl .p (parts.map csV)] [1345929] (stOf (exS d c much)) g fun r σ' g' => r = csV (foldP all parts).1 ∧ σ' = stOf (exS d c (much || (foldP all parts).2)) ∧ g' = g := by
  have hfull : foldP all parts = foldK all parts parts.length := by unfold foldP foldK; rw [List.take_length]
  rw [hfull]
  refine CT.step _ mixed k_condition_expander_fold one_memX fun hM => ?_
  cases all
  all_goals
    repeat (first | refine i_len rfl ?_ | refine i_s rfl ?_ | refine sw ?_ | refine c_t rfl ?_ | refine c_f rfl ?_)
  · refine c_for parts.length (fun k => [(0, .bptr 1345929 0), (1, .bool false), (7, .sl .p ((foldK false parts k).1.map caV)), (12, .sl .p (parts.map csV)), (13, .int .i64 parts.length), (14, .int .i64 k)])
      (fun k => exS d c (much || (foldK false parts k).2)) (fun _ => True) trivial ⟨⟨rfl, rfl, rfl, rfl, rfl, rfl, trivial⟩, ⟨by rw [show (foldK false parts 0).2 = false from rfl, Bool.or_false]; rfl, trivial⟩, rfl⟩ fun k hk _ => ?_
    by_cases hlt : k < parts.length
    · obtain ⟨p, hpk⟩ := get_some hlt
      have hst := foldK_succ (all := false) hpk
      have hT := foldK_ok (all := false) hp k
      have hP := hp.all p (mem_get hpk)
      have hO := ct_or (H := H) d c (much || (foldK false parts k).2) (foldK false parts k).1 p S (by omega) (by have := hT.len; omega) (by have := hP.len; omega) hT.ca hP.ca
      unfold stepP at hst
      rw [if_neg (by simp)] at hst
      clear hT hP hp
      generalize foldK false parts k = T at *
      repeat' (first | refine i_s rfl ?_ | refine sw ?_ | refine c_f rfl ?_ | refine jd rfl rfl ?_ | refine c_cond rfl (fun h => ?_) (fun h => ?_))
      all_goals first
        | (exfalso; clear hO; simp at *; done)
        | (exfalso; clear hO; simp at *; omega)
        | skip
      all_goals
        refine i_cs rfl rfl rfl rfl (hO _) ?_
        rintro _ _ _ ⟨rfl, rfl, rfl⟩
        repeat' (first | refine i_s rfl ?_ | refine sw ?_ | refine ja rfl rfl ?_ | fail)
        refine e_for hlt trivial ⟨⟨rfl, rfl, ?_, rfl, rfl, rfl, trivial⟩, ⟨?_, trivial⟩, rfl⟩
        · rw [hst]; rfl
        · rw [hst, ← Bool.or_assoc]; rfl
    · have hge : k = parts.length := by omega
      subst hge
      clear hp
      repeat' (first | refine i_s rfl ?_ | refine sw ?_ | refine c_cond rfl (fun h => ?_) (fun h => ?_))
      all_goals first
        | (exfalso; simp at *; done)
        | (exfalso; simp at *; omega)
        | exact e_ret ⟨rfl, _, rfl, rfl, rfl, rfl, restr_stOf _ _, rfl⟩
  · refine c_for parts.length (fun k => [(0, .bptr 1345929 0), (1, .bool true), (7, .sl .p ((foldK true parts k).1.map caV)), (12, .sl .p (parts.map csV)), (13, .int .i64 parts.length), (14, .int .i64 k)])
      (fun k => exS d c (much || (foldK true parts k).2)) (fun _ => True) trivial ⟨⟨rfl, rfl, rfl, rfl, rfl, rfl, trivial⟩, ⟨by rw [show (foldK true parts 0).2 = false from rfl, Bool.or_false]; rfl, trivial⟩, rfl⟩ fun k hk _ => ?_
    by_cases hlt : k < parts.length
    · obtain ⟨p, hpk⟩ := get_some hlt
      have hst := foldK_succ (all := true) hpk
      have hT := foldK_ok (all := true) hp k
      have hP := hp.all p (mem_get hpk)
      have hO := ct_and (H := H) d c (much || (foldK true parts k).2) (foldK true parts k).1 p S S (by omega) (by omega) (by have := hT.len; omega) (by have := hP.len; omega) hT.ca hP.ca
      unfold stepP at hst
      rw [if_pos rfl] at hst
      clear hT hP hp
      generalize foldK true parts k = T at *
      repeat' (first | refine i_s rfl ?_ | refine sw ?_ | refine c_t rfl ?_ | refine jd rfl rfl ?_ | refine c_cond rfl (fun h => ?_) (fun h => ?_))
      all_goals first
        | (exfalso; clear hO; simp at *; done)
        | (exfalso; clear hO; simp at *; omega)
        | skip
      all_goals
        refine i_cs rfl rfl rfl rfl (hO _) ?_
        rintro _ _ _ ⟨rfl, rfl, rfl⟩
        repeat' (first | refine i_s rfl ?_ | refine sw ?_ | refine ja rfl rfl ?_ | fail)
        refine e_for hlt trivial ⟨⟨rfl, rfl, ?_, rfl, rfl, rfl, trivial⟩, ⟨?_, trivial⟩, rfl⟩
        · rw [hst]; rfl
        · rw [hst, ← Bool.or_assoc]; rfl
    · have hge : k = parts.length := by omega
      subst hge
      clear hp
      repeat' (first | refine i_s rfl ?_ | refine sw ?_ | refine c_cond rfl (fun h => ?_) (fun h => ?_))
      all_goals first
        | (exfalso; simp at *; done)
        | (exfalso; simp at *; omega)
        | exact e_ret ⟨rfl, _, rfl, rfl, rfl, rfl, restr_stOf _ _, rfl⟩
def pk {α : Type} (f : α → Cs × Bool) (much : Bool) (xs : List α) : List Cs × Bool := (xs.map fun o => (f o).1, much || xs.any fun o => (f o).2)
theorem pk_snoc {α : Type} (f : α → Cs × Bool) (much : Bool) (xs : List α) (x : α) : pk f much (xs ++ [x]) = ((pk f much xs).1 ++ [(f x).1], (pk f much xs).2 || (f x).2) := by
  simp [pk, Bool.or_assoc]
theorem pk_nil {α : Type} (f : α → Cs × Bool) (much : Bool) : pk f much [] = ([], much) := by simp [pk]
theorem pk_len {α : Type} (f : α → Cs × Bool) (much : Bool) (xs : List α) : (pk f much xs).1.length = xs.length := by simp [pk]
theorem partsP_pk {α : Type} (f : α → Cs × Bool) (all much : Bool) (xs : List α) : (partsP all (xs.map f)).1 = (foldP all (pk f much xs).1).1 ∧ (much || (partsP all (xs.map f)).2) = ((pk f much xs).2 || (foldP all (pk f much xs).1).2) := by
  simp [partsP, pk, Function.comp_def, List.any_map, Bool.or_assoc]
theorem ST.clen {d l m a b ps ch} (h : ST d l m a b ps ch) : m = false → a + ch.length ≤ b := by
  induction h with
  | node _ _ _ _ => intro h; cases h
  | nil => intro _; simp
  | @cons a b e ps ch h1 h2 _ ih2 =>
    intro _
    have := h1.le.2 rfl
    have := ih2 rfl
    simp only [List.length_cons]
    omega
def c_Clone7 : Cmd :=
 (qS [qq 2 (.mov (.c (.sl .nil [])))]
 (qT (qS [qm 3 0, qq 4 (.isnil false (.t 3))]
 (.cond (.t 4) (.seq (.ops [qq 2 (.newArr 3520449)]) .ret) .skip))
 (.seq (.ops [qq 5 (.bslA 3520449 1 []), qm 6 0, qq 7 (.append 1 8 3 (.t 5) (.t 6)), qm 2 7]) .ret)))
def r_Clone7 : List RVar := [.tmp 2]
def n_Clone7 : Nat := 8
theorem k_Clone7 : chkFn Go.Proofs.Tryz.prog 55 n_Clone7 r_Clone7 c_Clone7 = true := by kernel_rfl
theorem ct_Clone7 {G : Type} {H : HT G} (s : List Int) (hl : s.length ≤ 17592186044416) (σ : Store) (g : G) (h1 : σ 3520449 = .unused) (hp : ∀ nm, σ nm ≠ .unused → nm ∈ [3520449]) :
    Cc Go.Proofs.Tryz.prog H 55 [.sl .p (s.map i64V)] [3520449] σ g fun r σ' g' => (∃ gen, r = .msl 3520449 gen 0 s.length ∧ σ' = stOf [(3520449, .arr gen (s.map i64V))]) ∧ g' = g := by
  refine CT.step _ mixed k_Clone7 hp fun hM => ?_
  repeat (first | refine i_s rfl ?_ | refine sw ?_)
  refine i_isnil rfl fun b hb => ?_
  repeat refine sw ?_
  refine c_cond rfl (fun h => ?_) (fun h => ?_)
  · have e : s = [] := by simpa using hb (by simpa using h)
    subst e
    repeat refine sw ?_
    refine i_na h1 ?_
    repeat refine sw ?_
    exact e_ret ⟨rfl, _, rfl, rfl, rfl, ⟨0, rfl, restr_stOf _ _⟩, rfl⟩
  · repeat refine sw ?_
    refine i_bsla h1 rfl rfl rfl ?_
    repeat refine i_s rfl ?_
    refine i_appmM (l := []) (f := i64V) s rfl rfl rfl rfl rfl (fun c hc => ⟨rfl, rfl⟩) (by simp; omega) (by simp; omega) ?_
    repeat (first | refine i_s rfl ?_ | refine sw ?_)
    refine e_ret ⟨rfl, _, rfl, rfl, rfl, ⟨1, rfl, ?_⟩, rfl⟩
    rw [restr_stOf]; rfl
theorem pow_ok {m k n : Nat} (hm : m ≤ 30) (hk : k ≤ 6) (h : n ≤ m * 8 ^ k) : n ≤ 40000000 := by
  have h1 : (8 : Nat) ^ k ≤ 8 ^ 6 := Nat.pow_le_pow_right (by omega) hk
  have h2 : m * 8 ^ k ≤ 30 * 8 ^ 6 := Nat.mul_le_mul hm h1
  have h3 : (30 : Nat) * 8 ^ 6 = 7864320 := by decide
  omega
def NodeA (d : Dom) (c : Cnd) (i : Nat) : Prop := ∀ (G : Type) (H : HT G) (a : Nat) (ps args : List Int) (neg much : Bool) (g : G), ST d c.nodes true a (i + 1) ps [] → ps.length ≤ 6 → ArgsOk d ps args →
    Cc Go.Proofs.Tryz.prog H 60 [.bptr 1345929 0, .int .i64 i, .sl .p (args.map i64V), .bool neg] [1345929] (stOf (exS d c much)) g fun r σ' g' =>
      r = csV (nd d c.nodes i args neg).1 ∧ σ' = stOf (exS d c (much || (nd d c.nodes i args neg).2)) ∧ g' = g
def NodeB (nm : Nat) (d : Dom) (c : Cnd) (i : Nat) : Prop := ∀ (G : Type) (H : HT G) (a : Nat) (ps args : List Int) (neg much : Bool) (gen : Nat) (g : G), ST d c.nodes true a (i + 1) ps [] → ps.length ≤ 6 → ArgsOk d ps args →
    Cc Go.Proofs.Tryz.prog H 60 [.bptr 1345929 0, .int .i64 i, .msl nm gen 0 args.length, .bool neg] [1345929, nm] (stOf [(1345929, .box (exV d c much)), (nm, .arr gen (args.map i64V))]) g fun r σ' g' =>
      r = csV (nd d c.nodes i args neg).1 ∧ (∃ b, σ' = stOf [(1345929, .box (exV d c (much || (nd d c.nodes i args neg).2))), (nm, b)]) ∧ g' = g
theorem c_frzall {G : Type} {P : Program} {H : HT G} {pn : List Nat} {Q : Exit → Env → Store → G → Prop} {fs : List (Frm G)} {ρ : Env} {σ : Store} {g : G} {t nm gen gen' len : Nat} {rows : List V} (ht : ρ t = .msl nm gen 0 len) (hs : σ nm = .arr gen' rows) (hg : gen = gen') (hl : rows.length = len)
    (h : WE P H pn Q fs .normal (upd ρ t (.sl .p rows)) (ups σ nm .dead) g) : WC P H pn Q fs (.frz t) ρ σ g :=
  c_frza ht hs hg (by rw [List.drop_zero, List.take_of_length_le (by omega)]; exact h)
def c_nodeA : Cmd :=
 (qS [qq 8 (.mov (.c (.sl .p [])))]
 (qS [qm 16 0, qq 17 (.nilck (.t 16)), qf 18 6 17, qf 19 1 18, ql 20 1 19, qm 21 1, qi 22 7 20 21, qL 23 7 22, qq 9 (.alloc 3840583 (.agg [.int .i64 0, .sl .nil [], .int .i64 0, .sl .nil [], .int .i64 0, .int .i64 0, .int .i64 0])), qs 7 9 23]
 (qS [qq 10 (.newVec 3840641)]
 (qT (qS [qf 24 0 9, ql 25 1 24]
 (.block 0 (qS [qv 43 .eql [.i] 25 2, qm 42 43]
 (.cond (.t 42) (.seq (.ops [qm 44 3, qf 45 2 9, qL 46 2 45, qm 47 2, qk 48 91 [46, 47], qq 49 (.build [.bool false, .int .i64 0, .sl .nil []] [(0 , 1 , .t 44), (1 , 2 , .t 48)]), qq 50 (.bsl 3 [.t 49]), qq 51 (.bsl 1 [.t 50]), qm 8 51]) .ret) (qS [qv 53 .eql [.i] 25 3, qm 52 53]
 (.cond (.t 52) (qT (qS [qf 54 4 9, ql 55 1 54, qm 56 2, qk 57 92 [55, 56], qf 58 5 9, ql 59 1 58, qm 60 2, qk 61 92 [59, 60], qu 62 .eql [.i] 57 61, qm 63 3, qu 64 .neq [.b] 62 63]
 (.cond (.t 64) (.seq (.ops [qq 65 (.bsl 1 [.c (.sl .p [])]), qm 8 65]) .ret) .skip))
 (.seq (.ops [qq 8 (.mov (.c (.sl .p [])))]) .ret)) (qS [qv 67 .eql [.i] 25 4, qm 66 67]
 (.cond (.t 66) (.seq (.ops [qm 68 0, qf 69 1 9, ql 70 1 69, qq 71 (.iaddr 1 (.t 70) (.c (.int .i64 0))), ql 72 1 71, qm 73 2, qm 74 3, qq 75 (.not (.t 74)), qq 76 (.call (.s [1345929]) (.c (.fn 60 [])) [.t 68, .t 72, .t 73, .t 75]), qm 8 76]) .ret) (qS [qv 78 .eql [.i] 25 1, qm 77 78]
 (.cond (.t 77) (qT (qS [qm 79 3]
 (.cond (.t 79) (.seq (.ops [qq 8 (.mov (.c (.sl .p [])))]) .ret) .skip))
 (.seq (.ops [qq 80 (.bsl 1 [.c (.sl .p [])]), qm 8 80]) .ret)) (qT (qS [qv 82 .eql [.i] 25 7, qm 81 82]
 (.cond (.t 81) .skip (.ops [qv 83 .eql [.i] 25 8, qm 81 83])))
 (.cond (.t 81) (qS [qm 84 0, qq 85 (.nilck (.t 84)), qf 86 0 85, qf 87 0 86, ql 88 1 87, qm 89 0, qq 90 (.nilck (.t 89)), qf 91 0 90, qf 92 1 91, ql 93 1 92, qf 94 6 9, ql 95 1 94, qk 96 99 [88, 93, 95], qn 97 96, qc 98 0]
 (.block 3 (.loop (qS [qu 99 .lss [] 98 97]
 (qT (.cond (.t 99) .skip (.exit 3))
 (qT (.block 4 (qS [qi 100 1 96 98, ql 101 1 100, qm 12 101]
 (.opsT (.node 2 7 (.node 3 7 (.node 4 7 (.node 5 7 (.leaf [0, 1, 2, 3, 4, 5, 6, 8, 9, 11, 7, 10, 12, 13, 14, 15]) (.node 5 10 (.leaf [0, 1, 2, 3, 4, 6, 8, 9, 11, 7, 5, 10, 12, 13, 14, 15]) (.leaf [0, 1, 2, 3, 4, 6, 8, 9, 11, 7, 10, 5, 12, 13, 14, 15]))) (.node 4 10 (.node 5 10 (.leaf [0, 1, 2, 3, 6, 8, 9, 11, 7, 4, 5, 10, 12, 13, 14, 15]) (.leaf [0, 1, 2, 3, 6, 8, 9, 11, 7, 4, 10, 5, 12, 13, 14, 15])) (.leaf [0, 1, 2, 3, 6, 8, 9, 11, 7, 10, 4, 5, 12, 13, 14, 15]))) (.node 3 10 (.node 4 10 (.node 5 10 (.leaf [0, 1, 2, 6, 8, 9, 11, 7, 3, 4, 5, 10, 12, 13, 14, 15]) (.leaf [0, 1, 2, 6, 8, 9, 11, 7, 3, 4, 10, 5, 12, 13, 14, 15])) (.leaf [0, 1, 2, 6, 8, 9, 11, 7, 3, 10, 4, 5, 12, 13, 14, 15])) (.leaf [0, 1, 2, 6, 8, 9, 11, 7, 10, 3, 4, 5, 12, 13, 14, 15]))) (.node 2 10 (.node 3 10 (.node 4 10 (.node 5 10 (.leaf [0, 1, 6, 8, 9, 11, 7, 2, 3, 4, 5, 10, 12, 13, 14, 15]) (.leaf [0, 1, 6, 8, 9, 11, 7, 2, 3, 4, 10, 5, 12, 13, 14, 15])) (.leaf [0, 1, 6, 8, 9, 11, 7, 2, 3, 10, 4, 5, 12, 13, 14, 15])) (.leaf [0, 1, 6, 8, 9, 11, 7, 2, 10, 3, 4, 5, 12, 13, 14, 15])) (.leaf [0, 1, 6, 8, 9, 11, 7, 10, 2, 3, 4, 5, 12, 13, 14, 15]))) [qm 102 10, qm 103 0, qf 104 1 9, ql 105 1 104, qq 106 (.iaddr 1 (.t 105) (.c (.int .i64 0))), ql 107 1 106, qm 108 2, qq 109 (.call (.s [3520321]) (.c (.fn 55 [])) [.t 108]), qm 110 12, qq 111 (.bsl 1 [.t 110]), qq 112 (.append 1 8 3 (.t 109) (.t 111)), qm 113 3, qq 114 (.call (.s [1345929, 3520321]) (.c (.fn 60 [])) [.t 103, .t 107, .t 112, .t 113]), qq 115 (.bsl 1 [.t 114]), qq 116 (.append 1 24 107 (.t 102) (.t 115)), qm 10 116])))
 (.ops [qv 117 .add [] 98 1, qm 98 117]))))))) (qS [qf 26 1 9, ql 27 1 26, qn 28 27, qc 29 0]
 (.block 1 (.loop (qS [qu 30 .lss [] 29 28]
 (qT (.cond (.t 30) .skip (.exit 1))
 (qT (.block 2 (qS [qi 31 1 27 29, ql 32 1 31, qm 14 32]
 (.ops [qm 33 10, qm 34 0, qm 35 14, qm 36 2, qm 37 3, qq 38 (.call (.s [1345929]) (.c (.fn 60 [])) [.t 34, .t 35, .t 36, .t 37]), qq 39 (.bsl 1 [.t 38]), qq 40 (.append 1 24 107 (.t 33) (.t 39)), qm 10 40])))
 (.ops [qv 41 .add [] 29 1, qm 29 41])))))))))))))))))))
 (.seq (.ops [qf 118 0 9, ql 119 1 118, qv 120 .eql [.i] 119 5, qm 121 120, qg 122 121 false (.faddr 0 (.t 9)), qg 123 121 false (.load false 1 (.t 122)), qg 124 121 false (.bin .eql false [.i] (.t 123) (.c (.int .i64 8))), qq 125 (.pick (.t 121) (.c (.bool true)) (.t 124)), qm 15 125]) (qT (.frz 10)
 (.seq (.ops [qm 126 0, qm 127 15, qm 128 3, qu 129 .neq [.b] 127 128, qm 130 10, qq 131 (.call (.s [1345929]) (.c (.fn 100 [])) [.t 126, .t 129, .t 130]), qm 8 131]) .ret)))))))
def r_nodeA : List RVar := [.tmp 8]
def n_nodeA : Nat := 132
theorem k_nodeA : chkFn Go.Proofs.Tryz.prog 60 n_nodeA r_nodeA c_nodeA = true := by kernel_rfl
theorem node_stepA (d : Dom) (hd : DoTy d) (c : Cnd) (ho : CndOk c) (h30 : c.nodes.length ≤ 30) (i : Nat) (ihA : ∀ j, j < i → NodeA d c j) (ihB : ∀ j, j < i → NodeB 3520321 d c j) : NodeA d c i := by
  intro G H a ps args neg much g hst hps ha
  obtain ⟨j, n, e, haj, hn, ok, hkids⟩ := hst.root
  obtain rfl : i = j := by omega
  rw [nd_eq hst hn args]
  have hno := ho.nodes n (mem_get hn)
  have hkid := hkids.kids rfl
  have hal : args.length ≤ 6 := by have := ha.1; omega
  have hk0 := ok.k0
  have hk8 := ok.k8
  have hqu := ok.qu
  have hlf := ok.lf
  have hnc := hno.ch
  have hown : quantK n.kind = false → ownC n = [] := fun h => by unfold ownC; rw [h]; rfl
  by_cases k2 : n.kind = 2
  · rw [if_pos k2]
    simp only [Bool.or_false]
    unfold leafCode at hlf
    rw [if_pos k2] at hlf
    have hr := atom_rng hlf
    have hB := f_condition_Bind args (by omega) n.at_ hno.at_.len (fun x hx => by have := (hr x hx).1; have := ha.1; omega)
    generalize bindA args n.at_ = at2 at *
    clear hd ho ihA ihB hst hkids hkid hno hr ok
    refine CT.step _ mixed k_nodeA one_memX fun hM => ?_
    skip
    repeat' (first | refine i_len rfl ?_ | refine i_s rfl ?_ | refine sw ?_ | refine jd rfl rfl ?_ | refine i_stb rfl ?_ | refine i_alloc rfl ?_ | refine i_nv rfl ?_ | refine c_cond rfl (fun h => ?_) (fun h => ?_) | refine sf rfl rfl hB ?_ | fail)
    all_goals first
      | (exfalso; clear hB; simp_all; done)
      | skip
    all_goals exact e_ret ⟨rfl, _, rfl, rfl, rfl, rfl, restr_stOf _ _, rfl⟩
  rw [if_neg k2]
  by_cases k3 : n.kind = 3
  · rw [if_pos k3]
    simp only [Bool.or_false]
    unfold leafCode at hlf
    rw [if_neg k2, if_pos k3] at hlf
    have hb : badArg d ps n.left = false ∧ badArg d ps n.right = false := by
      split at hlf
      · cases hlf
      · rename_i h; simpa using h
    simp only [badArg, Bool.or_eq_false_iff, decide_eq_false_iff_not] at hb
    have hL := f_condition_value args (by omega) n.left (by have := ha.1; omega)
    have hR := f_condition_value args (by omega) n.right (by have := ha.1; omega)
    generalize objA args n.left = u at *
    generalize objA args n.right = w at *
    clear hd ho ihA ihB hst hkids hkid hno ok
    refine CT.step _ mixed k_nodeA one_memX fun hM => ?_
    skip
    by_cases huw : u = w
    all_goals cases neg
    all_goals
      repeat' (first | refine i_len rfl ?_ | refine i_s rfl ?_ | refine sw ?_ | refine c_t rfl ?_ | refine c_f rfl ?_ | refine jd rfl rfl ?_ | refine i_stb rfl ?_ | refine i_alloc rfl ?_ | refine i_nv rfl ?_ | refine c_cond rfl (fun h => ?_) (fun h => ?_) | refine sf rfl rfl hL ?_ | refine sf rfl rfl hR ?_ | fail)
    all_goals first
      | (exfalso; clear hL hR; simp_all; done)
      | skip
    all_goals refine e_ret ⟨rfl, _, rfl, rfl, rfl, ?_, restr_stOf _ _, rfl⟩
    all_goals first
      | (rw [decide_eq_true huw]; rfl)
      | (rw [decide_eq_false huw]; rfl)
  rw [if_neg k3]
  by_cases k4 : n.kind = 4
  · rw [if_pos k4]
    obtain ⟨k, hch⟩ := arity_one ok (.inl k4)
    obtain ⟨a', _, x0, x1, _, hs⟩ := hkid k (by rw [hch]; simp)
    rw [hown (by unfold quantK; simp [k4]), List.append_nil] at hs
    have hE := ihA k.toNat (by omega) G H a' ps args (!neg) much g hs hps ha
    have e0 : ch0 n = k.toNat := by unfold ch0; rw [hch]; rfl
    rw [show ((k.toNat : Nat) : Int) = k from by omega, ← e0] at hE
    generalize nd d c.nodes (ch0 n) args (!neg) = b at *
    have hk0 : [k][(0 : Int).toNat]? = some k := rfl
    rw [← hch] at hk0
    clear hd ho ihA ihB hst hkids hkid hno ok hs
    refine CT.step _ mixed k_nodeA one_memX fun hM => ?_
    skip
    repeat' (first | refine i_len rfl ?_ | refine i_s rfl ?_ | refine sw ?_ | refine jd rfl rfl ?_ | refine i_stb rfl ?_ | refine i_alloc rfl ?_ | refine i_nv rfl ?_ | refine c_cond rfl (fun h => ?_) (fun h => ?_))
    all_goals first
      | (exfalso; clear hE; simp_all; done)
      | skip
    all_goals
      refine i_cs rfl rfl rfl rfl hE ?_
      rintro _ _ _ ⟨rfl, rfl, rfl⟩
      repeat' (first | refine i_s rfl ?_ | refine sw ?_ | fail)
      exact e_ret ⟨rfl, _, rfl, rfl, rfl, rfl, restr_stOf _ _, rfl⟩
  rw [if_neg k4]
  by_cases k1 : n.kind = 1
  · rw [if_pos k1]
    simp only [Bool.or_false]
    clear hd ho ihA ihB hst hkids hkid hno ok
    refine CT.step _ mixed k_nodeA one_memX fun hM => ?_
    skip
    cases neg
    all_goals
      repeat' (first | refine i_len rfl ?_ | refine i_s rfl ?_ | refine sw ?_ | refine c_t rfl ?_ | refine c_f rfl ?_ | refine jd rfl rfl ?_ | refine i_stb rfl ?_ | refine i_alloc rfl ?_ | refine i_nv rfl ?_ | refine c_cond rfl (fun h => ?_) (fun h => ?_))
    all_goals first
      | (exfalso; simp_all; done)
      | skip
    all_goals exact e_ret ⟨rfl, _, rfl, rfl, rfl, rfl, restr_stOf _ _, rfl⟩
  rw [if_neg k1]
  have hnl : n.ch.length ≤ 30 := by have := hkids.clen rfl; have := get_lt hn; omega
  have hil := get_lt hn
  have hle := hkids.le.1
  by_cases k56 : n.kind = 5 ∨ n.kind = 6
  · rw [if_neg (by omega)]
    have hq : quantK n.kind = false := by unfold quantK; rcases k56 with h | h <;> simp [h]
    rw [hown hq, List.append_nil] at hkids
    have hF := partsP_pk (fun k : Int => nd d c.nodes k.toNat args neg) (conjK n.kind neg) much n.ch
    rw [hF.1, hF.2]
    clear hF
    refine CT.step _ mixed k_nodeA one_memX fun hM => ?_
    skip
    have hpk0 : pk (fun k : Int => nd d c.nodes k.toNat args neg) much (n.ch.take 0) = ([], much) := pk_nil _ _
    skip
    repeat' (first | refine i_len rfl ?_ | refine i_s rfl ?_ | refine sw ?_ | refine jd rfl rfl ?_ | refine i_stb rfl ?_ | refine i_alloc rfl ?_ | refine i_nv rfl ?_ | refine c_cond rfl (fun h => ?_) (fun h => ?_))
    all_goals first
      | (exfalso; clear ihA ihB; simp_all; done)
      | (exfalso; clear ihA ihB hd ho hst hkids hkid hno ok; simp at *; omega)
      | skip
    all_goals
      refine c_for n.ch.length (fun k => [(0, .bptr 1345929 0), (2, .sl .p (args.map i64V)), (3, .bool neg), (9, .bptr 3840583 0), (10, .sl (.own 3840641) ((pk (fun k : Int => nd d c.nodes k.toNat args neg) much (n.ch.take k)).1.map csV)), (27, .sl .p (n.ch.map i64V)), (28, .int .i64 n.ch.length), (29, .int .i64 k)])
        (fun k => [(1345929, .box (exV d c (pk (fun k : Int => nd d c.nodes k.toNat args neg) much (n.ch.take k)).2)), (3840583, .box (cnV n)), (3840641, .vec (pk (fun k : Int => nd d c.nodes k.toNat args neg) much (n.ch.take k)).1.length)])
        (fun _ => True) trivial ⟨⟨rfl, rfl, rfl, rfl, by rw [hpk0]; rfl, rfl, rfl, rfl, trivial⟩, ⟨by rw [hpk0]; rfl, rfl, by rw [hpk0]; rfl, trivial⟩, rfl⟩ fun k hk _ => ?_
      by_cases hlt : k < n.ch.length
      · obtain ⟨x, hx⟩ := get_some hlt
        obtain ⟨a', h1, h2, h3, h4, h5, h6⟩ := hkids.nth rfl k x hx
        have hsn := pk_snoc (fun k : Int => nd d c.nodes k.toNat args neg) much (n.ch.take k) x
        have hln := pk_len (fun k : Int => nd d c.nodes k.toNat args neg) much (n.ch.take k)
        rw [← take_succ_get hx] at hsn
        have hE := fun m g => ihA x.toNat (by omega) G H a' ps args neg m g h5 hps ha
        rw [show ((x.toNat : Nat) : Int) = x from by omega] at hE
        have htl : (n.ch.take k).length ≤ k := by simp; omega
        generalize pk (fun k : Int => nd d c.nodes k.toNat args neg) much (n.ch.take k) = PK at *
        generalize nd d c.nodes x.toNat args neg = q at *
        clear ihA ihB hd ho hst hkids hkid hno ok h5 h6 hpk0
        repeat' (first | refine i_s rfl ?_ | refine sw ?_ | refine i_gt rfl ?_ | refine i_gf rfl ?_ | refine jd rfl rfl ?_ | (refine sp ?_ ?_ <;> try intro h) | fail)
        all_goals first
          | (exfalso; clear hE; simp at *; done)
          | (exfalso; clear hE; simp at *; omega)
          | skip
        all_goals
          refine i_cs rfl rfl rfl rfl (hE _ _) ?_
          rintro _ _ _ ⟨rfl, rfl, rfl⟩
          repeat' refine i_s rfl ?_
        all_goals
          refine i_appM (c := q.1) rfl rfl rfl rfl rfl (by omega) (by omega) ?_
          repeat' (first | refine i_s rfl ?_ | refine sw ?_ | refine ja rfl rfl ?_ | fail)
        all_goals
          refine e_for hlt trivial ⟨⟨rfl, rfl, rfl, rfl, ?_, rfl, rfl, rfl, trivial⟩, ⟨?_, rfl, ?_, trivial⟩, rfl⟩
        all_goals rw [hsn]
        all_goals first
          | rfl
          | (simp; rfl)
          | simp
      · have hge : k = n.ch.length := by omega
        subst hge
        rw [List.take_length]
        have hln := pk_len (fun k : Int => nd d c.nodes k.toNat args neg) much n.ch
        have hPO := (nd_ok hd ho.nodes hkids hps args ha neg).2 rfl
        have hPO : PartsOk (pk (fun k : Int => nd d c.nodes k.toNat args neg) much n.ch).1 _ := hPO
        have hS := pow_ok (m := i - a) (k := 6 - ps.length) (by omega) (by omega) (Nat.le_refl _)
        generalize pk (fun k : Int => nd d c.nodes k.toNat args neg) much n.ch = PK at *
        have hF := fun all g => ct_fold (H := H) d c PK.2 all PK.1 _ hS (by omega) hPO g
        clear ihA ihB hd ho hst hkids hkid hno ok hpk0 hPO hS
        repeat' (first | refine i_s rfl ?_ | refine sw ?_ | refine i_gt rfl ?_ | refine i_gf rfl ?_ | (refine sp ?_ ?_ <;> try intro h) | fail)
        all_goals first
          | (exfalso; clear hF; simp at *; done)
          | (exfalso; clear hF; simp at *; omega)
          | skip
        all_goals
          refine c_frzv rfl rfl ?_
          repeat' (first | refine i_s rfl ?_ | refine sw ?_ | fail)
        all_goals
          refine i_cs rfl rfl rfl rfl (hF _ _) ?_
          rintro _ _ _ ⟨rfl, rfl, rfl⟩
          repeat' (first | refine i_s rfl ?_ | refine sw ?_ | fail)
        all_goals
          refine e_ret ⟨rfl, _, rfl, rfl, rfl, congrArg (fun al => csV (foldP al PK.1).1) (?_ : _ = conjK n.kind neg), (restr_stOf _ _).trans (congrArg (fun al => stOf (exS d c (PK.2 || (foldP al PK.1).2))) (?_ : _ = conjK n.kind neg)), rfl⟩
          all_goals
            clear hF
            unfold conjK
            cases neg <;> simp_all
  have k78 : n.kind = 7 ∨ n.kind = 8 := by omega
  rw [if_pos k78]
  have hqk : quantK n.kind = true := by unfold quantK; rcases k78 with h | h <;> simp [h]
  obtain ⟨k, hch⟩ := arity_one ok (.inr k78)
  obtain ⟨a', _, x0, x1, _, hs⟩ := hkid k (by rw [hch]; simp)
  have e0 : ch0 n = k.toNat := by unfold ch0; rw [hch]; rfl
  have how : ownC n = [n.type] := by unfold ownC; rw [if_pos hqk]
  rw [how] at hs
  have hp5 : ps.length < 6 := by
    unfold quCode at hqu
    rw [hqk, if_neg (by simp)] at hqu
    split at hqu
    · cases hqu
    · split at hqu
      · cases hqu
      · omega
  have hO := f_types_Of d.types hd.ty d.objects hd.ol hd.o n.type
  have hml : (membersOf d.types d.objects n.type).length ≤ 8 := by have := members_length (l := d.types) (os := d.objects) (t := n.type); have := hd.ol; omega
  have hEo : ∀ o ∈ membersOf d.types d.objects n.type, ∀ (G : Type) (H : HT G) much gen g, Cc Go.Proofs.Tryz.prog H 60 [.bptr 1345929 0, .int .i64 k, .msl 3520321 gen 0 (args ++ [o]).length, .bool neg] [1345929, 3520321] (stOf [(1345929, .box (exV d c much)), (3520321, .arr gen ((args ++ [o]).map i64V))]) g fun r σ' g' =>
      r = csV (nd d c.nodes (ch0 n) (args ++ [o]) neg).1 ∧ (∃ b, σ' = stOf [(1345929, .box (exV d c (much || (nd d c.nodes (ch0 n) (args ++ [o]) neg).2))), (3520321, b)]) ∧ g' = g := fun o ho2 G H much gen g => by
    have hr := mem_rng ho2
    have hE := ihB k.toNat (by omega) G H a' _ (args ++ [o]) neg much gen g hs (by simp; omega) (ha.snoc hr.1 hr.2)
    rw [show ((k.toNat : Nat) : Int) = k from by omega, ← e0] at hE
    exact hE
  have hPO := parts_const (f := fun o => (nd d c.nodes (ch0 n) (args ++ [o]) neg).1) (B := 30 * 8 ^ 5) (xs := membersOf d.types d.objects n.type) fun o ho2 => by
    have hr := mem_rng ho2
    have := (nd_ok hd ho.nodes hs (by simp; omega) (args ++ [o]) (ha.snoc hr.1 hr.2) neg).1 rfl
    rw [e0]
    simp only [List.length_append, List.length_singleton, Nat.add_sub_cancel] at this
    exact this.mono (Nat.mul_le_mul (by omega) (Nat.pow_le_pow_right (by omega) (by omega)))
  have hS : (membersOf d.types d.objects n.type).length * (30 * 8 ^ 5) ≤ 40000000 := Nat.le_trans (Nat.mul_le_mul_right _ hml) (by decide)
  have hFp := partsP_pk (fun o : Int => nd d c.nodes (ch0 n) (args ++ [o]) neg) (conjK n.kind neg) much (membersOf d.types d.objects n.type)
  rw [hFp.1, hFp.2]
  clear hFp
  have hPO : PartsOk (pk (fun o : Int => nd d c.nodes (ch0 n) (args ++ [o]) neg) much (membersOf d.types d.objects n.type)).1 _ := hPO
  have hF := fun all g => ct_fold (H := H) d c (pk (fun o : Int => nd d c.nodes (ch0 n) (args ++ [o]) neg) much (membersOf d.types d.objects n.type)).2 all _ _ hS (by rw [pk_len]; omega) hPO g
  generalize membersOf d.types d.objects n.type = M at *
  have hpk0 : pk (fun o : Int => nd d c.nodes (ch0 n) (args ++ [o]) neg) much (M.take 0) = ([], much) := pk_nil _ _
  have hk0 : [k][(0 : Int).toNat]? = some k := rfl
  rw [← hch] at hk0
  clear ihA ihB hd ho hst hkids hkid hno ok hPO hS hs hch
  refine CT.step _ mixed k_nodeA one_memX fun hM => ?_
  skip
  repeat' (first | refine i_len rfl ?_ | refine i_s rfl ?_ | refine sw ?_ | refine jd rfl rfl ?_ | refine i_stb rfl ?_ | refine i_alloc rfl ?_ | refine i_nv rfl ?_ | refine c_cond rfl (fun h => ?_) (fun h => ?_) | refine sf rfl rfl hO ?_ | fail)
  all_goals first
    | (exfalso; clear hF hEo; simp_all; done)
    | (exfalso; clear hF hEo; simp at *; omega)
    | skip
  all_goals
    refine c_for M.length (fun k => [(0, .bptr 1345929 0), (2, .sl .p (args.map i64V)), (3, .bool neg), (9, .bptr 3840583 0), (10, .sl (.own 3840641) ((pk (fun o : Int => nd d c.nodes (ch0 n) (args ++ [o]) neg) much (M.take k)).1.map csV)), (96, .sl .p (M.map i64V)), (97, .int .i64 M.length), (98, .int .i64 k)])
      (fun k => [(1345929, .box (exV d c (pk (fun o : Int => nd d c.nodes (ch0 n) (args ++ [o]) neg) much (M.take k)).2)), (3840583, .box (cnV n)), (3840641, .vec (pk (fun o : Int => nd d c.nodes (ch0 n) (args ++ [o]) neg) much (M.take k)).1.length)])
      (fun _ => True) trivial ⟨⟨rfl, rfl, rfl, rfl, by rw [hpk0]; rfl, rfl, rfl, rfl, trivial⟩, ⟨by rw [hpk0]; rfl, rfl, by rw [hpk0]; rfl, trivial⟩, rfl⟩ fun j hj _ => ?_
    by_cases hlt : j < M.length
    · obtain ⟨o, hox⟩ := get_some hlt
      have hsn := pk_snoc (fun o : Int => nd d c.nodes (ch0 n) (args ++ [o]) neg) much (M.take j) o
      have hln := pk_len (fun o : Int => nd d c.nodes (ch0 n) (args ++ [o]) neg) much (M.take j)
      rw [← take_succ_get hox] at hsn
      have hE := hEo o (mem_get hox) G H
      have htl : (M.take j).length ≤ j := by simp; omega
      generalize pk (fun o : Int => nd d c.nodes (ch0 n) (args ++ [o]) neg) much (M.take j) = PK at *
      generalize nd d c.nodes (ch0 n) (args ++ [o]) neg = q at *
      clear hEo hF hO hpk0
      repeat' (first | refine i_s rfl ?_ | refine sw ?_ | refine i_gt rfl ?_ | refine i_gf rfl ?_ | refine jd rfl rfl ?_ | (refine sp ?_ ?_ <;> try intro h) | fail)
      all_goals first
        | (exfalso; clear hE; simp at *; done)
        | (exfalso; clear hE; simp at *; omega)
        | skip
      all_goals
        refine i_c rfl rfl rfl (ct_Clone1 args (by omega) _ _ rfl fun nm h => restr_mem nm h) ?_
        rintro _ _ _ ⟨⟨gen2, rfl, rfl⟩, rfl⟩
        repeat' (first | refine i_s rfl ?_ | refine jd rfl rfl ?_ | fail)
      all_goals
        refine i_appmM [o] rfl rfl rfl rfl rfl (fun c hc => ⟨rfl, rfl⟩) (by simp only [List.length_singleton]; omega) (by simp only [List.length_singleton]; omega) ?_
        repeat' (first | refine i_s rfl ?_ | refine jd rfl rfl ?_ | fail)
      all_goals
        refine i_cs rfl rfl rfl rfl (hE _ _ _) ?_
        rintro _ _ _ ⟨rfl, ⟨bb, rfl⟩, rfl⟩
        repeat' refine i_s rfl ?_
      all_goals
        refine i_appM (c := q.1) rfl rfl rfl rfl rfl (by omega) (by omega) ?_
        repeat' (first | refine i_s rfl ?_ | refine sw ?_ | refine ja rfl rfl ?_ | fail)
      all_goals
        refine e_for hlt trivial ⟨⟨rfl, rfl, rfl, rfl, ?_, rfl, rfl, rfl, trivial⟩, ⟨?_, rfl, ?_, trivial⟩, rfl⟩
      all_goals rw [hsn]
      all_goals first
        | rfl
        | (simp; rfl)
        | simp
    · have hge : j = M.length := by omega
      subst hge
      rw [List.take_length]
      have hln := pk_len (fun o : Int => nd d c.nodes (ch0 n) (args ++ [o]) neg) much M
      generalize pk (fun o : Int => nd d c.nodes (ch0 n) (args ++ [o]) neg) much M = PK at *
      clear hEo hO hpk0
      repeat' (first | refine i_s rfl ?_ | refine sw ?_ | refine i_gt rfl ?_ | refine i_gf rfl ?_ | (refine sp ?_ ?_ <;> try intro h) | fail)
      all_goals first
        | (exfalso; clear hF; simp at *; done)
        | (exfalso; clear hF; simp at *; omega)
        | skip
      all_goals
        refine c_frzv rfl rfl ?_
        repeat' (first | refine i_s rfl ?_ | refine sw ?_ | fail)
      all_goals
        refine i_cs rfl rfl rfl rfl (hF _ _) ?_
        rintro _ _ _ ⟨rfl, rfl, rfl⟩
        repeat' (first | refine i_s rfl ?_ | refine sw ?_ | fail)
      all_goals
        refine e_ret ⟨rfl, _, rfl, rfl, rfl, congrArg (fun al => csV (foldP al PK.1).1) (?_ : _ = conjK n.kind neg), (restr_stOf _ _).trans (congrArg (fun al => stOf (exS d c (PK.2 || (foldP al PK.1).2))) (?_ : _ = conjK n.kind neg)), rfl⟩
        all_goals
          clear hF
          unfold conjK
          cases neg <;> simp_all
def c_nodeB : Cmd :=
 (.seq (.ops [qq 8 (.mov (.c (.sl .p [])))]) (qT (.frz 2)
 (qS [qm 16 0, qq 17 (.nilck (.t 16)), qf 18 6 17, qf 19 1 18, ql 20 1 19, qm 21 1, qi 22 7 20 21, qL 23 7 22, qq 9 (.alloc 3840583 (.agg [.int .i64 0, .sl .nil [], .int .i64 0, .sl .nil [], .int .i64 0, .int .i64 0, .int .i64 0])), qs 7 9 23]
 (qS [qq 10 (.newVec 3840641)]
 (qT (qS [qf 24 0 9, ql 25 1 24]
 (.block 0 (qS [qv 43 .eql [.i] 25 2, qm 42 43]
 (.cond (.t 42) (.seq (.ops [qm 44 3, qf 45 2 9, qL 46 2 45, qm 47 2, qk 48 91 [46, 47], qq 49 (.build [.bool false, .int .i64 0, .sl .nil []] [(0 , 1 , .t 44), (1 , 2 , .t 48)]), qq 50 (.bsl 3 [.t 49]), qq 51 (.bsl 1 [.t 50]), qm 8 51]) .ret) (qS [qv 53 .eql [.i] 25 3, qm 52 53]
 (.cond (.t 52) (qT (qS [qf 54 4 9, ql 55 1 54, qm 56 2, qk 57 92 [55, 56], qf 58 5 9, ql 59 1 58, qm 60 2, qk 61 92 [59, 60], qu 62 .eql [.i] 57 61, qm 63 3, qu 64 .neq [.b] 62 63]
 (.cond (.t 64) (.seq (.ops [qq 65 (.bsl 1 [.c (.sl .p [])]), qm 8 65]) .ret) .skip))
 (.seq (.ops [qq 8 (.mov (.c (.sl .p [])))]) .ret)) (qS [qv 67 .eql [.i] 25 4, qm 66 67]
 (.cond (.t 66) (.seq (.ops [qm 68 0, qf 69 1 9, ql 70 1 69, qq 71 (.iaddr 1 (.t 70) (.c (.int .i64 0))), ql 72 1 71, qm 73 2, qm 74 3, qq 75 (.not (.t 74)), qq 76 (.call (.s [1345929]) (.c (.fn 60 [])) [.t 68, .t 72, .t 73, .t 75]), qm 8 76]) .ret) (qS [qv 78 .eql [.i] 25 1, qm 77 78]
 (.cond (.t 77) (qT (qS [qm 79 3]
 (.cond (.t 79) (.seq (.ops [qq 8 (.mov (.c (.sl .p [])))]) .ret) .skip))
 (.seq (.ops [qq 80 (.bsl 1 [.c (.sl .p [])]), qm 8 80]) .ret)) (qT (qS [qv 82 .eql [.i] 25 7, qm 81 82]
 (.cond (.t 81) .skip (.ops [qv 83 .eql [.i] 25 8, qm 81 83])))
 (.cond (.t 81) (qS [qm 84 0, qq 85 (.nilck (.t 84)), qf 86 0 85, qf 87 0 86, ql 88 1 87, qm 89 0, qq 90 (.nilck (.t 89)), qf 91 0 90, qf 92 1 91, ql 93 1 92, qf 94 6 9, ql 95 1 94, qk 96 99 [88, 93, 95], qn 97 96, qc 98 0]
 (.block 3 (.loop (qS [qu 99 .lss [] 98 97]
 (qT (.cond (.t 99) .skip (.exit 3))
 (qT (.block 4 (qS [qi 100 1 96 98, ql 101 1 100, qm 12 101]
 (.opsT (.node 2 7 (.node 3 7 (.node 4 7 (.node 5 7 (.leaf [0, 1, 2, 3, 4, 5, 6, 8, 9, 11, 7, 10, 12, 13, 14, 15]) (.node 5 10 (.leaf [0, 1, 2, 3, 4, 6, 8, 9, 11, 7, 5, 10, 12, 13, 14, 15]) (.leaf [0, 1, 2, 3, 4, 6, 8, 9, 11, 7, 10, 5, 12, 13, 14, 15]))) (.node 4 10 (.node 5 10 (.leaf [0, 1, 2, 3, 6, 8, 9, 11, 7, 4, 5, 10, 12, 13, 14, 15]) (.leaf [0, 1, 2, 3, 6, 8, 9, 11, 7, 4, 10, 5, 12, 13, 14, 15])) (.leaf [0, 1, 2, 3, 6, 8, 9, 11, 7, 10, 4, 5, 12, 13, 14, 15]))) (.node 3 10 (.node 4 10 (.node 5 10 (.leaf [0, 1, 2, 6, 8, 9, 11, 7, 3, 4, 5, 10, 12, 13, 14, 15]) (.leaf [0, 1, 2, 6, 8, 9, 11, 7, 3, 4, 10, 5, 12, 13, 14, 15])) (.leaf [0, 1, 2, 6, 8, 9, 11, 7, 3, 10, 4, 5, 12, 13, 14, 15])) (.leaf [0, 1, 2, 6, 8, 9, 11, 7, 10, 3, 4, 5, 12, 13, 14, 15]))) (.node 2 10 (.node 3 10 (.node 4 10 (.node 5 10 (.leaf [0, 1, 6, 8, 9, 11, 7, 2, 3, 4, 5, 10, 12, 13, 14, 15]) (.leaf [0, 1, 6, 8, 9, 11, 7, 2, 3, 4, 10, 5, 12, 13, 14, 15])) (.leaf [0, 1, 6, 8, 9, 11, 7, 2, 3, 10, 4, 5, 12, 13, 14, 15])) (.leaf [0, 1, 6, 8, 9, 11, 7, 2, 10, 3, 4, 5, 12, 13, 14, 15])) (.leaf [0, 1, 6, 8, 9, 11, 7, 10, 2, 3, 4, 5, 12, 13, 14, 15]))) [qm 102 10, qm 103 0, qf 104 1 9, ql 105 1 104, qq 106 (.iaddr 1 (.t 105) (.c (.int .i64 0))), ql 107 1 106, qm 108 2, qq 109 (.call (.s [3520449]) (.c (.fn 55 [])) [.t 108]), qm 110 12, qq 111 (.bsl 1 [.t 110]), qq 112 (.append 1 8 3 (.t 109) (.t 111)), qm 113 3, qq 114 (.call (.s [1345929, 3520449]) (.c (.fn 60 [])) [.t 103, .t 107, .t 112, .t 113]), qq 115 (.bsl 1 [.t 114]), qq 116 (.append 1 24 107 (.t 102) (.t 115)), qm 10 116])))
 (.ops [qv 117 .add [] 98 1, qm 98 117]))))))) (qS [qf 26 1 9, ql 27 1 26, qn 28 27, qc 29 0]
 (.block 1 (.loop (qS [qu 30 .lss [] 29 28]
 (qT (.cond (.t 30) .skip (.exit 1))
 (qT (.block 2 (qS [qi 31 1 27 29, ql 32 1 31, qm 14 32]
 (.ops [qm 33 10, qm 34 0, qm 35 14, qm 36 2, qm 37 3, qq 38 (.call (.s [1345929]) (.c (.fn 60 [])) [.t 34, .t 35, .t 36, .t 37]), qq 39 (.bsl 1 [.t 38]), qq 40 (.append 1 24 107 (.t 33) (.t 39)), qm 10 40])))
 (.ops [qv 41 .add [] 29 1, qm 29 41])))))))))))))))))))
 (.seq (.ops [qf 118 0 9, ql 119 1 118, qv 120 .eql [.i] 119 5, qm 121 120, qg 122 121 false (.faddr 0 (.t 9)), qg 123 121 false (.load false 1 (.t 122)), qg 124 121 false (.bin .eql false [.i] (.t 123) (.c (.int .i64 8))), qq 125 (.pick (.t 121) (.c (.bool true)) (.t 124)), qm 15 125]) (qT (.frz 10)
 (.seq (.ops [qm 126 0, qm 127 15, qm 128 3, qu 129 .neq [.b] 127 128, qm 130 10, qq 131 (.call (.s [1345929]) (.c (.fn 100 [])) [.t 126, .t 129, .t 130]), qm 8 131]) .ret))))))))
def r_nodeB : List RVar := [.tmp 8]
def n_nodeB : Nat := 132
theorem k_nodeB : chkFn Go.Proofs.Tryz.prog 60 n_nodeB r_nodeB c_nodeB = true := by kernel_rfl
theorem node_stepB (d : Dom) (hd : DoTy d) (c : Cnd) (ho : CndOk c) (h30 : c.nodes.length ≤ 30) (i : Nat) (ihA : ∀ j, j < i → NodeA d c j) (ihB : ∀ j, j < i → NodeB 3520449 d c j) : NodeB 3520321 d c i := by
  intro G H a ps args neg much gen g hst hps ha
  obtain ⟨j, n, e, haj, hn, ok, hkids⟩ := hst.root
  obtain rfl : i = j := by omega
  rw [nd_eq hst hn args]
  have hno := ho.nodes n (mem_get hn)
  have hkid := hkids.kids rfl
  have hal : args.length ≤ 6 := by have := ha.1; omega
  have hk0 := ok.k0
  have hk8 := ok.k8
  have hqu := ok.qu
  have hlf := ok.lf
  have hnc := hno.ch
  have hown : quantK n.kind = false → ownC n = [] := fun h => by unfold ownC; rw [h]; rfl
  by_cases k2 : n.kind = 2
  · rw [if_pos k2]
    simp only [Bool.or_false]
    unfold leafCode at hlf
    rw [if_pos k2] at hlf
    have hr := atom_rng hlf
    have hB := f_condition_Bind args (by omega) n.at_ hno.at_.len (fun x hx => by have := (hr x hx).1; have := ha.1; omega)
    generalize bindA args n.at_ = at2 at *
    clear hd ho ihA ihB hst hkids hkid hno hr ok
    refine CT.step _ mixed k_nodeB two_mem fun hM => ?_
    repeat (first | refine i_s rfl ?_ | refine sw ?_)
    refine c_frzall rfl rfl rfl (by simp) ?_
    repeat' (first | refine i_len rfl ?_ | refine i_s rfl ?_ | refine sw ?_ | refine jd rfl rfl ?_ | refine i_stb rfl ?_ | refine i_alloc rfl ?_ | refine i_nv rfl ?_ | refine c_cond rfl (fun h => ?_) (fun h => ?_) | refine sf rfl rfl hB ?_ | fail)
    all_goals first
      | (exfalso; clear hB; simp_all; done)
      | skip
    all_goals exact e_ret ⟨rfl, _, rfl, rfl, rfl, rfl, ⟨_, restr_stOf _ _⟩, rfl⟩
  rw [if_neg k2]
  by_cases k3 : n.kind = 3
  · rw [if_pos k3]
    simp only [Bool.or_false]
    unfold leafCode at hlf
    rw [if_neg k2, if_pos k3] at hlf
    have hb : badArg d ps n.left = false ∧ badArg d ps n.right = false := by
      split at hlf
      · cases hlf
      · rename_i h; simpa using h
    simp only [badArg, Bool.or_eq_false_iff, decide_eq_false_iff_not] at hb
    have hL := f_condition_value args (by omega) n.left (by have := ha.1; omega)
    have hR := f_condition_value args (by omega) n.right (by have := ha.1; omega)
    generalize objA args n.left = u at *
    generalize objA args n.right = w at *
    clear hd ho ihA ihB hst hkids hkid hno ok
    refine CT.step _ mixed k_nodeB two_mem fun hM => ?_
    repeat (first | refine i_s rfl ?_ | refine sw ?_)
    refine c_frzall rfl rfl rfl (by simp) ?_
    by_cases huw : u = w
    all_goals cases neg
    all_goals
      repeat' (first | refine i_len rfl ?_ | refine i_s rfl ?_ | refine sw ?_ | refine c_t rfl ?_ | refine c_f rfl ?_ | refine jd rfl rfl ?_ | refine i_stb rfl ?_ | refine i_alloc rfl ?_ | refine i_nv rfl ?_ | refine c_cond rfl (fun h => ?_) (fun h => ?_) | refine sf rfl rfl hL ?_ | refine sf rfl rfl hR ?_ | fail)
    all_goals first
      | (exfalso; clear hL hR; simp_all; done)
      | skip
    all_goals refine e_ret ⟨rfl, _, rfl, rfl, rfl, ?_, ⟨_, restr_stOf _ _⟩, rfl⟩
    all_goals first
      | (rw [decide_eq_true huw]; rfl)
      | (rw [decide_eq_false huw]; rfl)
  rw [if_neg k3]
  by_cases k4 : n.kind = 4
  · rw [if_pos k4]
    obtain ⟨k, hch⟩ := arity_one ok (.inl k4)
    obtain ⟨a', _, x0, x1, _, hs⟩ := hkid k (by rw [hch]; simp)
    rw [hown (by unfold quantK; simp [k4]), List.append_nil] at hs
    have hE := ihA k.toNat (by omega) G H a' ps args (!neg) much g hs hps ha
    have e0 : ch0 n = k.toNat := by unfold ch0; rw [hch]; rfl
    rw [show ((k.toNat : Nat) : Int) = k from by omega, ← e0] at hE
    generalize nd d c.nodes (ch0 n) args (!neg) = b at *
    have hk0 : [k][(0 : Int).toNat]? = some k := rfl
    rw [← hch] at hk0
    clear hd ho ihA ihB hst hkids hkid hno ok hs
    refine CT.step _ mixed k_nodeB two_mem fun hM => ?_
    repeat (first | refine i_s rfl ?_ | refine sw ?_)
    refine c_frzall rfl rfl rfl (by simp) ?_
    repeat' (first | refine i_len rfl ?_ | refine i_s rfl ?_ | refine sw ?_ | refine jd rfl rfl ?_ | refine i_stb rfl ?_ | refine i_alloc rfl ?_ | refine i_nv rfl ?_ | refine c_cond rfl (fun h => ?_) (fun h => ?_))
    all_goals first
      | (exfalso; clear hE; simp_all; done)
      | skip
    all_goals
      refine i_cs rfl rfl rfl rfl hE ?_
      rintro _ _ _ ⟨rfl, rfl, rfl⟩
      repeat' (first | refine i_s rfl ?_ | refine sw ?_ | fail)
      exact e_ret ⟨rfl, _, rfl, rfl, rfl, rfl, ⟨_, restr_stOf _ _⟩, rfl⟩
  rw [if_neg k4]
  by_cases k1 : n.kind = 1
  · rw [if_pos k1]
    simp only [Bool.or_false]
    clear hd ho ihA ihB hst hkids hkid hno ok
    refine CT.step _ mixed k_nodeB two_mem fun hM => ?_
    repeat (first | refine i_s rfl ?_ | refine sw ?_)
    refine c_frzall rfl rfl rfl (by simp) ?_
    cases neg
    all_goals
      repeat' (first | refine i_len rfl ?_ | refine i_s rfl ?_ | refine sw ?_ | refine c_t rfl ?_ | refine c_f rfl ?_ | refine jd rfl rfl ?_ | refine i_stb rfl ?_ | refine i_alloc rfl ?_ | refine i_nv rfl ?_ | refine c_cond rfl (fun h => ?_) (fun h => ?_))
    all_goals first
      | (exfalso; simp_all; done)
      | skip
    all_goals exact e_ret ⟨rfl, _, rfl, rfl, rfl, rfl, ⟨_, restr_stOf _ _⟩, rfl⟩
  rw [if_neg k1]
  have hnl : n.ch.length ≤ 30 := by have := hkids.clen rfl; have := get_lt hn; omega
  have hil := get_lt hn
  have hle := hkids.le.1
  by_cases k56 : n.kind = 5 ∨ n.kind = 6
  · rw [if_neg (by omega)]
    have hq : quantK n.kind = false := by unfold quantK; rcases k56 with h | h <;> simp [h]
    rw [hown hq, List.append_nil] at hkids
    have hF := partsP_pk (fun k : Int => nd d c.nodes k.toNat args neg) (conjK n.kind neg) much n.ch
    rw [hF.1, hF.2]
    clear hF
    refine CT.step _ mixed k_nodeB two_mem fun hM => ?_
    repeat (first | refine i_s rfl ?_ | refine sw ?_)
    refine c_frzall rfl rfl rfl (by simp) ?_
    have hpk0 : pk (fun k : Int => nd d c.nodes k.toNat args neg) much (n.ch.take 0) = ([], much) := pk_nil _ _
    skip
    repeat' (first | refine i_len rfl ?_ | refine i_s rfl ?_ | refine sw ?_ | refine jd rfl rfl ?_ | refine i_stb rfl ?_ | refine i_alloc rfl ?_ | refine i_nv rfl ?_ | refine c_cond rfl (fun h => ?_) (fun h => ?_))
    all_goals first
      | (exfalso; clear ihA ihB; simp_all; done)
      | (exfalso; clear ihA ihB hd ho hst hkids hkid hno ok; simp at *; omega)
      | skip
    all_goals
      refine c_for n.ch.length (fun k => [(0, .bptr 1345929 0), (2, .sl .p (args.map i64V)), (3, .bool neg), (9, .bptr 3840583 0), (10, .sl (.own 3840641) ((pk (fun k : Int => nd d c.nodes k.toNat args neg) much (n.ch.take k)).1.map csV)), (27, .sl .p (n.ch.map i64V)), (28, .int .i64 n.ch.length), (29, .int .i64 k)])
        (fun k => [(1345929, .box (exV d c (pk (fun k : Int => nd d c.nodes k.toNat args neg) much (n.ch.take k)).2)), (3520321, .dead), (3840583, .box (cnV n)), (3840641, .vec (pk (fun k : Int => nd d c.nodes k.toNat args neg) much (n.ch.take k)).1.length)])
        (fun _ => True) trivial ⟨⟨rfl, rfl, rfl, rfl, by rw [hpk0]; rfl, rfl, rfl, rfl, trivial⟩, ⟨by rw [hpk0]; rfl, rfl, rfl, by rw [hpk0]; rfl, trivial⟩, rfl⟩ fun k hk _ => ?_
      by_cases hlt : k < n.ch.length
      · obtain ⟨x, hx⟩ := get_some hlt
        obtain ⟨a', h1, h2, h3, h4, h5, h6⟩ := hkids.nth rfl k x hx
        have hsn := pk_snoc (fun k : Int => nd d c.nodes k.toNat args neg) much (n.ch.take k) x
        have hln := pk_len (fun k : Int => nd d c.nodes k.toNat args neg) much (n.ch.take k)
        rw [← take_succ_get hx] at hsn
        have hE := fun m g => ihA x.toNat (by omega) G H a' ps args neg m g h5 hps ha
        rw [show ((x.toNat : Nat) : Int) = x from by omega] at hE
        have htl : (n.ch.take k).length ≤ k := by simp; omega
        generalize pk (fun k : Int => nd d c.nodes k.toNat args neg) much (n.ch.take k) = PK at *
        generalize nd d c.nodes x.toNat args neg = q at *
        clear ihA ihB hd ho hst hkids hkid hno ok h5 h6 hpk0
        repeat' (first | refine i_s rfl ?_ | refine sw ?_ | refine i_gt rfl ?_ | refine i_gf rfl ?_ | refine jd rfl rfl ?_ | (refine sp ?_ ?_ <;> try intro h) | fail)
        all_goals first
          | (exfalso; clear hE; simp at *; done)
          | (exfalso; clear hE; simp at *; omega)
          | skip
        all_goals
          refine i_cs rfl rfl rfl rfl (hE _ _) ?_
          rintro _ _ _ ⟨rfl, rfl, rfl⟩
          repeat' refine i_s rfl ?_
        all_goals
          refine i_appM (c := q.1) rfl rfl rfl rfl rfl (by omega) (by omega) ?_
          repeat' (first | refine i_s rfl ?_ | refine sw ?_ | refine ja rfl rfl ?_ | fail)
        all_goals
          refine e_for hlt trivial ⟨⟨rfl, rfl, rfl, rfl, ?_, rfl, rfl, rfl, trivial⟩, ⟨?_, rfl, rfl, ?_, trivial⟩, rfl⟩
        all_goals rw [hsn]
        all_goals first
          | rfl
          | (simp; rfl)
          | simp
      · have hge : k = n.ch.length := by omega
        subst hge
        rw [List.take_length]
        have hln := pk_len (fun k : Int => nd d c.nodes k.toNat args neg) much n.ch
        have hPO := (nd_ok hd ho.nodes hkids hps args ha neg).2 rfl
        have hPO : PartsOk (pk (fun k : Int => nd d c.nodes k.toNat args neg) much n.ch).1 _ := hPO
        have hS := pow_ok (m := i - a) (k := 6 - ps.length) (by omega) (by omega) (Nat.le_refl _)
        generalize pk (fun k : Int => nd d c.nodes k.toNat args neg) much n.ch = PK at *
        have hF := fun all g => ct_fold (H := H) d c PK.2 all PK.1 _ hS (by omega) hPO g
        clear ihA ihB hd ho hst hkids hkid hno ok hpk0 hPO hS
        repeat' (first | refine i_s rfl ?_ | refine sw ?_ | refine i_gt rfl ?_ | refine i_gf rfl ?_ | (refine sp ?_ ?_ <;> try intro h) | fail)
        all_goals first
          | (exfalso; clear hF; simp at *; done)
          | (exfalso; clear hF; simp at *; omega)
          | skip
        all_goals
          refine c_frzv rfl rfl ?_
          repeat' (first | refine i_s rfl ?_ | refine sw ?_ | fail)
        all_goals
          refine i_cs rfl rfl rfl rfl (hF _ _) ?_
          rintro _ _ _ ⟨rfl, rfl, rfl⟩
          repeat' (first | refine i_s rfl ?_ | refine sw ?_ | fail)
        all_goals
          refine e_ret ⟨rfl, _, rfl, rfl, rfl, congrArg (fun al => csV (foldP al PK.1).1) (?_ : _ = conjK n.kind neg), ⟨.dead, (restr_stOf _ _).trans (congrArg (fun al => stOf [(1345929, .box (exV d c (PK.2 || (foldP al PK.1).2))), (3520321, .dead)]) (?_ : _ = conjK n.kind neg))⟩, rfl⟩
          all_goals
            clear hF
            unfold conjK
            cases neg <;> simp_all
  have k78 : n.kind = 7 ∨ n.kind = 8 := by omega
  rw [if_pos k78]
  have hqk : quantK n.kind = true := by unfold quantK; rcases k78 with h | h <;> simp [h]
  obtain ⟨k, hch⟩ := arity_one ok (.inr k78)
  obtain ⟨a', _, x0, x1, _, hs⟩ := hkid k (by rw [hch]; simp)
  have e0 : ch0 n = k.toNat := by unfold ch0; rw [hch]; rfl
  have how : ownC n = [n.type] := by unfold ownC; rw [if_pos hqk]
  rw [how] at hs
  have hp5 : ps.length < 6 := by
    unfold quCode at hqu
    rw [hqk, if_neg (by simp)] at hqu
    split at hqu
    · cases hqu
    · split at hqu
      · cases hqu
      · omega
  have hO := f_types_Of d.types hd.ty d.objects hd.ol hd.o n.type
  have hml : (membersOf d.types d.objects n.type).length ≤ 8 := by have := members_length (l := d.types) (os := d.objects) (t := n.type); have := hd.ol; omega
  have hEo : ∀ o ∈ membersOf d.types d.objects n.type, ∀ (G : Type) (H : HT G) much gen g, Cc Go.Proofs.Tryz.prog H 60 [.bptr 1345929 0, .int .i64 k, .msl 3520449 gen 0 (args ++ [o]).length, .bool neg] [1345929, 3520449] (stOf [(1345929, .box (exV d c much)), (3520449, .arr gen ((args ++ [o]).map i64V))]) g fun r σ' g' =>
      r = csV (nd d c.nodes (ch0 n) (args ++ [o]) neg).1 ∧ (∃ b, σ' = stOf [(1345929, .box (exV d c (much || (nd d c.nodes (ch0 n) (args ++ [o]) neg).2))), (3520449, b)]) ∧ g' = g := fun o ho2 G H much gen g => by
    have hr := mem_rng ho2
    have hE := ihB k.toNat (by omega) G H a' _ (args ++ [o]) neg much gen g hs (by simp; omega) (ha.snoc hr.1 hr.2)
    rw [show ((k.toNat : Nat) : Int) = k from by omega, ← e0] at hE
    exact hE
  have hPO := parts_const (f := fun o => (nd d c.nodes (ch0 n) (args ++ [o]) neg).1) (B := 30 * 8 ^ 5) (xs := membersOf d.types d.objects n.type) fun o ho2 => by
    have hr := mem_rng ho2
    have := (nd_ok hd ho.nodes hs (by simp; omega) (args ++ [o]) (ha.snoc hr.1 hr.2) neg).1 rfl
    rw [e0]
    simp only [List.length_append, List.length_singleton, Nat.add_sub_cancel] at this
    exact this.mono (Nat.mul_le_mul (by omega) (Nat.pow_le_pow_right (by omega) (by omega)))
  have hS : (membersOf d.types d.objects n.type).length * (30 * 8 ^ 5) ≤ 40000000 := Nat.le_trans (Nat.mul_le_mul_right _ hml) (by decide)
  have hFp := partsP_pk (fun o : Int => nd d c.nodes (ch0 n) (args ++ [o]) neg) (conjK n.kind neg) much (membersOf d.types d.objects n.type)
  rw [hFp.1, hFp.2]
  clear hFp
  have hPO : PartsOk (pk (fun o : Int => nd d c.nodes (ch0 n) (args ++ [o]) neg) much (membersOf d.types d.objects n.type)).1 _ := hPO
  have hF := fun all g => ct_fold (H := H) d c (pk (fun o : Int => nd d c.nodes (ch0 n) (args ++ [o]) neg) much (membersOf d.types d.objects n.type)).2 all _ _ hS (by rw [pk_len]; omega) hPO g
  generalize membersOf d.types d.objects n.type = M at *
  have hpk0 : pk (fun o : Int => nd d c.nodes (ch0 n) (args ++ [o]) neg) much (M.take 0) = ([], much) := pk_nil _ _
  have hk0 : [k][(0 : Int).toNat]? = some k := rfl
  rw [← hch] at hk0
  clear ihA ihB hd ho hst hkids hkid hno ok hPO hS hs hch
  refine CT.step _ mixed k_nodeB two_mem fun hM => ?_
  repeat (first | refine i_s rfl ?_ | refine sw ?_)
  refine c_frzall rfl rfl rfl (by simp) ?_
  repeat' (first | refine i_len rfl ?_ | refine i_s rfl ?_ | refine sw ?_ | refine jd rfl rfl ?_ | refine i_stb rfl ?_ | refine i_alloc rfl ?_ | refine i_nv rfl ?_ | refine c_cond rfl (fun h => ?_) (fun h => ?_) | refine sf rfl rfl hO ?_ | fail)
  all_goals first
    | (exfalso; clear hF hEo; simp_all; done)
    | (exfalso; clear hF hEo; simp at *; omega)
    | skip
  all_goals
    refine c_for M.length (fun k => [(0, .bptr 1345929 0), (2, .sl .p (args.map i64V)), (3, .bool neg), (9, .bptr 3840583 0), (10, .sl (.own 3840641) ((pk (fun o : Int => nd d c.nodes (ch0 n) (args ++ [o]) neg) much (M.take k)).1.map csV)), (96, .sl .p (M.map i64V)), (97, .int .i64 M.length), (98, .int .i64 k)])
      (fun k => [(1345929, .box (exV d c (pk (fun o : Int => nd d c.nodes (ch0 n) (args ++ [o]) neg) much (M.take k)).2)), (3520321, .dead), (3840583, .box (cnV n)), (3840641, .vec (pk (fun o : Int => nd d c.nodes (ch0 n) (args ++ [o]) neg) much (M.take k)).1.length)])
      (fun _ => True) trivial ⟨⟨rfl, rfl, rfl, rfl, by rw [hpk0]; rfl, rfl, rfl, rfl, trivial⟩, ⟨by rw [hpk0]; rfl, rfl, rfl, by rw [hpk0]; rfl, trivial⟩, rfl⟩ fun j hj _ => ?_
    by_cases hlt : j < M.length
    · obtain ⟨o, hox⟩ := get_some hlt
      have hsn := pk_snoc (fun o : Int => nd d c.nodes (ch0 n) (args ++ [o]) neg) much (M.take j) o
      have hln := pk_len (fun o : Int => nd d c.nodes (ch0 n) (args ++ [o]) neg) much (M.take j)
      rw [← take_succ_get hox] at hsn
      have hE := hEo o (mem_get hox) G H
      have htl : (M.take j).length ≤ j := by simp; omega
      generalize pk (fun o : Int => nd d c.nodes (ch0 n) (args ++ [o]) neg) much (M.take j) = PK at *
      generalize nd d c.nodes (ch0 n) (args ++ [o]) neg = q at *
      clear hEo hF hO hpk0
      repeat' (first | refine i_s rfl ?_ | refine sw ?_ | refine i_gt rfl ?_ | refine i_gf rfl ?_ | refine jd rfl rfl ?_ | (refine sp ?_ ?_ <;> try intro h) | fail)
      all_goals first
        | (exfalso; clear hE; simp at *; done)
        | (exfalso; clear hE; simp at *; omega)
        | skip
      all_goals
        refine i_c rfl rfl rfl (ct_Clone7 args (by omega) _ _ rfl fun nm h => restr_mem nm h) ?_
        rintro _ _ _ ⟨⟨gen2, rfl, rfl⟩, rfl⟩
        repeat' (first | refine i_s rfl ?_ | refine jd rfl rfl ?_ | fail)
      all_goals
        refine i_appmM [o] rfl rfl rfl rfl rfl (fun c hc => ⟨rfl, rfl⟩) (by simp only [List.length_singleton]; omega) (by simp only [List.length_singleton]; omega) ?_
        repeat' (first | refine i_s rfl ?_ | refine jd rfl rfl ?_ | fail)
      all_goals
        refine i_cs rfl rfl rfl rfl (hE _ _ _) ?_
        rintro _ _ _ ⟨rfl, ⟨bb, rfl⟩, rfl⟩
        repeat' refine i_s rfl ?_
      all_goals
        refine i_appM (c := q.1) rfl rfl rfl rfl rfl (by omega) (by omega) ?_
        repeat' (first | refine i_s rfl ?_ | refine sw ?_ | refine ja rfl rfl ?_ | fail)
      all_goals
        refine e_for hlt trivial ⟨⟨rfl, rfl, rfl, rfl, ?_, rfl, rfl, rfl, trivial⟩, ⟨?_, rfl, rfl, ?_, trivial⟩, rfl⟩
      all_goals rw [hsn]
      all_goals first
        | rfl
        | (simp; rfl)
        | simp
    · have hge : j = M.length := by omega
      subst hge
      rw [List.take_length]
      have hln := pk_len (fun o : Int => nd d c.nodes (ch0 n) (args ++ [o]) neg) much M
      generalize pk (fun o : Int => nd d c.nodes (ch0 n) (args ++ [o]) neg) much M = PK at *
      clear hEo hO hpk0
      repeat' (first | refine i_s rfl ?_ | refine sw ?_ | refine i_gt rfl ?_ | refine i_gf rfl ?_ | (refine sp ?_ ?_ <;> try intro h) | fail)
      all_goals first
        | (exfalso; clear hF; simp at *; done)
        | (exfalso; clear hF; simp at *; omega)
        | skip
      all_goals
        refine c_frzv rfl rfl ?_
        repeat' (first | refine i_s rfl ?_ | refine sw ?_ | fail)
      all_goals
        refine i_cs rfl rfl rfl rfl (hF _ _) ?_
        rintro _ _ _ ⟨rfl, rfl, rfl⟩
        repeat' (first | refine i_s rfl ?_ | refine sw ?_ | fail)
      all_goals
        refine e_ret ⟨rfl, _, rfl, rfl, rfl, congrArg (fun al => csV (foldP al PK.1).1) (?_ : _ = conjK n.kind neg), ⟨.dead, (restr_stOf _ _).trans (congrArg (fun al => stOf [(1345929, .box (exV d c (PK.2 || (foldP al PK.1).2))), (3520321, .dead)]) (?_ : _ = conjK n.kind neg))⟩, rfl⟩
        all_goals
          clear hF
          unfold conjK
          cases neg <;> simp_all
def c_nodeC : Cmd :=
 (.seq (.ops [qq 8 (.mov (.c (.sl .p [])))]) (qT (.frz 2)
 (qS [qm 16 0, qq 17 (.nilck (.t 16)), qf 18 6 17, qf 19 1 18, ql 20 1 19, qm 21 1, qi 22 7 20 21, qL 23 7 22, qq 9 (.alloc 3840583 (.agg [.int .i64 0, .sl .nil [], .int .i64 0, .sl .nil [], .int .i64 0, .int .i64 0, .int .i64 0])), qs 7 9 23]
 (qS [qq 10 (.newVec 3840641)]
 (qT (qS [qf 24 0 9, ql 25 1 24]
 (.block 0 (qS [qv 43 .eql [.i] 25 2, qm 42 43]
 (.cond (.t 42) (.seq (.ops [qm 44 3, qf 45 2 9, qL 46 2 45, qm 47 2, qk 48 91 [46, 47], qq 49 (.build [.bool false, .int .i64 0, .sl .nil []] [(0 , 1 , .t 44), (1 , 2 , .t 48)]), qq 50 (.bsl 3 [.t 49]), qq 51 (.bsl 1 [.t 50]), qm 8 51]) .ret) (qS [qv 53 .eql [.i] 25 3, qm 52 53]
 (.cond (.t 52) (qT (qS [qf 54 4 9, ql 55 1 54, qm 56 2, qk 57 92 [55, 56], qf 58 5 9, ql 59 1 58, qm 60 2, qk 61 92 [59, 60], qu 62 .eql [.i] 57 61, qm 63 3, qu 64 .neq [.b] 62 63]
 (.cond (.t 64) (.seq (.ops [qq 65 (.bsl 1 [.c (.sl .p [])]), qm 8 65]) .ret) .skip))
 (.seq (.ops [qq 8 (.mov (.c (.sl .p [])))]) .ret)) (qS [qv 67 .eql [.i] 25 4, qm 66 67]
 (.cond (.t 66) (.seq (.ops [qm 68 0, qf 69 1 9, ql 70 1 69, qq 71 (.iaddr 1 (.t 70) (.c (.int .i64 0))), ql 72 1 71, qm 73 2, qm 74 3, qq 75 (.not (.t 74)), qq 76 (.call (.s [1345929]) (.c (.fn 60 [])) [.t 68, .t 72, .t 73, .t 75]), qm 8 76]) .ret) (qS [qv 78 .eql [.i] 25 1, qm 77 78]
 (.cond (.t 77) (qT (qS [qm 79 3]
 (.cond (.t 79) (.seq (.ops [qq 8 (.mov (.c (.sl .p [])))]) .ret) .skip))
 (.seq (.ops [qq 80 (.bsl 1 [.c (.sl .p [])]), qm 8 80]) .ret)) (qT (qS [qv 82 .eql [.i] 25 7, qm 81 82]
 (.cond (.t 81) .skip (.ops [qv 83 .eql [.i] 25 8, qm 81 83])))
 (.cond (.t 81) (qS [qm 84 0, qq 85 (.nilck (.t 84)), qf 86 0 85, qf 87 0 86, ql 88 1 87, qm 89 0, qq 90 (.nilck (.t 89)), qf 91 0 90, qf 92 1 91, ql 93 1 92, qf 94 6 9, ql 95 1 94, qk 96 99 [88, 93, 95], qn 97 96, qc 98 0]
 (.block 3 (.loop (qS [qu 99 .lss [] 98 97]
 (qT (.cond (.t 99) .skip (.exit 3))
 (qT (.block 4 (qS [qi 100 1 96 98, ql 101 1 100, qm 12 101]
 (.opsT (.node 2 7 (.node 3 7 (.node 4 7 (.node 5 7 (.leaf [0, 1, 2, 3, 4, 5, 6, 8, 9, 11, 7, 10, 12, 13, 14, 15]) (.node 5 10 (.leaf [0, 1, 2, 3, 4, 6, 8, 9, 11, 7, 5, 10, 12, 13, 14, 15]) (.leaf [0, 1, 2, 3, 4, 6, 8, 9, 11, 7, 10, 5, 12, 13, 14, 15]))) (.node 4 10 (.node 5 10 (.leaf [0, 1, 2, 3, 6, 8, 9, 11, 7, 4, 5, 10, 12, 13, 14, 15]) (.leaf [0, 1, 2, 3, 6, 8, 9, 11, 7, 4, 10, 5, 12, 13, 14, 15])) (.leaf [0, 1, 2, 3, 6, 8, 9, 11, 7, 10, 4, 5, 12, 13, 14, 15]))) (.node 3 10 (.node 4 10 (.node 5 10 (.leaf [0, 1, 2, 6, 8, 9, 11, 7, 3, 4, 5, 10, 12, 13, 14, 15]) (.leaf [0, 1, 2, 6, 8, 9, 11, 7, 3, 4, 10, 5, 12, 13, 14, 15])) (.leaf [0, 1, 2, 6, 8, 9, 11, 7, 3, 10, 4, 5, 12, 13, 14, 15])) (.leaf [0, 1, 2, 6, 8, 9, 11, 7, 10, 3, 4, 5, 12, 13, 14, 15]))) (.node 2 10 (.node 3 10 (.node 4 10 (.node 5 10 (.leaf [0, 1, 6, 8, 9, 11, 7, 2, 3, 4, 5, 10, 12, 13, 14, 15]) (.leaf [0, 1, 6, 8, 9, 11, 7, 2, 3, 4, 10, 5, 12, 13, 14, 15])) (.leaf [0, 1, 6, 8, 9, 11, 7, 2, 3, 10, 4, 5, 12, 13, 14, 15])) (.leaf [0, 1, 6, 8, 9, 11, 7, 2, 10, 3, 4, 5, 12, 13, 14, 15])) (.leaf [0, 1, 6, 8, 9, 11, 7, 10, 2, 3, 4, 5, 12, 13, 14, 15]))) [qm 102 10, qm 103 0, qf 104 1 9, ql 105 1 104, qq 106 (.iaddr 1 (.t 105) (.c (.int .i64 0))), ql 107 1 106, qm 108 2, qq 109 (.call (.s [3520321]) (.c (.fn 55 [])) [.t 108]), qm 110 12, qq 111 (.bsl 1 [.t 110]), qq 112 (.append 1 8 3 (.t 109) (.t 111)), qm 113 3, qq 114 (.call (.s [1345929, 3520321]) (.c (.fn 60 [])) [.t 103, .t 107, .t 112, .t 113]), qq 115 (.bsl 1 [.t 114]), qq 116 (.append 1 24 107 (.t 102) (.t 115)), qm 10 116])))
 (.ops [qv 117 .add [] 98 1, qm 98 117]))))))) (qS [qf 26 1 9, ql 27 1 26, qn 28 27, qc 29 0]
 (.block 1 (.loop (qS [qu 30 .lss [] 29 28]
 (qT (.cond (.t 30) .skip (.exit 1))
 (qT (.block 2 (qS [qi 31 1 27 29, ql 32 1 31, qm 14 32]
 (.ops [qm 33 10, qm 34 0, qm 35 14, qm 36 2, qm 37 3, qq 38 (.call (.s [1345929]) (.c (.fn 60 [])) [.t 34, .t 35, .t 36, .t 37]), qq 39 (.bsl 1 [.t 38]), qq 40 (.append 1 24 107 (.t 33) (.t 39)), qm 10 40])))
 (.ops [qv 41 .add [] 29 1, qm 29 41])))))))))))))))))))
 (.seq (.ops [qf 118 0 9, ql 119 1 118, qv 120 .eql [.i] 119 5, qm 121 120, qg 122 121 false (.faddr 0 (.t 9)), qg 123 121 false (.load false 1 (.t 122)), qg 124 121 false (.bin .eql false [.i] (.t 123) (.c (.int .i64 8))), qq 125 (.pick (.t 121) (.c (.bool true)) (.t 124)), qm 15 125]) (qT (.frz 10)
 (.seq (.ops [qm 126 0, qm 127 15, qm 128 3, qu 129 .neq [.b] 127 128, qm 130 10, qq 131 (.call (.s [1345929]) (.c (.fn 100 [])) [.t 126, .t 129, .t 130]), qm 8 131]) .ret))))))))
def r_nodeC : List RVar := [.tmp 8]
def n_nodeC : Nat := 132
theorem k_nodeC : chkFn Go.Proofs.Tryz.prog 60 n_nodeC r_nodeC c_nodeC = true := by kernel_rfl
theorem node_stepC (d : Dom) (hd : DoTy d) (c : Cnd) (ho : CndOk c) (h30 : c.nodes.length ≤ 30) (i : Nat) (ihA : ∀ j, j < i → NodeA d c j) (ihB : ∀ j, j < i → NodeB 3520321 d c j) : NodeB 3520449 d c i := by
  intro G H a ps args neg much gen g hst hps ha
  obtain ⟨j, n, e, haj, hn, ok, hkids⟩ := hst.root
  obtain rfl : i = j := by omega
  rw [nd_eq hst hn args]
  have hno := ho.nodes n (mem_get hn)
  have hkid := hkids.kids rfl
  have hal : args.length ≤ 6 := by have := ha.1; omega
  have hk0 := ok.k0
  have hk8 := ok.k8
  have hqu := ok.qu
  have hlf := ok.lf
  have hnc := hno.ch
  have hown : quantK n.kind = false → ownC n = [] := fun h => by unfold ownC; rw [h]; rfl
  by_cases k2 : n.kind = 2
  · rw [if_pos k2]
    simp only [Bool.or_false]
    unfold leafCode at hlf
    rw [if_pos k2] at hlf
    have hr := atom_rng hlf
    have hB := f_condition_Bind args (by omega) n.at_ hno.at_.len (fun x hx => by have := (hr x hx).1; have := ha.1; omega)
    generalize bindA args n.at_ = at2 at *
    clear hd ho ihA ihB hst hkids hkid hno hr ok
    refine CT.step _ mixed k_nodeC two_mem fun hM => ?_
    repeat (first | refine i_s rfl ?_ | refine sw ?_)
    refine c_frzall rfl rfl rfl (by simp) ?_
    repeat' (first | refine i_len rfl ?_ | refine i_s rfl ?_ | refine sw ?_ | refine jd rfl rfl ?_ | refine i_stb rfl ?_ | refine i_alloc rfl ?_ | refine i_nv rfl ?_ | refine c_cond rfl (fun h => ?_) (fun h => ?_) | refine sf rfl rfl hB ?_ | fail)
    all_goals first
      | (exfalso; clear hB; simp_all; done)
      | skip
    all_goals exact e_ret ⟨rfl, _, rfl, rfl, rfl, rfl, ⟨_, restr_stOf _ _⟩, rfl⟩
  rw [if_neg k2]
  by_cases k3 : n.kind = 3
  · rw [if_pos k3]
    simp only [Bool.or_false]
    unfold leafCode at hlf
    rw [if_neg k2, if_pos k3] at hlf
    have hb : badArg d ps n.left = false ∧ badArg d ps n.right = false := by
      split at hlf
      · cases hlf
      · rename_i h; simpa using h
    simp only [badArg, Bool.or_eq_false_iff, decide_eq_false_iff_not] at hb
    have hL := f_condition_value args (by omega) n.left (by have := ha.1; omega)
    have hR := f_condition_value args (by omega) n.right (by have := ha.1; omega)
    generalize objA args n.left = u at *
    generalize objA args n.right = w at *
    clear hd ho ihA ihB hst hkids hkid hno ok
    refine CT.step _ mixed k_nodeC two_mem fun hM => ?_
    repeat (first | refine i_s rfl ?_ | refine sw ?_)
    refine c_frzall rfl rfl rfl (by simp) ?_
    by_cases huw : u = w
    all_goals cases neg
    all_goals
      repeat' (first | refine i_len rfl ?_ | refine i_s rfl ?_ | refine sw ?_ | refine c_t rfl ?_ | refine c_f rfl ?_ | refine jd rfl rfl ?_ | refine i_stb rfl ?_ | refine i_alloc rfl ?_ | refine i_nv rfl ?_ | refine c_cond rfl (fun h => ?_) (fun h => ?_) | refine sf rfl rfl hL ?_ | refine sf rfl rfl hR ?_ | fail)
    all_goals first
      | (exfalso; clear hL hR; simp_all; done)
      | skip
    all_goals refine e_ret ⟨rfl, _, rfl, rfl, rfl, ?_, ⟨_, restr_stOf _ _⟩, rfl⟩
    all_goals first
      | (rw [decide_eq_true huw]; rfl)
      | (rw [decide_eq_false huw]; rfl)
  rw [if_neg k3]
  by_cases k4 : n.kind = 4
  · rw [if_pos k4]
    obtain ⟨k, hch⟩ := arity_one ok (.inl k4)
    obtain ⟨a', _, x0, x1, _, hs⟩ := hkid k (by rw [hch]; simp)
    rw [hown (by unfold quantK; simp [k4]), List.append_nil] at hs
    have hE := ihA k.toNat (by omega) G H a' ps args (!neg) much g hs hps ha
    have e0 : ch0 n = k.toNat := by unfold ch0; rw [hch]; rfl
    rw [show ((k.toNat : Nat) : Int) = k from by omega, ← e0] at hE
    generalize nd d c.nodes (ch0 n) args (!neg) = b at *
    have hk0 : [k][(0 : Int).toNat]? = some k := rfl
    rw [← hch] at hk0
    clear hd ho ihA ihB hst hkids hkid hno ok hs
    refine CT.step _ mixed k_nodeC two_mem fun hM => ?_
    repeat (first | refine i_s rfl ?_ | refine sw ?_)
    refine c_frzall rfl rfl rfl (by simp) ?_
    repeat' (first | refine i_len rfl ?_ | refine i_s rfl ?_ | refine sw ?_ | refine jd rfl rfl ?_ | refine i_stb rfl ?_ | refine i_alloc rfl ?_ | refine i_nv rfl ?_ | refine c_cond rfl (fun h => ?_) (fun h => ?_))
    all_goals first
      | (exfalso; clear hE; simp_all; done)
      | skip
    all_goals
      refine i_cs rfl rfl rfl rfl hE ?_
      rintro _ _ _ ⟨rfl, rfl, rfl⟩
      repeat' (first | refine i_s rfl ?_ | refine sw ?_ | fail)
      exact e_ret ⟨rfl, _, rfl, rfl, rfl, rfl, ⟨_, restr_stOf _ _⟩, rfl⟩
  rw [if_neg k4]
  by_cases k1 : n.kind = 1
  · rw [if_pos k1]
    simp only [Bool.or_false]
    clear hd ho ihA ihB hst hkids hkid hno ok
    refine CT.step _ mixed k_nodeC two_mem fun hM => ?_
    repeat (first | refine i_s rfl ?_ | refine sw ?_)
    refine c_frzall rfl rfl rfl (by simp) ?_
    cases neg
    all_goals
      repeat' (first | refine i_len rfl ?_ | refine i_s rfl ?_ | refine sw ?_ | refine c_t rfl ?_ | refine c_f rfl ?_ | refine jd rfl rfl ?_ | refine i_stb rfl ?_ | refine i_alloc rfl ?_ | refine i_nv rfl ?_ | refine c_cond rfl (fun h => ?_) (fun h => ?_))
    all_goals first
      | (exfalso; simp_all; done)
      | skip
    all_goals exact e_ret ⟨rfl, _, rfl, rfl, rfl, rfl, ⟨_, restr_stOf _ _⟩, rfl⟩
  rw [if_neg k1]
  have hnl : n.ch.length ≤ 30 := by have := hkids.clen rfl; have := get_lt hn; omega
  have hil := get_lt hn
  have hle := hkids.le.1
  by_cases k56 : n.kind = 5 ∨ n.kind = 6
  · rw [if_neg (by omega)]
    have hq : quantK n.kind = false := by unfold quantK; rcases k56 with h | h <;> simp [h]
    rw [hown hq, List.append_nil] at hkids
    have hF := partsP_pk (fun k : Int => nd d c.nodes k.toNat args neg) (conjK n.kind neg) much n.ch
    rw [hF.1, hF.2]
    clear hF
    refine CT.step _ mixed k_nodeC two_mem fun hM => ?_
    repeat (first | refine i_s rfl ?_ | refine sw ?_)
    refine c_frzall rfl rfl rfl (by simp) ?_
    have hpk0 : pk (fun k : Int => nd d c.nodes k.toNat args neg) much (n.ch.take 0) = ([], much) := pk_nil _ _
    skip
    repeat' (first | refine i_len rfl ?_ | refine i_s rfl ?_ | refine sw ?_ | refine jd rfl rfl ?_ | refine i_stb rfl ?_ | refine i_alloc rfl ?_ | refine i_nv rfl ?_ | refine c_cond rfl (fun h => ?_) (fun h => ?_))
    all_goals first
      | (exfalso; clear ihA ihB; simp_all; done)
      | (exfalso; clear ihA ihB hd ho hst hkids hkid hno ok; simp at *; omega)
      | skip
    all_goals
      refine c_for n.ch.length (fun k => [(0, .bptr 1345929 0), (2, .sl .p (args.map i64V)), (3, .bool neg), (9, .bptr 3840583 0), (10, .sl (.own 3840641) ((pk (fun k : Int => nd d c.nodes k.toNat args neg) much (n.ch.take k)).1.map csV)), (27, .sl .p (n.ch.map i64V)), (28, .int .i64 n.ch.length), (29, .int .i64 k)])
        (fun k => [(1345929, .box (exV d c (pk (fun k : Int => nd d c.nodes k.toNat args neg) much (n.ch.take k)).2)), (3520449, .dead), (3840583, .box (cnV n)), (3840641, .vec (pk (fun k : Int => nd d c.nodes k.toNat args neg) much (n.ch.take k)).1.length)])
        (fun _ => True) trivial ⟨⟨rfl, rfl, rfl, rfl, by rw [hpk0]; rfl, rfl, rfl, rfl, trivial⟩, ⟨by rw [hpk0]; rfl, rfl, rfl, by rw [hpk0]; rfl, trivial⟩, rfl⟩ fun k hk _ => ?_
      by_cases hlt : k < n.ch.length
      · obtain ⟨x, hx⟩ := get_some hlt
        obtain ⟨a', h1, h2, h3, h4, h5, h6⟩ := hkids.nth rfl k x hx
        have hsn := pk_snoc (fun k : Int => nd d c.nodes k.toNat args neg) much (n.ch.take k) x
        have hln := pk_len (fun k : Int => nd d c.nodes k.toNat args neg) much (n.ch.take k)
        rw [← take_succ_get hx] at hsn
        have hE := fun m g => ihA x.toNat (by omega) G H a' ps args neg m g h5 hps ha
        rw [show ((x.toNat : Nat) : Int) = x from by omega] at hE
        have htl : (n.ch.take k).length ≤ k := by simp; omega
        generalize pk (fun k : Int => nd d c.nodes k.toNat args neg) much (n.ch.take k) = PK at *
        generalize nd d c.nodes x.toNat args neg = q at *
        clear ihA ihB hd ho hst hkids hkid hno ok h5 h6 hpk0
        repeat' (first | refine i_s rfl ?_ | refine sw ?_ | refine i_gt rfl ?_ | refine i_gf rfl ?_ | refine jd rfl rfl ?_ | (refine sp ?_ ?_ <;> try intro h) | fail)
        all_goals first
          | (exfalso; clear hE; simp at *; done)
          | (exfalso; clear hE; simp at *; omega)
          | skip
        all_goals
          refine i_cs rfl rfl rfl rfl (hE _ _) ?_
          rintro _ _ _ ⟨rfl, rfl, rfl⟩
          repeat' refine i_s rfl ?_
        all_goals
          refine i_appM (c := q.1) rfl rfl rfl rfl rfl (by omega) (by omega) ?_
          repeat' (first | refine i_s rfl ?_ | refine sw ?_ | refine ja rfl rfl ?_ | fail)
        all_goals
          refine e_for hlt trivial ⟨⟨rfl, rfl, rfl, rfl, ?_, rfl, rfl, rfl, trivial⟩, ⟨?_, rfl, rfl, ?_, trivial⟩, rfl⟩
        all_goals rw [hsn]
        all_goals first
          | rfl
          | (simp; rfl)
          | simp
      · have hge : k = n.ch.length := by omega
        subst hge
        rw [List.take_length]
        have hln := pk_len (fun k : Int => nd d c.nodes k.toNat args neg) much n.ch
        have hPO := (nd_ok hd ho.nodes hkids hps args ha neg).2 rfl
        have hPO : PartsOk (pk (fun k : Int => nd d c.nodes k.toNat args neg) much n.ch).1 _ := hPO
        have hS := pow_ok (m := i - a) (k := 6 - ps.length) (by omega) (by omega) (Nat.le_refl _)
        generalize pk (fun k : Int => nd d c.nodes k.toNat args neg) much n.ch = PK at *
        have hF := fun all g => ct_fold (H := H) d c PK.2 all PK.1 _ hS (by omega) hPO g
        clear ihA ihB hd ho hst hkids hkid hno ok hpk0 hPO hS
        repeat' (first | refine i_s rfl ?_ | refine sw ?_ | refine i_gt rfl ?_ | refine i_gf rfl ?_ | (refine sp ?_ ?_ <;> try intro h) | fail)
        all_goals first
          | (exfalso; clear hF; simp at *; done)
          | (exfalso; clear hF; simp at *; omega)
          | skip
        all_goals
          refine c_frzv rfl rfl ?_
          repeat' (first | refine i_s rfl ?_ | refine sw ?_ | fail)
        all_goals
          refine i_cs rfl rfl rfl rfl (hF _ _) ?_
          rintro _ _ _ ⟨rfl, rfl, rfl⟩
          repeat' (first | refine i_s rfl ?_ | refine sw ?_ | fail)
        all_goals
          refine e_ret ⟨rfl, _, rfl, rfl, rfl, congrArg (fun al => csV (foldP al PK.1).1) (?_ : _ = conjK n.kind neg), ⟨.dead, (restr_stOf _ _).trans (congrArg (fun al => stOf [(1345929, .box (exV d c (PK.2 || (foldP al PK.1).2))), (3520449, .dead)]) (?_ : _ = conjK n.kind neg))⟩, rfl⟩
          all_goals
            clear hF
            unfold conjK
            cases neg <;> simp_all
  have k78 : n.kind = 7 ∨ n.kind = 8 := by omega
  rw [if_pos k78]
  have hqk : quantK n.kind = true := by unfold quantK; rcases k78 with h | h <;> simp [h]
  obtain ⟨k, hch⟩ := arity_one ok (.inr k78)
  obtain ⟨a', _, x0, x1, _, hs⟩ := hkid k (by rw [hch]; simp)
  have e0 : ch0 n = k.toNat := by unfold ch0; rw [hch]; rfl
  have how : ownC n = [n.type] := by unfold ownC; rw [if_pos hqk]
  rw [how] at hs
  have hp5 : ps.length < 6 := by
    unfold quCode at hqu
    rw [hqk, if_neg (by simp)] at hqu
    split at hqu
    · cases hqu
    · split at hqu
      · cases hqu
      · omega
  have hO := f_types_Of d.types hd.ty d.objects hd.ol hd.o n.type
  have hml : (membersOf d.types d.objects n.type).length ≤ 8 := by have := members_length (l := d.types) (os := d.objects) (t := n.type); have := hd.ol; omega
  have hEo : ∀ o ∈ membersOf d.types d.objects n.type, ∀ (G : Type) (H : HT G) much gen g, Cc Go.Proofs.Tryz.prog H 60 [.bptr 1345929 0, .int .i64 k, .msl 3520321 gen 0 (args ++ [o]).length, .bool neg] [1345929, 3520321] (stOf [(1345929, .box (exV d c much)), (3520321, .arr gen ((args ++ [o]).map i64V))]) g fun r σ' g' =>
      r = csV (nd d c.nodes (ch0 n) (args ++ [o]) neg).1 ∧ (∃ b, σ' = stOf [(1345929, .box (exV d c (much || (nd d c.nodes (ch0 n) (args ++ [o]) neg).2))), (3520321, b)]) ∧ g' = g := fun o ho2 G H much gen g => by
    have hr := mem_rng ho2
    have hE := ihB k.toNat (by omega) G H a' _ (args ++ [o]) neg much gen g hs (by simp; omega) (ha.snoc hr.1 hr.2)
    rw [show ((k.toNat : Nat) : Int) = k from by omega, ← e0] at hE
    exact hE
  have hPO := parts_const (f := fun o => (nd d c.nodes (ch0 n) (args ++ [o]) neg).1) (B := 30 * 8 ^ 5) (xs := membersOf d.types d.objects n.type) fun o ho2 => by
    have hr := mem_rng ho2
    have := (nd_ok hd ho.nodes hs (by simp; omega) (args ++ [o]) (ha.snoc hr.1 hr.2) neg).1 rfl
    rw [e0]
    simp only [List.length_append, List.length_singleton, Nat.add_sub_cancel] at this
    exact this.mono (Nat.mul_le_mul (by omega) (Nat.pow_le_pow_right (by omega) (by omega)))
  have hS : (membersOf d.types d.objects n.type).length * (30 * 8 ^ 5) ≤ 40000000 := Nat.le_trans (Nat.mul_le_mul_right _ hml) (by decide)
  have hFp := partsP_pk (fun o : Int => nd d c.nodes (ch0 n) (args ++ [o]) neg) (conjK n.kind neg) much (membersOf d.types d.objects n.type)
  rw [hFp.1, hFp.2]
  clear hFp
  have hPO : PartsOk (pk (fun o : Int => nd d c.nodes (ch0 n) (args ++ [o]) neg) much (membersOf d.types d.objects n.type)).1 _ := hPO
  have hF := fun all g => ct_fold (H := H) d c (pk (fun o : Int => nd d c.nodes (ch0 n) (args ++ [o]) neg) much (membersOf d.types d.objects n.type)).2 all _ _ hS (by rw [pk_len]; omega) hPO g
  generalize membersOf d.types d.objects n.type = M at *
  have hpk0 : pk (fun o : Int => nd d c.nodes (ch0 n) (args ++ [o]) neg) much (M.take 0) = ([], much) := pk_nil _ _
  have hk0 : [k][(0 : Int).toNat]? = some k := rfl
  rw [← hch] at hk0
  clear ihA ihB hd ho hst hkids hkid hno ok hPO hS hs hch
  refine CT.step _ mixed k_nodeC two_mem fun hM => ?_
  repeat (first | refine i_s rfl ?_ | refine sw ?_)
  refine c_frzall rfl rfl rfl (by simp) ?_
  repeat' (first | refine i_len rfl ?_ | refine i_s rfl ?_ | refine sw ?_ | refine jd rfl rfl ?_ | refine i_stb rfl ?_ | refine i_alloc rfl ?_ | refine i_nv rfl ?_ | refine c_cond rfl (fun h => ?_) (fun h => ?_) | refine sf rfl rfl hO ?_ | fail)
  all_goals first
    | (exfalso; clear hF hEo; simp_all; done)
    | (exfalso; clear hF hEo; simp at *; omega)
    | skip
  all_goals
    refine c_for M.length (fun k => [(0, .bptr 1345929 0), (2, .sl .p (args.map i64V)), (3, .bool neg), (9, .bptr 3840583 0), (10, .sl (.own 3840641) ((pk (fun o : Int => nd d c.nodes (ch0 n) (args ++ [o]) neg) much (M.take k)).1.map csV)), (96, .sl .p (M.map i64V)), (97, .int .i64 M.length), (98, .int .i64 k)])
      (fun k => [(1345929, .box (exV d c (pk (fun o : Int => nd d c.nodes (ch0 n) (args ++ [o]) neg) much (M.take k)).2)), (3520449, .dead), (3840583, .box (cnV n)), (3840641, .vec (pk (fun o : Int => nd d c.nodes (ch0 n) (args ++ [o]) neg) much (M.take k)).1.length)])
      (fun _ => True) trivial ⟨⟨rfl, rfl, rfl, rfl, by rw [hpk0]; rfl, rfl, rfl, rfl, trivial⟩, ⟨by rw [hpk0]; rfl, rfl, rfl, by rw [hpk0]; rfl, trivial⟩, rfl⟩ fun j hj _ => ?_
    by_cases hlt : j < M.length
    · obtain ⟨o, hox⟩ := get_some hlt
      have hsn := pk_snoc (fun o : Int => nd d c.nodes (ch0 n) (args ++ [o]) neg) much (M.take j) o
      have hln := pk_len (fun o : Int => nd d c.nodes (ch0 n) (args ++ [o]) neg) much (M.take j)
      rw [← take_succ_get hox] at hsn
      have hE := hEo o (mem_get hox) G H
      have htl : (M.take j).length ≤ j := by simp; omega
      generalize pk (fun o : Int => nd d c.nodes (ch0 n) (args ++ [o]) neg) much (M.take j) = PK at *
      generalize nd d c.nodes (ch0 n) (args ++ [o]) neg = q at *
      clear hEo hF hO hpk0
      repeat' (first | refine i_s rfl ?_ | refine sw ?_ | refine i_gt rfl ?_ | refine i_gf rfl ?_ | refine jd rfl rfl ?_ | (refine sp ?_ ?_ <;> try intro h) | fail)
      all_goals first
        | (exfalso; clear hE; simp at *; done)
        | (exfalso; clear hE; simp at *; omega)
        | skip
      all_goals
        refine i_c rfl rfl rfl (ct_Clone1 args (by omega) _ _ rfl fun nm h => restr_mem nm h) ?_
        rintro _ _ _ ⟨⟨gen2, rfl, rfl⟩, rfl⟩
        repeat' (first | refine i_s rfl ?_ | refine jd rfl rfl ?_ | fail)
      all_goals
        refine i_appmM [o] rfl rfl rfl rfl rfl (fun c hc => ⟨rfl, rfl⟩) (by simp only [List.length_singleton]; omega) (by simp only [List.length_singleton]; omega) ?_
        repeat' (first | refine i_s rfl ?_ | refine jd rfl rfl ?_ | fail)
      all_goals
        refine i_cs rfl rfl rfl rfl (hE _ _ _) ?_
        rintro _ _ _ ⟨rfl, ⟨bb, rfl⟩, rfl⟩
        repeat' refine i_s rfl ?_
      all_goals
        refine i_appM (c := q.1) rfl rfl rfl rfl rfl (by omega) (by omega) ?_
        repeat' (first | refine i_s rfl ?_ | refine sw ?_ | refine ja rfl rfl ?_ | fail)
      all_goals
        refine e_for hlt trivial ⟨⟨rfl, rfl, rfl, rfl, ?_, rfl, rfl, rfl, trivial⟩, ⟨?_, rfl, rfl, ?_, trivial⟩, rfl⟩
      all_goals rw [hsn]
      all_goals first
        | rfl
        | (simp; rfl)
        | simp
    · have hge : j = M.length := by omega
      subst hge
      rw [List.take_length]
      have hln := pk_len (fun o : Int => nd d c.nodes (ch0 n) (args ++ [o]) neg) much M
      generalize pk (fun o : Int => nd d c.nodes (ch0 n) (args ++ [o]) neg) much M = PK at *
      clear hEo hO hpk0
      repeat' (first | refine i_s rfl ?_ | refine sw ?_ | refine i_gt rfl ?_ | refine i_gf rfl ?_ | (refine sp ?_ ?_ <;> try intro h) | fail)
      all_goals first
        | (exfalso; clear hF; simp at *; done)
        | (exfalso; clear hF; simp at *; omega)
        | skip
      all_goals
        refine c_frzv rfl rfl ?_
        repeat' (first | refine i_s rfl ?_ | refine sw ?_ | fail)
      all_goals
        refine i_cs rfl rfl rfl rfl (hF _ _) ?_
        rintro _ _ _ ⟨rfl, rfl, rfl⟩
        repeat' (first | refine i_s rfl ?_ | refine sw ?_ | fail)
      all_goals
        refine e_ret ⟨rfl, _, rfl, rfl, rfl, congrArg (fun al => csV (foldP al PK.1).1) (?_ : _ = conjK n.kind neg), ⟨.dead, (restr_stOf _ _).trans (congrArg (fun al => stOf [(1345929, .box (exV d c (PK.2 || (foldP al PK.1).2))), (3520449, .dead)]) (?_ : _ = conjK n.kind neg))⟩, rfl⟩
        all_goals
          clear hF
          unfold conjK
          cases neg <;> simp_all
theorem ct_nodes (d : Dom) (hd : DoTy d) (c : Cnd) (ho : CndOk c) (h30 : c.nodes.length ≤ 30) (i : Nat) : NodeA d c i ∧ NodeB 3520321 d c i ∧ NodeB 3520449 d c i := by
  induction i using Nat.strongRecOn with
  | ind i ih =>
    exact ⟨node_stepA d hd c ho h30 i (fun j hj => (ih j hj).1) (fun j hj => (ih j hj).2.1), node_stepB d hd c ho h30 i (fun j hj => (ih j hj).1) (fun j hj => (ih j hj).2.2), node_stepC d hd c ho h30 i (fun j hj => (ih j hj).1) (fun j hj => (ih j hj).2.1)⟩
def c_condition_clone : Cmd :=
 (qS [qq 2 (.mov (.c (.sl .nil [])))]
 (qS [qq 3 (.newVec 3904193)]
 (qT (qS [qm 9 0, qn 10 9, qc 11 0]
 (.block 0 (.loop (qS [qu 12 .lss [] 11 10]
 (qT (.cond (.t 12) .skip (.exit 0))
 (qT (.block 1 (qS [qi 13 1 9 11, ql 14 1 13, qm 5 14]
 (qS [qq 6 (.newVec 3904387)]
 (.seq (qS [qm 15 5, qn 16 15, qc 17 0]
 (.block 2 (.loop (qS [qu 18 .lss [] 17 16]
 (qT (.cond (.t 18) .skip (.exit 2))
 (qT (.block 3 (qS [qi 19 3 15 17, qL 20 3 19, qq 8 (.alloc 3904515 (.agg [.bool false, .int .i64 0, .sl .nil []])), qs 3 8 20]
 (.ops [qm 21 6, qf 22 0 8, ql 23 1 22, qf 24 1 8, qf 25 0 24, ql 26 1 25, qf 27 1 8, qf 28 1 27, ql 29 1 28, qk 30 55 [29], qq 31 (.build [.int .i64 0, .sl .nil []] [(0 , 1 , .t 26), (1 , 1 , .t 30)]), qq 32 (.build [.bool false, .int .i64 0, .sl .nil []] [(0 , 1 , .t 23), (1 , 2 , .t 31)]), qq 33 (.bsl 3 [.t 32]), qq 34 (.append 3 40 62 (.t 21) (.t 33)), qm 6 34])))
 (.ops [qv 35 .add [] 17 1, qm 17 35]))))))) (qT (.frz 6)
 (.ops [qm 36 3, qm 37 6, qq 38 (.bsl 1 [.t 37]), qq 39 (.append 1 24 27 (.t 36) (.t 38)), qm 3 39]))))))
 (.ops [qv 40 .add [] 11 1, qm 11 40])))))))
 (.seq (.ops [qm 41 3, qm 2 41]) .ret))))
def r_condition_clone : List RVar := [.tmp 2]
def n_condition_clone : Nat := 42
theorem k_condition_clone : chkFn Go.Proofs.Tryz.prog 61 n_condition_clone r_condition_clone c_condition_clone = true := by kernel_rfl
theorem f_condition_clone (cs : Cs) (B : Nat) (hB : B ≤ 40000000) (hl : cs.length ≤ 1000) (ha : AllCa B cs) : Fc Go.Proofs.Tryz.prog 61 [csV cs] (csV cs) := by
  unfold csV
  refine Fn.step mixed k_condition_clone ?_
  repeat (first | refine i_len rfl ?_ | refine i_s rfl ?_ | refine sw ?_ | refine i_nv rfl ?_)
  refine c_for cs.length (fun i => [(3, .sl (.own 3904193) ((cs.take i).map caV)), (9, .sl .p (cs.map caV)), (10, .int .i64 cs.length), (11, .int .i64 i)])
    (fun i => [(3904193, .vec (cs.take i).length)]) (fun _ => True) trivial ft fun i hi _ => ?_
  by_cases hlt : i < cs.length
  · obtain ⟨l, hx⟩ := get_some hlt
    have hlo := ha l (mem_get hx)
    have hll := hlo.len
    have hat := hlo.at_
    have hsn : cs.take (i + 1) = cs.take i ++ [l] := take_succ_get hx
    have htl : (cs.take i).length ≤ i := by simp; omega
    generalize cs.take i = T at *
    clear ha hlo
    repeat' (first | refine i_len rfl ?_ | refine i_s rfl ?_ | refine sw ?_ | refine jd rfl rfl ?_ | refine i_nv rfl ?_ | refine c_cond rfl (fun h => ?_) (fun h => ?_))
    all_goals first
      | (exfalso; simp at *; done)
      | (exfalso; simp at *; omega)
      | skip
    all_goals
      refine c_for l.length (fun j => [(3, .sl (.own 3904193) (T.map caV)), (6, .sl (.own 3904387) ((l.take j).map litV)), (9, .sl .p (cs.map caV)), (10, .int .i64 cs.length), (11, .int .i64 i), (15, .sl .p (l.map litV)), (16, .int .i64 l.length), (17, .int .i64 j)])
        (fun j => [(3904193, .vec T.length), (3904387, .vec (l.take j).length)]) (fun _ => True) trivial ft fun j hj _ => ?_
      by_cases hlt2 : j < l.length
      · obtain ⟨x, hx2⟩ := get_some hlt2
        have hxo := hat x (mem_get hx2)
        have hsn2 : l.take (j + 1) = l.take j ++ [x] := take_succ_get hx2
        have htl2 : (l.take j).length ≤ j := by simp; omega
        have hCl := f_slices_Clone_int x.at_.args (by have := hxo.len; omega)
        generalize l.take j = U at *
        clear hat
        repeat' (first | refine i_s rfl ?_ | refine sw ?_ | refine jd rfl rfl ?_ | refine i_stb rfl ?_ | refine i_alloc rfl ?_ | refine c_cond rfl (fun h => ?_) (fun h => ?_) | refine sf rfl rfl hCl ?_ | fail)
        all_goals first
          | (exfalso; simp at *; done)
          | (exfalso; simp at *; omega)
          | skip
        all_goals
          refine i_appM (c := x) rfl rfl rfl rfl rfl (by omega) (by omega) ?_
          repeat' (first | refine i_s rfl ?_ | refine sw ?_ | refine ja rfl rfl ?_ | fail)
          refine e_for hlt2 trivial ⟨⟨rfl, ?_, rfl, rfl, rfl, rfl, rfl, rfl, trivial⟩, ⟨rfl, ?_, trivial⟩, rfl⟩
        all_goals rw [hsn2]
        all_goals first
          | rfl
          | (simp; rfl)
          | simp
      · have hge : j = l.length := by omega
        subst hge
        rw [List.take_length]
        clear hat
        repeat' (first | refine i_s rfl ?_ | refine sw ?_ | refine c_cond rfl (fun h => ?_) (fun h => ?_))
        all_goals first
          | (exfalso; simp at *; done)
          | (exfalso; simp at *; omega)
          | skip
        all_goals
          refine c_frzv rfl rfl ?_
          repeat' (first | refine i_s rfl ?_ | refine sw ?_ | fail)
        all_goals
          refine i_appM (c := l) rfl rfl rfl rfl rfl (by omega) (by omega) ?_
          repeat' (first | refine i_s rfl ?_ | refine sw ?_ | refine ja rfl rfl ?_ | fail)
          refine e_for hlt trivial ⟨⟨?_, rfl, rfl, rfl, trivial⟩, ⟨?_, trivial⟩, rfl⟩
        all_goals rw [hsn]
        all_goals first
          | rfl
          | (simp; rfl)
          | simp
  · have hge : i = cs.length := by omega
    subst hge
    rw [List.take_length]
    clear ha
    repeat' (first | refine i_s rfl ?_ | refine sw ?_ | refine c_cond rfl (fun h => ?_) (fun h => ?_))
    all_goals first
      | (exfalso; simp at *; done)
      | exact e_ret ⟨rfl, _, rfl, rfl⟩
def casesFault (d : Dom) (c : Cnd) (args : List Int) : Flt := if condFault d c ≠ okF then condFault d c else if argsFault d c args ≠ okF then argsFault d c args else if (nd d c.nodes (c.nodes.length - 1) args false).2 = true then ⟨10, -13⟩ else okF
def casesOut (d : Dom) (c : Cnd) (args : List Int) : Cs := if casesFault d c args = okF then (nd d c.nodes (c.nodes.length - 1) args false).1 else []
def c_condition_Cases : Cmd :=
 (qS [qx 3 1344198 6 0, qx 4 1344258 2 1, qq 6 (.mov (.c (.sl .nil []))), qq 7 (.alloc 1344450 (.agg [.int .i64 0, .int .i64 0]))]
 (qT (qS [qL 12 6 3, qL 13 2 4, qk 14 11 [12, 13], qq 8 (.alloc 1344514 (.agg [.int .i64 0, .int .i64 0])), qs 2 8 14]
 (qS [qL 15 2 8, qq 16 (.build [.int .i64 0, .int .i64 0] []), qq 17 (.bin .neq true [.i, .i] (.t 15) (.t 16))]
 (.cond (.t 17) (.seq (.ops [qL 18 2 8, qq 6 (.mov (.c (.sl .nil []))), qs 2 7 18]) .ret) .skip)))
 (qT (qS [qL 19 6 3, qL 20 2 4, qm 21 2, qk 22 42 [19, 20, 21], qq 9 (.alloc 1344578 (.agg [.int .i64 0, .int .i64 0])), qs 2 9 22]
 (qS [qL 23 2 9, qq 24 (.build [.int .i64 0, .int .i64 0] []), qq 25 (.bin .neq true [.i, .i] (.t 23) (.t 24))]
 (.cond (.t 25) (.seq (.ops [qL 26 2 9, qq 6 (.mov (.c (.sl .nil []))), qs 2 7 26]) .ret) .skip)))
 (qS [qL 27 6 3, qL 28 2 4, qq 29 (.build [.sl .nil [], .sl .nil [], .sl .nil [], .sl .nil [], .sl .nil [], .sl .nil [], .sl .nil [], .sl .nil [], .bool false] [(0 , 6 , .t 27), (6 , 2 , .t 28)]), qx 30 1345929 9 29, qm 10 30]
 (qS [qm 31 10, qf 32 1 4, ql 33 1 32, qn 34 33, qv 35 .sub [] 34 1, qm 36 2, qq 37 (.call (.s [1345929]) (.c (.fn 60 [])) [.t 31, .t 35, .t 36, .c (.bool false)]), qm 11 37]
 (qT (qS [qm 38 10, qq 39 (.nilck (.t 38)), qf 40 8 39, ql 41 1 40]
 (.cond (.t 41) (.seq (.ops [qq 42 (.build [.int .i64 0, .int .i64 0] [(0 , 1 , .c (.int .i64 10)), (1 , 1 , .c (.int .i64 (-13)))]), qq 6 (.mov (.c (.sl .nil []))), qs 2 7 42]) .ret) .skip))
 (.seq (.ops [qm 43 11, qk 44 61 [43], qq 45 (.build [.int .i64 0, .int .i64 0] []), qm 6 44, qs 2 7 45]) .ret)))))))
def r_condition_Cases : List RVar := [.tmp 6, .cell true 2 7]
def n_condition_Cases : Nat := 46
theorem k_condition_Cases : chkFn Go.Proofs.Tryz.prog 21 n_condition_Cases r_condition_Cases c_condition_Cases = true := by kernel_rfl
theorem f_condition_Cases (d : Dom) (hdo : DoOk d) (c : Cnd) (ho : CndOk c) (args : List Int) (hal : args.length ≤ 140737488355328) :
    Fc Go.Proofs.Tryz.prog 21 [domV d, cndV c, .sl .p (args.map i64V)] (.tup [csV (casesOut d c args), ftV (casesFault d c args)]) := by
  have hV := f_condition_Validate d hdo c ho
  by_cases t1 : condFault d c = okF
  · rw [t1] at hV
    have hcv := cndV_of t1
    have hdt := domTy hcv.dom
    obtain ⟨p1, p2⟩ := paramsCode_ok hcv.par
    have hA := f_condition_values d hdt c p1 args hal
    by_cases t2 : argsFault d c args = okF
    · rw [t2] at hA
      have hfe : casesFault d c args = if (nd d c.nodes (c.nodes.length - 1) args false).2 = true then ⟨10, -13⟩ else okF := by unfold casesFault; rw [if_neg (by simp [t1]), if_neg (by simp [t2])]
      have hao := argsFault_ok t2
      have h30 := hcv.len
      have hpos := hcv.pos
      have hN := (ct_nodes d hdt c ho h30 (c.nodes.length - 1)).1 Unit noH 0 c.types args false false () hcv.root (by omega) hao
      rw [show ((c.nodes.length - 1 : Nat) : Int) = (c.nodes.length : Int) - 1 from by omega] at hN
      have hok : CsOk _ (nd d c.nodes (c.nodes.length - 1) args false).1 := (nd_ok hdt ho.nodes hcv.root (by omega) args hao false).1 rfl
      have hS := pow_ok (m := c.nodes.length - 1 + 1 - 0) (k := 6 - c.types.length) (by omega) (by omega) (Nat.le_refl _)
      have hC := f_condition_clone (nd d c.nodes (c.nodes.length - 1) args false).1 _ hS (by have := hok.len; omega) hok.ca
      unfold casesOut
      rw [hfe]
      rw [Bool.false_or] at hN
      clear hok hS hcv hdo ho hdt hfe p1 p2
      generalize nd d c.nodes (c.nodes.length - 1) args false = q at *
      cases hq : q.2
      · rw [hq] at hN
        rw [if_neg (show ¬ (false = true) by simp), if_pos (show okF = okF from rfl)]
        refine Fn.step mixed k_condition_Cases ?_
        repeat' (first | refine i_len rfl ?_ | refine i_s rfl ?_ | refine sw ?_ | refine c_f rfl ?_ | refine jb rfl rfl ?_ | refine i_stb rfl ?_ | refine i_alloc rfl ?_ | refine i_box rfl rfl ?_ | refine sf rfl rfl hV ?_ | refine sf rfl rfl hA ?_ | fail)
        all_goals first
          | (exfalso; clear hV hA hN hC; simp [okF] at *; done)
          | skip
        refine i_cs rfl rfl rfl rfl hN ?_
        rintro _ _ _ ⟨rfl, rfl, rfl⟩
        repeat' (first | refine i_s rfl ?_ | refine sw ?_ | refine c_f rfl ?_ | refine i_stb rfl ?_ | refine sf rfl rfl hC ?_ | fail)
        all_goals first
          | exact e_ret ⟨rfl, _, rfl, rfl⟩
          | (exfalso; clear hV hA hN hC; simp at *; done)
      · rw [hq] at hN
        rw [if_pos (show true = true from rfl), if_neg (show ¬ ((⟨10, -13⟩ : Flt) = okF) by simp [okF])]
        refine Fn.step mixed k_condition_Cases ?_
        repeat' (first | refine i_len rfl ?_ | refine i_s rfl ?_ | refine sw ?_ | refine c_f rfl ?_ | refine jb rfl rfl ?_ | refine i_stb rfl ?_ | refine i_alloc rfl ?_ | refine i_box rfl rfl ?_ | refine sf rfl rfl hV ?_ | refine sf rfl rfl hA ?_ | fail)
        all_goals first
          | (exfalso; clear hV hA hN hC; simp [okF] at *; done)
          | skip
        refine i_cs rfl rfl rfl rfl hN ?_
        rintro _ _ _ ⟨rfl, rfl, rfl⟩
        repeat' (first | refine i_s rfl ?_ | refine sw ?_ | refine c_t rfl ?_ | refine i_stb rfl ?_)
        all_goals first
          | exact e_ret ⟨rfl, _, rfl, rfl⟩
          | (exfalso; clear hV hA hN hC; simp at *; done)
    · have hfe : casesFault d c args = argsFault d c args := by unfold casesFault; rw [if_neg (by simp [t1]), if_pos t2]
      unfold casesOut
      rw [hfe, if_neg t2]
      clear hdo ho hfe hcv hdt p1 p2
      refine Fn.step mixed k_condition_Cases ?_
      repeat' (first | refine i_len rfl ?_ | refine i_s rfl ?_ | refine sw ?_ | refine c_f rfl ?_ | refine i_stb rfl ?_ | refine i_alloc rfl ?_ | refine i_box rfl rfl ?_ | refine c_cond rfl (fun h => ?_) (fun h => ?_) | refine sf rfl rfl hV ?_ | refine sf rfl rfl hA ?_ | fail)
      all_goals first
        | exact e_ret ⟨rfl, _, rfl, rfl⟩
        | exact absurd (eq_ok (by assumption)) t2
        | (exfalso; clear hV hA; simp [okF] at *; done)
  · have hfe : casesFault d c args = condFault d c := by unfold casesFault; rw [if_pos t1]
    unfold casesOut
    rw [hfe, if_neg t1]
    clear hdo ho hfe
    refine Fn.step mixed k_condition_Cases ?_
    repeat' (first | refine i_s rfl ?_ | refine sw ?_ | refine i_stb rfl ?_ | refine i_alloc rfl ?_ | refine i_box rfl rfl ?_ | refine c_cond rfl (fun h => ?_) (fun h => ?_) | refine sf rfl rfl hV ?_ | fail)
    all_goals first
      | exact e_ret ⟨rfl, _, rfl, rfl⟩
      | exact absurd (eq_ok (by assumption)) t1
theorem lit_eq {x y : Lit} : x = y ↔ x.neg = y.neg ∧ x.at_ = y.at_ := by
  cases x; cases y; simp
def c_R1_SameLiterals : Cmd :=
 (qS [qb 4 false]
 (qT (qS [qm 6 0, qn 7 6, qm 8 1, qn 9 8, qu 10 .neq [.i] 7 9]
 (.cond (.t 10) (.seq (.ops [qb 4 false]) .ret) .skip))
 (qT (qS [qc 5 0]
 (.block 0 (.loop (qT (qS [qm 11 5, qm 12 0, qn 13 12, qu 14 .lss [] 11 13]
 (.cond (.t 14) .skip (.exit 0)))
 (qT (.block 1 (qS [qm 17 0, qm 18 5, qi 19 3 17 18, qf 20 0 19, ql 21 1 20, qm 22 1, qm 23 5, qi 24 3 22 23, qf 25 0 24, ql 26 1 25, qu 27 .neq [.b] 21 26, qm 28 27, qg 29 28 false (.mov (.t 0)), qg 30 28 false (.mov (.t 5)), qg 31 28 false (.iaddr 3 (.t 29) (.t 30)), qg 32 28 false (.faddr 1 (.t 31)), qg 33 28 false (.load true 2 (.t 32)), qg 34 28 false (.mov (.t 1)), qg 35 28 false (.mov (.t 5)), qg 36 28 false (.iaddr 3 (.t 34) (.t 35)), qg 37 28 false (.faddr 1 (.t 36)), qg 38 28 false (.load true 2 (.t 37)), qg 39 28 false (.call .f (.c (.fn 57 [])) [.t 33, .t 38]), qg 40 28 false (.not (.t 39)), qq 41 (.pick (.t 28) (.c (.bool true)) (.t 40))]
 (.cond (.t 41) (.seq (.ops [qb 4 false]) .ret) .skip)))
 (.ops [qm 15 5, qv 16 .add [] 15 1, qm 5 16]))))))
 (.seq (.ops [qb 4 true]) .ret))))
def r_R1_SameLiterals : List RVar := [.tmp 4]
def n_R1_SameLiterals : Nat := 42
theorem k_R1_SameLiterals : chkFn Go.Proofs.Tryz.prog 22 n_R1_SameLiterals r_R1_SameLiterals c_R1_SameLiterals = true := by kernel_rfl
theorem f_R1_SameLiterals (a b : List Lit) (hla : a.length ≤ 100000000) (hlb : b.length ≤ 100000000) (ha : ∀ x ∈ a, AtOk x.at_) (hb : ∀ x ∈ b, AtOk x.at_) : Fc Go.Proofs.Tryz.prog 22 [caV a, caV b] (.bool (decide (a = b))) := by
  unfold caV
  by_cases hlen : a.length = b.length
  · refine Fn.step mixed k_R1_SameLiterals ?_
    repeat' (first | refine i_len rfl ?_ | refine i_s rfl ?_ | refine sw ?_ | refine c_cond rfl (fun h => ?_) (fun h => ?_))
    all_goals first
      | (exfalso; simp at *; omega)
      | skip
    refine c_for a.length (fun i => [(0, .sl .p (a.map litV)), (1, .sl .p (b.map litV)), (5, .int .i64 i)]) (fun _ => []) (fun i => a.take i = b.take i) rfl ft fun i hi hall => ?_
    by_cases hlt : i < a.length
    · obtain ⟨x, hx⟩ := get_some hlt
      obtain ⟨y, hy⟩ := get_some (l := b) (k := i) (by omega)
      have hlt2 : i < b.length := by omega
      have hS := f_R1_SameAtom x.at_ y.at_ (ha x (mem_get hx)) (hb y (mem_get hy))
      by_cases hxy : x = y
      · subst hxy
        rw [decide_eq_true (show x.at_ = x.at_ from rfl)] at hS
        repeat' (first | refine i_len rfl ?_ | refine i_s rfl ?_ | refine sw ?_ | refine i_gt rfl ?_ | refine i_gf rfl ?_ | refine c_t rfl ?_ | refine c_f rfl ?_ | refine ja rfl rfl ?_ | refine jd rfl rfl ?_ | (refine sp ?_ ?_ <;> try intro h) | refine sf rfl rfl hS ?_ | fail)
        all_goals first
          | (exact e_for hlt (by rw [take_succ_get hx, take_succ_get hy, hall]) ft)
          | (exfalso; clear hS hall; simp at *; done)
          | (exfalso; clear hS hall; simp at *; omega)
      · have hne : a ≠ b := fun e => by rw [e, hy] at hx; exact hxy (Option.some.inj hx).symm
        rw [decide_eq_false hne]
        by_cases hn : x.neg = y.neg
        · have hat : x.at_ ≠ y.at_ := fun h => hxy (lit_eq.2 ⟨hn, h⟩)
          rw [decide_eq_false hat] at hS
          repeat' (first | refine i_len rfl ?_ | refine i_s rfl ?_ | refine sw ?_ | refine i_gt rfl ?_ | refine i_gf rfl ?_ | refine c_t rfl ?_ | refine jd rfl rfl ?_ | (refine sp ?_ ?_ <;> try intro h) | refine sf rfl rfl hS ?_ | fail)
          all_goals first
            | exact e_ret ⟨rfl, _, rfl, rfl⟩
            | (exfalso; clear hS hall; simp_all; done)
            | (exfalso; clear hS hall; simp at *; omega)
        · generalize decide (x.at_ = y.at_) = bb at *
          repeat' (first | refine i_len rfl ?_ | refine i_s rfl ?_ | refine sw ?_ | refine i_gt rfl ?_ | refine i_gf rfl ?_ | refine c_t rfl ?_ | refine ja rfl rfl ?_ | refine jd rfl rfl ?_ | (refine sp ?_ ?_ <;> try intro h) | refine sf rfl rfl hS ?_ | fail)
          all_goals first
            | exact e_ret ⟨rfl, _, rfl, rfl⟩
            | (exfalso; clear hS hall; simp_all; done)
            | (exfalso; clear hS hall; simp at *; omega)
    · have hge : i = a.length := by omega
      subst hge
      have : a = b := by rwa [List.take_length, hlen, List.take_length] at hall
      rw [decide_eq_true this]
      repeat' (first | refine i_len rfl ?_ | refine i_s rfl ?_ | refine sw ?_ | refine c_cond rfl (fun h => ?_) (fun h => ?_))
      all_goals first
        | exact e_ret ⟨rfl, _, rfl, rfl⟩
        | (exfalso; simp at *; done)
        | (exfalso; simp at *; omega)
  · have : a ≠ b := fun e => hlen (by rw [e])
    rw [decide_eq_false this]
    refine Fn.step mixed k_R1_SameLiterals ?_
    repeat' (first | refine i_len rfl ?_ | refine i_s rfl ?_ | refine sw ?_ | refine c_cond rfl (fun h => ?_) (fun h => ?_))
    all_goals first
      | exact e_ret ⟨rfl, _, rfl, rfl⟩
      | (exfalso; simp at *; done)
      | (exfalso; simp at *; omega)
def lampD : Dom := ⟨[⟨[108, 97, 109, 112], -1⟩], [⟨[120], 0⟩], [⟨[111, 110], [0]⟩], [⟨[115, 119, 105, 116, 99, 104], [0], [], [⟨true, ⟨0, [-1]⟩⟩], [⟨0, [-1]⟩], [], 2⟩], [], [⟨false, ⟨0, [0]⟩⟩]⟩
def onC : Cn := ⟨2, [], ⟨0, [-1]⟩, 0, 0, 0⟩
def bothC : Cnd := ⟨[], [onC, ⟨7, [0], ⟨0, []⟩, 0, 0, 0⟩, onC, ⟨8, [2], ⟨0, []⟩, 0, 0, 0⟩, ⟨5, [1, 3], ⟨0, []⟩, 0, 0, 0⟩]⟩
def on0 : At := ⟨0, [0]⟩
def c_L1_lamp : Cmd :=
 (qS [qq 0 (.alloc 1536006 (.agg [.sl .nil [], .sl .nil [], .sl .nil [], .sl .nil [], .sl .nil [], .sl .nil []]))]
 (qS [qq 2 (.bsl 1 [.c (.int .i64 (-1))]), qq 3 (.build [.int .i64 0, .sl .nil []] [(0 , 1 , .c (.int .i64 0)), (1 , 1 , .t 2)]), qq 4 (.build [.bool false, .int .i64 0, .sl .nil []] [(0 , 1 , .c (.bool true)), (1 , 2 , .t 3)]), qq 1 (.alloc 1536067 (.agg [.bool false, .int .i64 0, .sl .nil []])), qs 3 1 4]
 (.seq (.ops [qq 5 (.build [.str [], .int .i64 0] [(0 , 1 , .c (.str [108, 97, 109, 112])), (1 , 1 , .c (.int .i64 (-1)))]), qq 6 (.bsl 2 [.t 5]), qq 7 (.build [.str [], .int .i64 0] [(0 , 1 , .c (.str [120])), (1 , 1 , .c (.int .i64 0))]), qq 8 (.bsl 2 [.t 7]), qq 9 (.bsl 1 [.c (.int .i64 0)]), qq 10 (.build [.str [], .sl .nil []] [(0 , 1 , .c (.str [111, 110])), (1 , 1 , .t 9)]), qq 11 (.bsl 2 [.t 10]), qq 12 (.bsl 1 [.c (.int .i64 0)]), qL 13 3 1, qq 14 (.bsl 3 [.t 13]), qq 15 (.bsl 1 [.c (.int .i64 (-1))]), qq 16 (.build [.int .i64 0, .sl .nil []] [(0 , 1 , .c (.int .i64 0)), (1 , 1 , .t 15)]), qq 17 (.bsl 2 [.t 16]), qq 18 (.build [.str [], .sl .p [], .sl .p [], .sl .p [], .sl .p [], .sl .p [], .int .i64 0] [(0 , 1 , .c (.str [115, 119, 105, 116, 99, 104])), (1 , 1 , .t 12), (3 , 1 , .t 14), (4 , 1 , .t 17), (6 , 1 , .c (.int .i64 2))]), qq 19 (.bsl 7 [.t 18]), qq 20 (.bsl 1 [.c (.int .i64 0)]), qq 21 (.build [.int .i64 0, .sl .nil []] [(0 , 1 , .c (.int .i64 0)), (1 , 1 , .t 20)]), qq 22 (.build [.bool false, .int .i64 0, .sl .nil []] [(1 , 2 , .t 21)]), qq 23 (.bsl 3 [.t 22]), qq 24 (.build [.sl .p [], .sl .p [], .sl .p [], .sl .p [], .sl .p [], .sl .p []] [(0 , 1 , .t 6), (1 , 1 , .t 8), (2 , 1 , .t 11), (3 , 1 , .t 19), (5 , 1 , .t 23)]), qs 6 0 24]) .ret)))
def r_L1_lamp : List RVar := [.cell true 6 0]
def n_L1_lamp : Nat := 25
theorem k_L1_lamp : chkFn Go.Proofs.Tryz.prog 24 n_L1_lamp r_L1_lamp c_L1_lamp = true := by kernel_rfl
theorem f_L1_lamp : Fc Go.Proofs.Tryz.prog 24 [] (domV lampD) := by
  refine Fn.step mixed k_L1_lamp ?_
  repeat' (first | refine i_s rfl ?_ | refine sw ?_ | refine i_stb rfl ?_ | refine i_alloc rfl ?_)
  exact e_ret ⟨rfl, _, rfl, rfl⟩
def c_L1_both : Cmd :=
 (qS [qq 0 (.alloc 1600002 (.agg [.sl .nil [], .sl .nil []]))]
 (qS [qq 4 (.bsl 1 [.c (.int .i64 (-1))]), qq 5 (.build [.int .i64 0, .sl .nil []] [(0 , 1 , .c (.int .i64 0)), (1 , 1 , .t 4)]), qq 6 (.build [.int .i64 0, .sl .p [], .int .i64 0, .sl .p [], .int .i64 0, .int .i64 0, .int .i64 0] [(0 , 1 , .c (.int .i64 2)), (2 , 2 , .t 5)]), qq 1 (.alloc 1600071 (.agg [.int .i64 0, .sl .nil [], .int .i64 0, .sl .nil [], .int .i64 0, .int .i64 0, .int .i64 0])), qs 7 1 6]
 (qS [qq 7 (.bsl 1 [.c (.int .i64 0)]), qq 8 (.build [.int .i64 0, .sl .p [], .int .i64 0, .sl .p [], .int .i64 0, .int .i64 0, .int .i64 0] [(0 , 1 , .c (.int .i64 7)), (6 , 1 , .c (.int .i64 0)), (1 , 1 , .t 7)]), qq 2 (.alloc 1600135 (.agg [.int .i64 0, .sl .nil [], .int .i64 0, .sl .nil [], .int .i64 0, .int .i64 0, .int .i64 0])), qs 7 2 8]
 (qS [qq 9 (.bsl 1 [.c (.int .i64 2)]), qq 10 (.build [.int .i64 0, .sl .p [], .int .i64 0, .sl .p [], .int .i64 0, .int .i64 0, .int .i64 0] [(0 , 1 , .c (.int .i64 8)), (6 , 1 , .c (.int .i64 0)), (1 , 1 , .t 9)]), qq 3 (.alloc 1600199 (.agg [.int .i64 0, .sl .nil [], .int .i64 0, .sl .nil [], .int .i64 0, .int .i64 0, .int .i64 0])), qs 7 3 10]
 (.seq (.ops [qL 11 7 1, qL 12 7 2, qL 13 7 1, qL 14 7 3, qq 15 (.bsl 1 [.c (.int .i64 1), .c (.int .i64 3)]), qq 16 (.build [.int .i64 0, .sl .p [], .int .i64 0, .sl .p [], .int .i64 0, .int .i64 0, .int .i64 0] [(0 , 1 , .c (.int .i64 5)), (1 , 1 , .t 15)]), qq 17 (.bsl 7 [.t 11, .t 12, .t 13, .t 14, .t 16]), qq 18 (.build [.sl .p [], .sl .p []] [(1 , 1 , .t 17)]), qs 2 0 18]) .ret)))))
def r_L1_both : List RVar := [.cell true 2 0]
def n_L1_both : Nat := 19
theorem k_L1_both : chkFn Go.Proofs.Tryz.prog 25 n_L1_both r_L1_both c_L1_both = true := by kernel_rfl
theorem f_L1_both : Fc Go.Proofs.Tryz.prog 25 [] (cndV bothC) := by
  refine Fn.step mixed k_L1_both ?_
  repeat' (first | refine i_s rfl ?_ | refine sw ?_ | refine i_stb rfl ?_ | refine i_alloc rfl ?_)
  exact e_ret ⟨rfl, _, rfl, rfl⟩
theorem lamp_e1 : evalFault lampD bothC [on0] [] = okF := by decide +kernel
theorem lamp_e2 : evalB lampD bothC [on0] [] = true := by decide +kernel
theorem lamp_e3 : evalFault lampD bothC [] [] = okF := by decide +kernel
theorem lamp_e4 : evalB lampD bothC [] [] = false := by decide +kernel
theorem lamp_n1 : negFault lampD bothC = okF := by decide +kernel
theorem lamp_n2 : (negOut lampD bothC).nodes.length = 7 := by decide +kernel
theorem lamp_c1 : casesFault lampD bothC [] = okF := by decide +kernel
theorem lamp_c2 : casesOut lampD bothC [] = [[⟨false, on0⟩]] := by decide +kernel
theorem lamp_v : condFault lampD ⟨[], []⟩ = ⟨2, -10⟩ := by decide +kernel
theorem at0_ok : AtOk ⟨0, []⟩ := ⟨by simp, by simp, by simp [InR]⟩
theorem atm_ok : AtOk ⟨0, [-1]⟩ := ⟨by simp, by simp [InR], by simp [InR]⟩
theorem on0_ok : AtOk ⟨0, [0]⟩ := ⟨by simp, by simp [InR], by simp [InR]⟩
theorem bothC_ok : CndOk bothC := by
  refine ⟨by simp [bothC], by simp [bothC], fun n hn => ?_⟩
  simp only [bothC, List.mem_cons, List.not_mem_nil, or_false] at hn
  rcases hn with h | h | h | h | h
  all_goals subst h
  · exact ⟨by simp [onC], by simp [onC], atm_ok, by simp [onC, InR], by simp [onC, InR], by simp [onC, InR], by simp [onC, InR]⟩
  · exact ⟨by simp, by simp [InR], at0_ok, by simp [InR], by simp [InR], by simp [InR], by simp [InR]⟩
  · exact ⟨by simp [onC], by simp [onC], atm_ok, by simp [onC, InR], by simp [onC, InR], by simp [onC, InR], by simp [onC, InR]⟩
  · exact ⟨by simp, by simp [InR], at0_ok, by simp [InR], by simp [InR], by simp [InR], by simp [InR]⟩
  · exact ⟨by simp, by simp [InR], at0_ok, by simp [InR], by simp [InR], by simp [InR], by simp [InR]⟩
theorem lamp_do : DoOk lampD := by
  refine ⟨⟨by simp [lampD], fun x hx => ?_⟩, ⟨by simp [lampD], fun x hx => ?_⟩, ⟨by simp [lampD], fun x hx => ?_⟩, ⟨by simp [lampD], fun x hx => ?_⟩, ⟨by simp [lampD], fun x hx => ?_⟩, ⟨by simp [lampD], fun x hx => ?_⟩⟩
  all_goals simp only [lampD, List.mem_singleton, List.not_mem_nil] at hx
  all_goals subst hx
  · simp
  · simp
  · simp
  · exact ⟨by simp, by simp, by simp, by simp, by simp, by simp, fun x hx => by rw [List.mem_singleton.1 hx]; exact atm_ok, fun x hx => by rw [List.mem_singleton.1 hx]; exact atm_ok, fun x hx => by simp at hx⟩
  · exact on0_ok
theorem none_ok : CndOk ⟨[], []⟩ := ⟨by simp, by simp, by simp⟩
def c_L1_conditions : Cmd :=
 (qS [qb 0 false]
 (qS [qq 11 (.bsl 1 [.c (.int .i64 0)]), qq 12 (.build [.int .i64 0, .sl .nil []] [(0 , 1 , .c (.int .i64 0)), (1 , 1 , .t 11)]), qq 1 (.alloc 576066 (.agg [.int .i64 0, .sl .nil []])), qs 2 1 12]
 (qS [qk 14 24 [], qk 15 25 [], qL 16 2 1, qq 17 (.bsl 2 [.t 16]), qq 18 (.call .f (.c (.fn 14 [])) [.t 14, .t 15, .t 17, .c (.sl .nil [])]), qm 13 18, qq 19 (.extract (.t 13) 0), qq 20 (.extract (.t 13) 1), qq 3 (.alloc 576194 (.agg [.int .i64 0, .int .i64 0])), qm 2 19, qs 2 3 20]
 (qS [qk 22 24 [], qk 23 25 [], qq 24 (.call .f (.c (.fn 14 [])) [.t 22, .t 23, .c (.sl .nil []), .c (.sl .nil [])]), qm 21 24, qq 25 (.extract (.t 21) 0), qq 26 (.extract (.t 21) 1), qq 5 (.alloc 576322 (.agg [.int .i64 0, .int .i64 0])), qm 4 25, qs 2 5 26]
 (qS [qk 28 24 [], qk 29 25 [], qk 30 18 [28, 29], qm 27 30, qq 31 (.extract (.t 27) 0), qq 32 (.extract (.t 27) 1), qq 6 (.alloc 576386 (.agg [.sl .nil [], .sl .nil []])), qq 7 (.alloc 576450 (.agg [.int .i64 0, .int .i64 0])), qs 2 6 31, qs 2 7 32]
 (qS [qk 34 24 [], qk 35 25 [], qq 36 (.call .f (.c (.fn 21 [])) [.t 34, .t 35, .c (.sl .nil [])]), qm 33 36, qq 37 (.extract (.t 33) 0), qq 38 (.extract (.t 33) 1), qq 9 (.alloc 576578 (.agg [.int .i64 0, .int .i64 0])), qm 8 37, qs 2 9 38]
 (qS [qf 39 0 3, ql 40 1 39, qv 41 .eql [.i] 40 0, qm 42 41, qg 43 42 true (.faddr 0 (.t 5)), qg 44 42 true (.load false 1 (.t 43)), qg 45 42 true (.bin .eql false [.i] (.t 44) (.c (.int .i64 0))), qq 46 (.pick (.t 42) (.t 45) (.c (.bool false))), qm 47 46, qg 48 47 true (.faddr 0 (.t 7)), qg 49 47 true (.load false 1 (.t 48)), qg 50 47 true (.bin .eql false [.i] (.t 49) (.c (.int .i64 0))), qq 51 (.pick (.t 47) (.t 50) (.c (.bool false))), qm 52 51, qg 53 52 true (.faddr 0 (.t 9)), qg 54 52 true (.load false 1 (.t 53)), qg 55 52 true (.bin .eql false [.i] (.t 54) (.c (.int .i64 0))), qq 56 (.pick (.t 52) (.t 55) (.c (.bool false))), qm 57 56, qg 58 57 true (.mov (.t 2)), qq 59 (.pick (.t 57) (.t 58) (.c (.bool false))), qm 60 59, qg 61 60 true (.mov (.t 4)), qg 62 60 true (.not (.t 61)), qq 63 (.pick (.t 60) (.t 62) (.c (.bool false))), qm 64 63, qg 65 64 true (.faddr 1 (.t 6)), qg 66 64 true (.load false 1 (.t 65)), qg 67 64 true (.len false (.t 66)), qg 68 64 true (.bin .eql false [.i] (.t 67) (.c (.int .i64 7))), qq 69 (.pick (.t 64) (.t 68) (.c (.bool false))), qm 70 69, qg 71 70 true (.mov (.t 8)), qg 72 70 true (.len false (.t 71)), qg 73 70 true (.bin .eql false [.i] (.t 72) (.c (.int .i64 1))), qq 74 (.pick (.t 70) (.t 73) (.c (.bool false))), qm 10 74]
 (.seq (.ops [qm 75 10, qm 76 75, qg 77 76 true (.mov (.t 8)), qg 78 76 true (.iaddr 1 (.t 77) (.c (.int .i64 0))), qg 79 76 true (.load false 1 (.t 78)), qg 80 76 true (.load true 2 (.t 1)), qg 81 76 true (.build [.bool false, .int .i64 0, .sl .nil []] [(1 , 2 , .t 80)]), qg 82 76 true (.bsl 3 [.t 81]), qg 83 76 true (.call .f (.c (.fn 22 [])) [.t 79, .t 82]), qq 84 (.pick (.t 76) (.t 83) (.c (.bool false))), qm 85 84, qg 86 85 true (.call .f (.c (.fn 24 [])) []), qg 87 85 true (.build [.sl .p [], .sl .p []] []), qg 88 85 true (.call .f (.c (.fn 11 [])) [.t 86, .t 87]), qg 89 85 true (.call .f (.c (.fn 17 [])) [.c (.int .i64 2), .c (.int .i64 (-10))]), qg 90 85 true (.bin .eql true [.i, .i] (.t 88) (.t 89)), qq 91 (.pick (.t 85) (.t 90) (.c (.bool false))), qm 0 91]) .ret))))))))
def r_L1_conditions : List RVar := [.tmp 0]
def n_L1_conditions : Nat := 92
theorem k_L1_conditions : chkFn Go.Proofs.Tryz.prog 9 n_L1_conditions r_L1_conditions c_L1_conditions = true := by kernel_rfl
theorem f_L1_conditions : Fc Go.Proofs.Tryz.prog 9 [] (.bool true) := by
  have hL := f_L1_lamp
  have hB := f_L1_both
  have hE1 := f_condition_Eval lampD lamp_do bothC bothC_ok [on0] (by simp) (fun a h => by rw [List.mem_singleton.1 h]; exact on0_ok) [] (by simp)
  rw [lamp_e1, lamp_e2] at hE1
  have hE2 := f_condition_Eval lampD lamp_do bothC bothC_ok [] (by simp) (fun a h => by simp at h) [] (by simp)
  rw [lamp_e3, lamp_e4] at hE2
  have hN := f_condition_Negate lampD lamp_do bothC bothC_ok
  rw [lamp_n1] at hN
  have hN7 := lamp_n2
  have hC := f_condition_Cases lampD lamp_do bothC bothC_ok [] (by simp)
  rw [lamp_c1, lamp_c2] at hC
  unfold csV at hC
  have hk0 : ([[⟨false, on0⟩]] : Cs)[(0 : Int).toNat]? = some [⟨false, on0⟩] := rfl
  have hS := f_R1_SameLiterals [⟨false, on0⟩] [⟨false, on0⟩] (by simp) (by simp) (fun x h => by rw [List.mem_singleton.1 h]; exact on0_ok) (fun x h => by rw [List.mem_singleton.1 h]; exact on0_ok)
  rw [decide_eq_true rfl] at hS
  generalize hcc : ([[⟨false, on0⟩]] : Cs) = cc at hC hk0
  have hcl : ((cc.length : Nat) : Int) = 1 := by rw [← hcc]; rfl
  have hV := f_condition_Validate lampD lamp_do ⟨[], []⟩ none_ok
  rw [lamp_v] at hV
  have hA := f_R1_At 2 (-10)
  generalize negOut lampD bothC = NN at *
  obtain ⟨nt, nn⟩ := NN
  simp only at hN7
  have hN7' : ((nn.length : Nat) : Int) = 7 := by omega
  refine Fn.step mixed k_L1_conditions ?_
  repeat' (first | refine i_len rfl ?_ | refine i_s rfl ?_ | refine sw ?_ | refine i_gt rfl ?_ | refine i_gf rfl ?_ | refine jd rfl rfl ?_ | refine i_stb rfl ?_ | refine i_alloc rfl ?_ | refine i_g rfl (fun h => ?_) (fun h => ?_) | refine sf rfl rfl hL ?_ | refine sf rfl rfl hB ?_ | refine sf rfl rfl hE1 ?_ | refine sf rfl rfl hE2 ?_ | refine sf rfl rfl hN ?_ | refine sf rfl rfl hC ?_ | refine sf rfl rfl hS ?_ | refine sf rfl rfl hV ?_ | refine sf rfl rfl hA ?_ | fail)
  all_goals first
    | exact e_ret ⟨rfl, _, rfl, rfl⟩
    | (exfalso; clear hL hB hE1 hE2 hN hC hS hV hA; simp_all [okF]; done)
    | skip
theorem cnBad_code {l : List Cn} {f : Flt} {n : Nat} (h : scan (cnBad l) 0 n = some f) : f.code ≠ 0 := by
  have := scan_prop (bad := cnBad l) (fun o => ∀ y, o = some y → y.code ≠ 0) (by simp) (fun i y hy => by
    unfold cnBad at hy
    repeat' split at hy
    all_goals first
      | (cases hy; done)
      | (cases hy; simp)) n 0
  exact this f h
theorem nodeCode_code {g : Cn → List Int → Int} {c : Cnd} {f : Flt} {n : Nat} (h : scan (nodeCode g c) 0 n = some f) : f.code ≠ 0 := by
  have := scan_prop (bad := nodeCode g c) (fun o => ∀ y, o = some y → y.code ≠ 0) (by simp) (fun i y hy => by
    unfold nodeCode at hy
    split at hy
    · cases hy
    · split at hy
      · rename_i h; cases hy; exact h
      · cases hy) n 0
  exact this f h
theorem shapeF_code (l : List Cn) : (shapeF l).code = 0 ↔ shapeF l = okF := by
  have key : ∀ c i : Int, c ≠ 0 → ((⟨c, i⟩ : Flt).code = 0 ↔ (⟨c, i⟩ : Flt) = okF) := fun c i h => ⟨fun h1 => absurd h1 h, fun h1 => absurd (congrArg Flt.code h1) h⟩
  have key2 : ∀ x : Flt, x.code ≠ 0 → (x.code = 0 ↔ x = okF) := fun x h => ⟨fun h1 => absurd h1 h, fun h1 => absurd (congrArg Flt.code h1) h⟩
  unfold shapeF
  split
  · exact key _ _ (by decide)
  · split
    · rename_i f hf; exact key2 _ (cnBad_code hf)
    · split
      · exact key _ _ (by decide)
      · simp [okF]
theorem condFault_code (d : Dom) (c : Cnd) : (condFault d c).code = 0 ↔ condFault d c = okF := by
  have key : ∀ c i : Int, c ≠ 0 → ((⟨c, i⟩ : Flt).code = 0 ↔ (⟨c, i⟩ : Flt) = okF) := fun c i h => ⟨fun h1 => absurd h1 h, fun h1 => absurd (congrArg Flt.code h1) h⟩
  have key2 : ∀ x : Flt, x.code ≠ 0 → (x.code = 0 ↔ x = okF) := fun x h => ⟨fun h1 => absurd h1 h, fun h1 => absurd (congrArg Flt.code h1) h⟩
  unfold condFault
  split
  · exact domFault_code d
  · split
    · rename_i h; exact key _ _ h
    · split
      · exact shapeF_code _
      · split
        · rename_i f hf; exact key2 _ (nodeCode_code hf)
        · split
          · rename_i f hf; exact key2 _ (nodeCode_code hf)
          · simp [okF]
end Hm
end
