/- Part YHA of the proof. -/
import Derived.Test.YtcafpbooikaahaaGreatYPB
import Derived.Shelf.SlSortCmp.WholeK
set_option linter.unusedVariables false
set_option linter.unusedSimpArgs false
section
namespace Hm
open Go
theorem ct_of_fn {G : Type} {P : Program} {H : HT G} {f : Nat} {args : List V} {r : V} {pn : List Nat} {σ : Store} {g : G} (h : Fn P f (args.map (er σ 6)) r) (hfl : flatB r = true) (hpn : ∀ nm, nm ∉ pn → σ nm = .unused) :
    CT P H f args pn σ g fun v σ' g' => v = r ∧ σ' = σ ∧ g' = g :=
  ⟨h.1, fun J l hst hM hH w S F θ xs hs hargs => by
    have hcall := h.2 w (All w) _ (fun b hb => hb) (reps_map hargs (fun v x _ hr => hr.er hs 6))
    refine hcall.mono fun e w' he' => ?_
    obtain ⟨x', S', rfl, hr, hS1, hS2, hg⟩ := he'
    exact ⟨r, x', σ, g, _, F, θ, rfl, ⟨rfl, rfl, rfl⟩, St.grow hst hs hg (N := fun _ => False) (fun b hb => hb.elim) (fun b hb => hb.elim), .pure (hr.flat hfl), Fr.grow hs hg (fun b hb => hb.elim), hpn⟩⟩
theorem putRow_setI (w : World) (b : Nat) (c : Array Value) (e : TypeId) (fr : Nat × Nat) (d : Array Value) (hb : w.heap[b]? = some (.cells c e fr)) :
    Sort.putRow id w b 0 d = w.setRow b (Sort.putCells id 0 d c) := by
  unfold Sort.putRow Sort.mapBlock World.setRow
  congr 1
  apply Array.ext_getElem?
  intro k
  simp only [Array.getElem?_modify]
  by_cases hk : b = k
  · subst hk
    simp [hb, Sort.onCells]
  · simp [hk]
theorem putCells_getI (d : Array Value) (c : Array Value) (j : Nat) : (Sort.putCells id 0 d c)[j]? = (c[j]?).map fun x => if j < d.size then d[j]! else x := by
  unfold Sort.putCells
  rw [Array.getElem?_mapIdx]
  simp
theorem ups_same {σ : Store} {nm : Nat} {b : Blk} (h : σ nm = b) : ups σ nm b = σ := by
  funext k
  unfold ups
  cases hb : Nat.beq k nm with
  | true => have := Nat.eq_of_beq_eq_true hb; subst this; exact h.symm
  | false => rfl
theorem grow_eq {w w' : World} (h : Grow w w') : ∃ q os', w' = Sort.grow (w.drewN q) os' := by
  refine ⟨w'.drawn - w.drawn, w'.heap.extract w.heap.size w'.heap.size, ?_⟩
  obtain ⟨heap', tape', drawn', os', output'⟩ := w'
  obtain ⟨hs, e1, e2, e3, hb⟩ := h
  have e1 : os' = w.os := e1
  have e2 : tape' = w.tape := e2
  obtain ⟨e3, e4⟩ := e3
  have e3 : output' = w.output := e3
  have e4 : w.drawn ≤ drawn' := e4
  have hs : w.heap.size ≤ heap'.size := hs
  have hb : ∀ k, k < w.heap.size → heap'[k]? = w.heap[k]? := hb
  subst e1 e2 e3
  have eh : heap' = w.heap ++ heap'.extract w.heap.size heap'.size := by
    apply Array.ext_getElem?
    intro k
    by_cases hk : k < w.heap.size
    · rw [Array.getElem?_append_left hk]; exact hb k hk
    · rw [Array.getElem?_append_right (by omega), Array.getElem?_extract]
      by_cases hk2 : k < heap'.size
      · rw [if_pos (by omega)]; congr 1; omega
      · rw [if_neg (by omega), Array.getElem?_eq_none (by omega)]
  simp only [Sort.grow, World.drewN]
  congr 1
  omega
theorem rep_one {w : World} {S : Nat → Prop} {u : V} {v : Value} (h : RepP w S u v) (hl : leafB u = true) : v.oneCell' = true := by
  cases h <;> first
    | rfl
    | (exact absurd hl (by simp [leafB]))
theorem repP_agg {w : World} {S : Nat → Prop} {lv : List V} {arr : Array Value} (h : RepP w S (.agg lv) (.agg arr)) : lv.length = arr.size ∧ ∀ (j : Nat) (v : V), lv[j]? = some v → ∃ y, arr[j]? = some y ∧ RepP w S v y := by
  cases h with
  | agg _ xs hl h =>
    refine ⟨by simpa using hl, fun j v hv => ?_⟩
    have hj := (List.getElem?_eq_some_iff.1 hv).1
    have hx : xs[j]? = some xs[j] := List.getElem?_eq_getElem (by omega)
    exact ⟨xs[j], by simp, h j v _ hv hx⟩
structure EC {α : Type} (f : α → V) (ok : α → Prop) (k : Nat) (w : World) (S : Nat → Prop) where
  e : α
  cs : List Value
  hl : cs.length = k
  h1 : ∀ v ∈ cs, v.oneCell' = true
  ok : ok e
  rep : RepP w S (f e) (.agg cs.toArray)
theorem ct_sortF {G : Type} {P : Program} {H : HT G} {ρ : Shelf.Ren} (Ly : Go.Proofs.SlLaysF0.n6 P ρ) {α : Type} (f : α → V) (ok : α → Prop) (k : Nat) (k0 : 0 < k)
    (aE : ∀ w, (isAgg (ρ.t 24)).run P w = .ok true w) (zE : ∀ w, (Go.sizeOf (ρ.t 24)).run P w = .ok k w) (hf : ∀ x, ∃ lv, f x = .agg lv ∧ lv.length = k ∧ lv.all leafB = true)
    (cf : α → α → Int) (hO : Sort.SWO (Go.Proofs.ltOf cf)) (g0 : Nat) (eg : ∀ args w, (callFunc g0 args).run P w = .ok (.enter g0 args) w) (hcmp : ∀ a b, ok a → ok b → Fn P g0 [f a, f b] (.int .i64 (cf a b)))
    (nm gen : Nat) (l : List α) (hok : ∀ x ∈ l, ok x) {pn : List Nat} {σ : Store} {g : G} (hw : wd nm = k) (hσ : σ nm = .arr gen (l.map f)) (hpn : ∀ nm', nm' ∉ pn → σ nm' = .unused)
    (h0 : Fn P (ρ.f 6) [.sl .p [], .fn g0 []] (.tup [])) (hsz : l.length < 4611686018427387904) :
    CT P H (ρ.f 6) [.msl nm gen 0 l.length, .fn g0 []] pn σ g fun v σ' g' => v = .tup [] ∧ (∃ l' : List α, l'.Perm l ∧ (l'.Pairwise fun x y => ¬ cf y x < 0) ∧ σ' = ups σ nm (.arr gen (l'.map f))) ∧ g' = g := by
  by_cases hl : l = []
  · subst hl
    have := ct_of_fn (G := G) (H := H) (P := P) (f := ρ.f 6) (args := [.msl nm gen 0 0, .fn g0 []]) (r := .tup []) (pn := pn) (σ := σ) (g := g) (by simpa [er, hσ] using h0) rfl hpn
    refine CT_mono (fun v σ' g' h => ?_) this
    refine ⟨h.1, ⟨[], List.Perm.refl _, List.Pairwise.nil, ?_⟩, h.2.2⟩
    rw [h.2.1]
    exact (ups_same (by simpa using hσ)).symm
  refine ⟨h0.1, fun J lc hst hM hH w S F θ xs hs hargs => ?_⟩
  obtain ⟨hlen, hrep⟩ := hargs
  match xs, hlen with
  | [x, y], _ =>
  have hx := hrep 0 _ x rfl rfl
  have hy := hrep 1 _ y rfl rfl
  have hy0 : y = .func (.func g0) #[] #[] := by
    cases hy with
    | pure h =>
      cases h with
      | fn _ _ xs hl _ => match xs, hl with
        | [], _ => rfl
    | fn _ _ xs hl _ => match xs, hl with
      | [], _ => rfl
  subst hy0
  have hlen0 : 0 < l.length := List.length_pos_iff.2 hl
  obtain ⟨b, m, cap, hθ, hcap, rfl, hck, hle⟩ : ∃ b m cap, θ nm = some (b, m) ∧ l.length ≤ cap ∧ x = .slice (some ⟨b, 0 * m, none⟩) l.length cap ∧ CapOk w b ((0 + cap) * m) ∧ 0 + l.length ≤ (l.map f).length := by
    cases hx with
    | pure h => cases h
    | msl _ _ _ _ _ _ _ _ h =>
      rcases h _ hσ with h | ⟨h, _⟩
      · exact h
      · omega
  have hlv : (σ nm).live := live_arr hσ
  have hblk := hs.hblk nm
  rw [hσ] at hblk
  simp only [BlkOk] at hblk
  rcases hblk with ⟨hn, _⟩ | ⟨b', m', c, e, hθ', hb, hrows, ⟨hm, hsz'⟩, hcells⟩
  · rw [hθ] at hn; cases hn
  rw [hθ] at hθ'
  injection hθ' with hθ'
  injection hθ' with e1 e2
  subst e1 e2
  rw [hw] at hm
  subst hm
  have hgl : b < w.heap.size := (Array.getElem?_eq_some_iff.1 hb).1
  have hcs : l.length * m ≤ c.size := by simpa using hsz'
  have hnS : ∀ b', S b' → b' ≠ b := fun b' hb' e => hs.hliveS b' ⟨nm, m, hlv, by rw [e]; exact hθ⟩ hb'
  have hpos : ∀ i j, i < l.length → j < m → i * m + j < c.size := fun i j hi hj => by
    have : (i + 1) * m ≤ l.length * m := Nat.mul_le_mul_right _ hi
    rw [Nat.add_mul] at this
    omega
  have hex : ∀ i (hi : i < l.length), ∃ E : EC f ok m w S, E.e = l[i] ∧ ∀ j, j < m → E.cs[j]? = c[i * m + j]? := fun i hi => by
    obtain ⟨lv, q1, q2, q3⟩ := hf l[i]
    have hcell : ∀ j v, lv[j]? = some v → ∃ y, c[i * m + j]? = some y ∧ RepP w S v y := fun j v hv => hcells i j (f l[i]) v (by rw [List.getElem?_map, List.getElem?_eq_getElem hi]; rfl) (by rw [q1]; exact hv)
    have hget : ∀ j, j < m → ((List.range m).map fun j => c.getD (i * m + j) undef)[j]? = c[i * m + j]? := fun j hj => by
      have := hpos i j hi hj
      simp [hj, Array.getD, this]
    refine ⟨⟨l[i], (List.range m).map fun j => c.getD (i * m + j) undef, by simp, fun v hv => ?_, hok _ (List.getElem_mem hi), ?_⟩, rfl, hget⟩
    · obtain ⟨j, hj⟩ := List.getElem?_of_mem hv
      have hjm : j < m := by have := (List.getElem?_eq_some_iff.1 hj).1; simpa using this
      obtain ⟨u, hu⟩ : ∃ u, lv[j]? = some u := ⟨lv[j], List.getElem?_eq_getElem (by omega)⟩
      obtain ⟨y, hy1, hy2⟩ := hcell j u hu
      rw [hget j hjm, hy1] at hj
      cases hj
      exact rep_one hy2 (by rw [List.all_eq_true] at q3; exact q3 u (List.mem_of_getElem? hu))
    · rw [q1]
      refine .agg lv _ (by simp [q2]) fun j v x hv hxv => ?_
      have hjm : j < m := by have := (List.getElem?_eq_some_iff.1 hv).1; omega
      obtain ⟨y, hy1, hy2⟩ := hcell j v hv
      rw [hget j hjm, hy1] at hxv
      cases hxv
      exact hy2
  obtain ⟨el, hel⟩ : ∃ el : Fin l.length → EC f ok m w S, ∀ i, (el i).e = l[i.1] ∧ ∀ j, j < m → (el i).cs[j]? = c[i.1 * m + j]? :=
    ⟨fun i => (hex i.1 i.2).choose, fun i => (hex i.1 i.2).choose_spec⟩
  haveI : Inhabited (EC f ok m w S) := ⟨el ⟨0, hlen0⟩⟩
  obtain ⟨d, hd⟩ : ∃ d : Array (EC f ok m w S), d = Array.ofFn el := ⟨_, rfl⟩
  have hds : d.size = l.length := by rw [hd]; simp
  have hdg : ∀ i (hi : i < l.length), d[i]! = el ⟨i, hi⟩ := fun i hi => by
    rw [getElem!_pos d i (by omega)]
    simp [hd]
  have hH : Sort.HoldsK (fun E : EC f ok m w S => E.cs) m w b 0 d := by
    intro t ht
    have ht' : t < l.length * m := by rw [Sort.size_flatK, hds] at ht; exact ht
    have hdiv : t / m < l.length := Nat.div_lt_of_lt_mul (by rw [Nat.mul_comm]; exact ht')
    have hmod : t % m < m := Nat.mod_lt _ k0
    have htm : t / m * m + t % m = t := by rw [Nat.mul_comm]; exact Nat.div_add_mod t m
    refine ⟨?_, ?_⟩
    · rw [Nat.zero_add, cell_of_row w b t c e (0, 0) hb]
      show _ = some (id (Sort.flatK _ m d)[t]!)
      rw [Sort.get_flatK _ _ _ _ (by rw [hds]; exact ht'), hdg _ hdiv]
      have h2 := (hel ⟨t / m, hdiv⟩).2 (t % m) hmod
      simp only at h2
      rw [htm] at h2
      have h3 : t < c.size := by omega
      rw [Array.getElem?_eq_getElem h3] at h2 ⊢
      simp only [id]
      congr 1
      rw [getElem!_pos (el ⟨t / m, hdiv⟩).cs (t % m) (List.getElem?_eq_some_iff.1 h2).1]
      exact (List.getElem?_eq_some_iff.1 h2).2.symm
    · simp [World.frozen?, hb]
  have hheap : ∀ (mm : Nat) (dk : Array (EC f ok m w S)) (os : Array Go.Obj) (b' : Nat), b' ≠ b → b' < w.heap.size → (Go.Proofs.sortWorldK (fun E : EC f ok m w S => E.cs) m w b 0 mm dk os).heap[b']? = w.heap[b']? := fun mm dk os b' hne hlt => by
    unfold Go.Proofs.sortWorldK Sort.putRowK
    rw [putRow_setI (Sort.ahead w mm) b c e (0, 0) _ hb]
    show ((World.setRow _ b _).heap ++ os)[b']? = _
    rw [Array.getElem?_append_left (by rw [setRow_size]; exact hlt), setRow_old _ _ _ hne]
    rfl
  have hcmp' : Go.Proofs.CmpLays P g0 #[] (fun E : EC f ok m w S => E.cs) m (fun x y => cf x.e y.e) b 0 d.size w := by
    intro mm os dk hdk x y
    have hc := (hcmp x.e y.e x.ok y.ok).2 (Go.Proofs.sortWorldK (fun E : EC f ok m w S => E.cs) m w b 0 mm dk os) S [.agg x.cs.toArray, .agg y.cs.toArray] (fun b' hb' => by
        have h1 := hs.hS b' hb'
        unfold Go.Proofs.sortWorldK Sort.putRowK
        rw [putRow_setI (Sort.ahead w mm) b c e (0, 0) _ hb]
        show b' < ((World.setRow _ b _).heap ++ os).size
        rw [Array.size_append, setRow_size]
        show b' < w.heap.size + _
        omega)
      ⟨rfl, fun i v z h1 h2 => by
        match i with
        | 0 => cases h1; cases h2; exact x.rep.mono (fun b' hb' => hheap mm dk os b' (hnS b' hb') (hs.hS b' hb')) fun _ h => h
        | 1 => cases h1; cases h2; exact y.rep.mono (fun b' hb' => hheap mm dk os b' (hnS b' hb') (hs.hS b' hb')) fun _ h => h
        | i + 2 => cases h1⟩
    refine ((callsIn_wide (n := 0)).1 hc).mono fun en w' he' => ?_
    obtain ⟨x', S', rfl, hr, _, _, hgw⟩ := he'
    cases hr
    exact ⟨rfl, grow_eq hgw⟩
  have hO' : Sort.SWO (Go.Proofs.ltOf fun x y : EC f ok m w S => cf x.e y.e) := ⟨fun x => hO.irrefl x.e, fun x y z => hO.trans x.e y.e z.e, fun x y z => hO.ntrans x.e y.e z.e⟩
  have hcall := (callsIn_wide (n := 0)).2 (Go.Proofs.AnyQ.slices_SortFunc Ly m aE zE (fun E : EC f ok m w S => E.cs) (fun x => x.hl) (fun x => x.h1) (fun x y => cf x.e y.e) hO' g0 #[] b 0 cap d w eg hcmp' hH hgl (by rw [hds]; exact hsz))
  rw [hds] at hcall
  simp only [Nat.zero_mul]
  refine hcall.mono fun en w' he' => ?_
  obtain ⟨rfl, d', n, os, hperm, hsorted, rfl⟩ := he'
  have hd's : d'.size = l.length := hperm.1.trans hds
  obtain ⟨l', hl'⟩ : ∃ l' : List α, l' = d'.toList.map EC.e := ⟨_, rfl⟩
  have hll : l'.length = l.length := by rw [hl']; simp [hd's]
  have hpl : l'.Perm l := by
    have h1 := hperm.2.2
    rw [← hds] at h1
    rw [show d'.extract 0 d.size = d' from by rw [show d.size = d'.size by omega]; simp, show d.extract 0 d.size = d by simp] at h1
    have h2 := h1.map EC.e
    rw [hl']
    refine h2.trans ?_
    have : d.toList.map EC.e = l := by
      apply List.ext_getElem
      · simp [hds]
      · intro i h3 h4
        simp only [List.getElem_map, Array.getElem_toList]
        have := hdg i h4
        rw [getElem!_pos d i (by omega)] at this
        rw [this]
        exact (hel ⟨i, h4⟩).1
    rw [this]
  have hsl : l'.Pairwise fun x y => ¬ cf y x < 0 := by
    rw [hl', List.pairwise_iff_getElem]
    intro i j hi hj hij
    have hi' : i < d'.size := by simpa using hi
    have hj' : j < d'.size := by simpa using hj
    have := hsorted i j (Nat.zero_le _) hij (by omega)
    rw [getElem!_pos d' i hi', getElem!_pos d' j hj'] at this
    simp only [List.getElem_map, Array.getElem_toList]
    simpa [Go.Proofs.ltOf] using this
  have hg1 : Grow w (Sort.ahead w n) := ⟨Nat.le_refl _, rfl, rfl, ⟨rfl, by simp⟩, fun _ _ => rfl⟩
  have hs1 := St.grow hst hs hg1 (N := fun _ => False) (fun b hb => hb.elim) (fun b hb => hb.elim)
  have hf1 := Fr.grow hs hg1 (N := fun _ => False) (fun b hb => hb.elim)
  have hb1 : (Sort.ahead w n).heap[b]? = some (.cells c e (0, 0)) := hb
  unfold Go.Proofs.sortWorldK Sort.putRowK
  rw [putRow_setI _ b c e (0, 0) _ hb1]
  obtain ⟨c', hc'⟩ : ∃ c', c' = Sort.putCells id 0 (Sort.flatK (fun E : EC f ok m w S => E.cs) m d') c := ⟨_, rfl⟩
  rw [← hc']
  have hcz : c'.size = c.size := by rw [hc']; simp [Sort.putCells]
  have hf2 : Fr (Sort.ahead w n) (fun b => S b ∨ False) F θ σ ((Sort.ahead w n).setRow b c') (fun b => S b ∨ False) F θ (ups σ nm (.arr gen (l'.map f))) := by
    refine Fr.write hs1 nm b m c c' e _ hlv hθ hb1 hcz ?_
    rw [hσ]
    exact ⟨l'.map f, .inl ⟨rfl, by simp [hll]⟩⟩
  have hk : BlkOk ((Sort.ahead w n).setRow b c') (fun b => S b ∨ False) θ (ups σ nm (.arr gen (l'.map f))) lc nm (.arr gen (l'.map f)) := by
    refine .inr ⟨b, m, c', e, hθ, setRow_heap _ b c c' _ _ hb1, fun row hrow => ?_, ⟨hw.symm, by simp [hll, hcz]; exact hcs⟩, fun i j row v h1 h2 => ?_⟩
    · obtain ⟨z, _, rfl⟩ := List.mem_map.1 hrow
      obtain ⟨lv, q1, q2, _⟩ := hf z
      rw [q1]
      exact q2
    · rw [List.getElem?_map] at h1
      cases h3 : l'[i]? with
      | none => rw [h3] at h1; cases h1
      | some z =>
        rw [h3] at h1
        cases h1
        have hi : i < l'.length := (List.getElem?_eq_some_iff.1 h3).1
        have hid : i < d'.size := by omega
        obtain ⟨lv, q1, q2, q3⟩ := hf z
        rw [q1] at h2
        have hjm : j < m := by have := (List.getElem?_eq_some_iff.1 h2).1; simp only [V.cells] at this; omega
        have hez : (d'[i]!).e = z := by
          have := (List.getElem?_eq_some_iff.1 h3).2
          simp only [hl', List.getElem_map, Array.getElem_toList] at this
          rw [getElem!_pos d' i hid]
          exact this
        have hrp := (d'[i]!).rep
        rw [hez, q1] at hrp
        obtain ⟨_, hrp2⟩ := repP_agg hrp
        obtain ⟨y, hy1, hy2⟩ := hrp2 j v h2
        have hp := hpos i j (by omega) hjm
        have hlt : i * m + j < d'.size * m := by
          have : (i + 1) * m ≤ d'.size * m := Nat.mul_le_mul_right _ hid
          rw [Nat.add_mul] at this
          omega
        refine ⟨y, ?_, hy2.mono (fun b' hb' => ?_) fun _ h => .inl h⟩
        · rw [hc', putCells_getI, Array.getElem?_eq_getElem hp]
          simp only [Option.map_some, Sort.size_flatK, if_pos hlt]
          rw [Sort.get_flatK _ _ _ _ hlt]
          have e1 : (i * m + j) / m = i := by rw [Nat.mul_comm, Nat.mul_add_div k0, Nat.div_eq_of_lt hjm, Nat.add_zero]
          have e2 : (i * m + j) % m = j := by rw [Nat.mul_comm, Nat.mul_add_mod, Nat.mod_eq_of_lt hjm]
          rw [e1, e2]
          congr 1
          have hy3 : (d'[i]!).cs[j]? = some y := by simpa using hy1
          rw [getElem!_pos (d'[i]!).cs j (List.getElem?_eq_some_iff.1 hy3).1]
          exact (List.getElem?_eq_some_iff.1 hy3).2
        · rw [setRow_old _ _ _ (hnS b' hb')]
          rfl
  have hs2 := St.write hst hs1 nm b m c' _ hlv hθ hf2 hk
  have hg3 : Grow ((Sort.ahead w n).setRow b c') (Sort.grow ((Sort.ahead w n).setRow b c') os) :=
    ⟨by simp [Sort.grow], rfl, rfl, Out.refl _, fun b' hb' => by simp [Sort.grow, Array.getElem?_append_left hb']⟩
  have hs3 := St.grow hst hs2 hg3 (N := fun _ => False) (fun b hb => hb.elim) (fun b hb => hb.elim)
  have hf3 := Fr.grow hs2 hg3 (N := fun _ => False) (fun b hb => hb.elim)
  refine ⟨.tup [], _, _, g, _, F, θ, rfl, ⟨rfl, ⟨l', hpl, hsl, rfl⟩, rfl⟩, hs3, .pure (.tup [] [] rfl fun i v x h1 h2 => by simp at h1), (hf1.trans hs1 hf2).trans hs2 hf3, fun nm' hnm => ?_⟩
  have h5 : nm' ≠ nm := fun h => by rw [h] at hnm; have := hpn nm hnm; rw [this] at hσ; cases hσ
  rw [upt_ne σ _ h5]
  exact hpn nm' hnm
end Hm
end
section
namespace Go.Proofs
open Go.Shelf
def Tryz.sortA_ren : Go.Shelf.Ren := ⟨fun | 6 => 146 | 14 => 157 | 15 => 158 | 20 => 160 | 21 => 161 | 22 => 162 | 23 => 163 | 24 => 164 | 25 => 165 | 26 => 166 | 27 => 167 | 28 => 168 | 29 => 169 | 46 => 178 | 47 => 179 | 48 => 180 | 49 => 181 | 50 => 182 | 57 => 186 | n => n, fun | 0 => 0 | 3 => 3 | 4 => 4 | 5 => 5 | 9 => 9 | 22 => 26 | 25 => 107 | 39 => 192 | 45 => 200 | 46 => 201 | 50 => 177 | 53 => 207 | 55 => 209 | 66 => 215 | 70 => 219 | 76 => 223 | 77 => 224 | 24 => 52 | n => n, fun n => n⟩
theorem Tryz.sortA_lays : SlLaysF0.n6 Tryz.prog Tryz.sortA_ren :=
  {
    mixed := by kernel_rfl,
    f6 := ⟨Tryz.f146.name, by kernel_rfl, Tryz.func146.trans (congrArg some (by kernel_rfl))⟩,
    f14 := ⟨Tryz.f157.name, by kernel_rfl, Tryz.func157.trans (congrArg some (by kernel_rfl))⟩,
    f15 := Tryz.func158.trans (congrArg some (by kernel_rfl)),
    f20 := ⟨Tryz.f160.name, by kernel_rfl, Tryz.func160.trans (congrArg some (by kernel_rfl))⟩,
    f21 := ⟨Tryz.f161.name, by kernel_rfl, Tryz.func161.trans (congrArg some (by kernel_rfl))⟩,
    f22 := ⟨Tryz.f162.name, by kernel_rfl, Tryz.func162.trans (congrArg some (by kernel_rfl))⟩,
    f23 := ⟨Tryz.f163.name, by kernel_rfl, Tryz.func163.trans (congrArg some (by kernel_rfl))⟩,
    f24 := ⟨Tryz.f164.name, by kernel_rfl, Tryz.func164.trans (congrArg some (by kernel_rfl))⟩,
    f25 := ⟨Tryz.f165.name, by kernel_rfl, Tryz.func165.trans (congrArg some (by kernel_rfl))⟩,
    f26 := ⟨Tryz.f166.name, by kernel_rfl, Tryz.func166.trans (congrArg some (by kernel_rfl))⟩,
    f27 := ⟨Tryz.f167.name, by kernel_rfl, Tryz.func167.trans (congrArg some (by kernel_rfl))⟩,
    f28 := Tryz.func168.trans (congrArg some (by kernel_rfl)),
    f29 := Tryz.func169.trans (congrArg some (by kernel_rfl)),
    f46 := ⟨Tryz.f178.name, by kernel_rfl, Tryz.func178.trans (congrArg some (by kernel_rfl))⟩,
    f47 := Tryz.func179.trans (congrArg some (by kernel_rfl)),
    f48 := Tryz.func180.trans (congrArg some (by kernel_rfl)),
    f49 := ⟨Tryz.f181.name, by kernel_rfl, Tryz.func181.trans (congrArg some (by kernel_rfl))⟩,
    f50 := ⟨Tryz.f182.name, by kernel_rfl, Tryz.func182.trans (congrArg some (by kernel_rfl))⟩,
    f57 := ⟨Tryz.f186.name, by kernel_rfl, Tryz.func186.trans (congrArg some (by kernel_rfl))⟩,
    t0 := Tryz.underlying0,
    a0 := Tryz.isAgg0,
    z0 := Tryz.sizeOf0,
    v0 := Tryz.zeroValue0,
    t3 := Tryz.underlying3,
    a3 := Tryz.isAgg3,
    z3 := Tryz.sizeOf3,
    v3 := Tryz.zeroValue3,
    t4 := Tryz.underlying4,
    a4 := Tryz.isAgg4,
    z4 := Tryz.sizeOf4,
    v4 := Tryz.zeroValue4,
    t5 := Tryz.underlying5,
    a5 := Tryz.isAgg5,
    z5 := Tryz.sizeOf5,
    v5 := Tryz.zeroValue5,
    t9 := Tryz.underlying9,
    a9 := Tryz.isAgg9,
    z9 := Tryz.sizeOf9,
    v9 := Tryz.zeroValue9,
    t22 := Tryz.underlying26,
    a22 := Tryz.isAgg26,
    z22 := Tryz.sizeOf26,
    v22 := Tryz.zeroValue26,
    t25 := Tryz.underlying107,
    a25 := Tryz.isAgg107,
    z25 := Tryz.sizeOf107,
    v25 := Tryz.zeroValue107,
    t39 := Tryz.underlying192,
    a39 := Tryz.isAgg192,
    z39 := Tryz.sizeOf192,
    v39 := Tryz.zeroValue192,
    t45 := Tryz.underlying200,
    a45 := Tryz.isAgg200,
    z45 := Tryz.sizeOf200,
    v45 := Tryz.zeroValue200,
    t46 := Tryz.underlying201,
    a46 := Tryz.isAgg201,
    z46 := Tryz.sizeOf201,
    v46 := Tryz.zeroValue201,
    t50 := Tryz.underlying177,
    a50 := Tryz.isAgg177,
    z50 := Tryz.sizeOf177,
    v50 := Tryz.zeroValue177,
    t53 := Tryz.underlying207,
    a53 := Tryz.isAgg207,
    z53 := Tryz.sizeOf207,
    v53 := Tryz.zeroValue207,
    t55 := Tryz.underlying209,
    a55 := Tryz.isAgg209,
    z55 := Tryz.sizeOf209,
    v55 := Tryz.zeroValue209,
    t66 := Tryz.underlying215,
    a66 := Tryz.isAgg215,
    z66 := Tryz.sizeOf215,
    v66 := Tryz.zeroValue215,
    t70 := Tryz.underlying219,
    a70 := Tryz.isAgg219,
    z70 := Tryz.sizeOf219,
    v70 := Tryz.zeroValue219,
    t76 := Tryz.underlying223,
    a76 := Tryz.isAgg223,
    z76 := Tryz.sizeOf223,
    v76 := Tryz.zeroValue223,
    t77 := Tryz.underlying224,
    a77 := Tryz.isAgg224,
    z77 := Tryz.sizeOf224,
    v77 := Tryz.zeroValue224 }
end Go.Proofs
end
section
namespace Hm
open Go
set_option maxRecDepth 100000
set_option maxHeartbeats 1000000
def c_math_bits_Len64 : Cmd :=
 (qS [qc 2 0]
 (qT (qS [qm 3 0, qq 4 (.bin .geq false [] (.t 3) (.c (.int .u64 4294967296)))]
 (.cond (.t 4) (qS [qm 5 0, qq 6 (.bin .shr false [] (.t 5) (.c (.int .u64 32))), qm 0 6]
 (.ops [qc 2 32])) .skip))
 (qT (qS [qm 7 0, qq 8 (.bin .geq false [] (.t 7) (.c (.int .u64 65536)))]
 (.cond (.t 8) (qS [qm 9 0, qq 10 (.bin .shr false [] (.t 9) (.c (.int .u64 16))), qm 0 10]
 (.ops [qm 11 2, qv 12 .add [] 11 16, qm 2 12])) .skip))
 (qT (qS [qm 13 0, qq 14 (.bin .geq false [] (.t 13) (.c (.int .u64 256)))]
 (.cond (.t 14) (qS [qm 15 0, qq 16 (.bin .shr false [] (.t 15) (.c (.int .u64 8))), qm 0 16]
 (.ops [qm 17 2, qv 18 .add [] 17 8, qm 2 18])) .skip))
 (.seq (.ops [qm 19 2, qm 20 0, qq 21 (.conv .u8 (.t 20)), qq 22 (.index (.c (.str [0, 1, 2, 2, 3, 3, 3, 3, 4, 4, 4, 4, 4, 4, 4, 4, 5, 5, 5, 5, 5, 5, 5, 5, 5, 5, 5, 5, 5, 5, 5, 5, 6, 6, 6, 6, 6, 6, 6, 6, 6, 6, 6, 6, 6, 6, 6, 6, 6, 6, 6, 6, 6, 6, 6, 6, 6, 6, 6, 6, 6, 6, 6, 6, 7, 7, 7, 7, 7, 7, 7, 7, 7, 7, 7, 7, 7, 7, 7, 7, 7, 7, 7, 7, 7, 7, 7, 7, 7, 7, 7, 7, 7, 7, 7, 7, 7, 7, 7, 7, 7, 7, 7, 7, 7, 7, 7, 7, 7, 7, 7, 7, 7, 7, 7, 7, 7, 7, 7, 7, 7, 7, 7, 7, 7, 7, 7, 7, 8, 8, 8, 8, 8, 8, 8, 8, 8, 8, 8, 8, 8, 8, 8, 8, 8, 8, 8, 8, 8, 8, 8, 8, 8, 8, 8, 8, 8, 8, 8, 8, 8, 8, 8, 8, 8, 8, 8, 8, 8, 8, 8, 8, 8, 8, 8, 8, 8, 8, 8, 8, 8, 8, 8, 8, 8, 8, 8, 8, 8, 8, 8, 8, 8, 8, 8, 8, 8, 8, 8, 8, 8, 8, 8, 8, 8, 8, 8, 8, 8, 8, 8, 8, 8, 8, 8, 8, 8, 8, 8, 8, 8, 8, 8, 8, 8, 8, 8, 8, 8, 8, 8, 8, 8, 8, 8, 8, 8, 8, 8, 8, 8, 8, 8, 8, 8, 8, 8, 8, 8, 8, 8, 8, 8, 8, 8, 8])) (.t 21)), qq 23 (.conv .i64 (.t 22)), qu 24 .add [] 19 23, qm 2 24]) .ret)))))
def r_math_bits_Len64 : List RVar := [.tmp 2]
def n_math_bits_Len64 : Nat := 25
theorem k_math_bits_Len64 : chkFn Go.Proofs.Tryz.prog 169 n_math_bits_Len64 r_math_bits_Len64 c_math_bits_Len64 = true := by kernel_rfl
theorem f_bits_Len64_0 : Fc Go.Proofs.Tryz.prog 169 [.int .u64 0] (.int .i64 0) := by
  refine Fn.step mixed k_math_bits_Len64 ?_
  repeat' (first | refine i_len rfl ?_ | refine i_s rfl ?_ | refine i_lenm rfl rfl rfl ?_ | refine sw ?_ | refine i_s0 rfl ?_ | refine i_gt rfl ?_ | refine i_gf rfl ?_ | refine i_gd rfl ?_ | refine c_t rfl ?_ | refine c_f rfl ?_ | refine jc rfl ?_ | refine ja rfl rfl ?_ | refine jb rfl rfl ?_ | refine jg rfl rfl ?_ | refine jf rfl rfl ?_ | refine jd rfl rfl ?_ | refine je rfl rfl ?_ | refine jh rfl rfl ?_ | refine i_stb rfl ?_ | refine i_alloc rfl ?_ | refine i_box rfl rfl ?_ | refine i_nv rfl ?_ | (refine sp ?_ ?_ <;> try intro h) | fail)
  refine i_ix rfl rfl (by decide) (c := 0) (by decide +kernel) ?_
  repeat' (first | refine i_len rfl ?_ | refine i_s rfl ?_ | refine i_lenm rfl rfl rfl ?_ | refine sw ?_ | refine i_s0 rfl ?_ | refine i_gt rfl ?_ | refine i_gf rfl ?_ | refine i_gd rfl ?_ | refine c_t rfl ?_ | refine c_f rfl ?_ | refine jc rfl ?_ | refine ja rfl rfl ?_ | refine jb rfl rfl ?_ | refine jg rfl rfl ?_ | refine jf rfl rfl ?_ | refine jd rfl rfl ?_ | refine je rfl rfl ?_ | refine jh rfl rfl ?_ | refine i_stb rfl ?_ | refine i_alloc rfl ?_ | refine i_box rfl rfl ?_ | refine i_nv rfl ?_ | (refine sp ?_ ?_ <;> try intro h) | fail)
  refine i_conv (n := 0) rfl ⟨by decide, by decide⟩ ?_
  repeat' (first | refine i_len rfl ?_ | refine i_s rfl ?_ | refine i_lenm rfl rfl rfl ?_ | refine sw ?_ | refine i_s0 rfl ?_ | refine i_gt rfl ?_ | refine i_gf rfl ?_ | refine i_gd rfl ?_ | refine c_t rfl ?_ | refine c_f rfl ?_ | refine jc rfl ?_ | refine ja rfl rfl ?_ | refine jb rfl rfl ?_ | refine jg rfl rfl ?_ | refine jf rfl rfl ?_ | refine jd rfl rfl ?_ | refine je rfl rfl ?_ | refine jh rfl rfl ?_ | refine i_stb rfl ?_ | refine i_alloc rfl ?_ | refine i_box rfl rfl ?_ | refine i_nv rfl ?_ | (refine sp ?_ ?_ <;> try intro h) | fail)
  exact e_ret ⟨rfl, _, rfl, rfl⟩
def c_math_bits_Len : Cmd :=
 (qS [qc 2 0]
 (qT (.cond (.c (.bool false)) (.seq (.ops [qm 3 0, qq 4 (.conv .u32 (.t 3)), qk 5 168 [4], qm 2 5]) .ret) .skip)
 (.seq (.ops [qm 6 0, qk 7 169 [6], qm 2 7]) .ret)))
def r_math_bits_Len : List RVar := [.tmp 2]
def n_math_bits_Len : Nat := 8
theorem k_math_bits_Len : chkFn Go.Proofs.Tryz.prog 158 n_math_bits_Len r_math_bits_Len c_math_bits_Len = true := by kernel_rfl
theorem f_bits_Len_0 : Fc Go.Proofs.Tryz.prog 158 [.int .u64 0] (.int .i64 0) := by
  refine Fn.step mixed k_math_bits_Len ?_
  repeat' (first | refine i_len rfl ?_ | refine i_s rfl ?_ | refine i_lenm rfl rfl rfl ?_ | refine sw ?_ | refine i_s0 rfl ?_ | refine i_gt rfl ?_ | refine i_gf rfl ?_ | refine i_gd rfl ?_ | refine c_t rfl ?_ | refine c_f rfl ?_ | refine jc rfl ?_ | refine ja rfl rfl ?_ | refine jb rfl rfl ?_ | refine jg rfl rfl ?_ | refine jf rfl rfl ?_ | refine jd rfl rfl ?_ | refine je rfl rfl ?_ | refine jh rfl rfl ?_ | refine i_stb rfl ?_ | refine i_alloc rfl ?_ | refine i_box rfl rfl ?_ | refine i_nv rfl ?_ | (refine sp ?_ ?_ <;> try intro h) | refine sf rfl rfl f_bits_Len64_0 ?_ | fail)
  exact e_ret ⟨rfl, _, rfl, rfl⟩
end Hm
end
section
namespace Hm
open Go
set_option maxRecDepth 100000
set_option maxHeartbeats 4000000
def c_slices_insertionSortCmpFunc_Atom : Cmd :=
 (qS [qm 10 1, qv 11 .add [] 10 1, qm 8 11]
 (.block 0 (.loop (qT (qS [qm 12 8, qm 13 2, qu 14 .lss [] 12 13]
 (.cond (.t 14) .skip (.exit 0)))
 (qT (.block 1 (qS [qm 17 8, qm 9 17]
 (.block 2 (.loop (qT (qS [qm 18 9, qm 19 1, qu 20 .gtr [] 18 19, qm 21 20, qg 22 21 true (.mov (.t 3)), qg 23 21 true (.mov (.t 0)), qg 24 21 true (.mov (.t 9)), qg 25 21 true (.iaddr 2 (.t 23) (.t 24)), qg 26 21 true (.load true 2 (.t 25)), qg 27 21 true (.mov (.t 0)), qg 28 21 true (.mov (.t 9)), qg 29 21 true (.bin .sub false [] (.t 28) (.c (.int .i64 1))), qg 30 21 true (.iaddr 2 (.t 27) (.t 29)), qg 31 21 true (.load true 2 (.t 30)), qg 32 21 true (.call .f (.t 22) [.t 26, .t 31]), qg 33 21 true (.bin .lss false [] (.t 32) (.c (.int .i64 0))), qq 34 (.pick (.t 21) (.t 33) (.c (.bool false)))]
 (.cond (.t 34) .skip (.exit 2)))
 (qT (.block 3 (.ops [qm 37 0, qm 38 9, qm 39 0, qm 40 9, qv 41 .sub [] 40 1, qm 42 0, qm 43 9, qv 44 .sub [] 43 1, qi 45 2 42 44, qL 46 2 45, qm 47 0, qm 48 9, qi 49 2 47 48, qL 50 2 49, qi 51 2 37 38, qs 2 51 46, qi 52 2 39 41, qs 2 52 50]))
 (.ops [qm 35 9, qv 36 .sub [] 35 1, qm 9 36])))))))
 (.ops [qm 15 8, qv 16 .add [] 15 1, qm 8 16]))))))
def r_slices_insertionSortCmpFunc_Atom : List RVar := []
def n_slices_insertionSortCmpFunc_Atom : Nat := 53
theorem k_slices_insertionSortCmpFunc_Atom : chkFn Go.Proofs.Tryz.prog 160 n_slices_insertionSortCmpFunc_Atom r_slices_insertionSortCmpFunc_Atom c_slices_insertionSortCmpFunc_Atom = true := by kernel_rfl
theorem f_insertionSortA_0 (v : V) (hv : closedB [] v = true) : Fc Go.Proofs.Tryz.prog 160 [.sl .p [], .int .i64 0, .int .i64 0, v] (.tup []) := by
  refine Fn.step mixed k_slices_insertionSortCmpFunc_Atom ?_
  repeat' (first | refine i_len rfl ?_ | refine i_s rfl ?_ | refine i_lenm rfl rfl rfl ?_ | refine sw ?_ | refine i_s0 rfl ?_ | refine i_gt rfl ?_ | refine i_gf rfl ?_ | refine i_gd rfl ?_ | refine c_t rfl ?_ | refine c_f rfl ?_ | refine jc rfl ?_ | refine ja rfl rfl ?_ | refine jb rfl rfl ?_ | refine jg rfl rfl ?_ | refine jf rfl rfl ?_ | refine jd rfl rfl ?_ | refine je rfl rfl ?_ | refine jh rfl rfl ?_ | refine i_stb rfl ?_ | refine i_alloc rfl ?_ | refine i_box rfl rfl ?_ | refine i_nv rfl ?_ | (refine sp ?_ ?_ <;> try intro h) | fail)
  refine c_lp (ι := Unit) (fun _ => [(0, .sl .p []), (1, .int .i64 0), (2, .int .i64 0), (8, .int .i64 1)]) (fun _ => []) (fun _ => True) (fun _ => 0) () trivial ft fun _ _ => ?_
  repeat' (first | refine i_len rfl ?_ | refine i_s rfl ?_ | refine i_lenm rfl rfl rfl ?_ | refine sw ?_ | refine i_s0 rfl ?_ | refine i_gt rfl ?_ | refine i_gf rfl ?_ | refine i_gd rfl ?_ | refine c_t rfl ?_ | refine c_f rfl ?_ | refine jc rfl ?_ | refine ja rfl rfl ?_ | refine jb rfl rfl ?_ | refine jg rfl rfl ?_ | refine jf rfl rfl ?_ | refine jd rfl rfl ?_ | refine je rfl rfl ?_ | refine jh rfl rfl ?_ | refine i_stb rfl ?_ | refine i_alloc rfl ?_ | refine i_box rfl rfl ?_ | refine i_nv rfl ?_ | (refine sp ?_ ?_ <;> try intro h) | fail)
  refine e_end ⟨rfl, _, rfl, rfl⟩
def c_slices_pdqsortCmpFunc_Atom : Cmd :=
 (qS [qb 10 true]
 (qS [qb 11 true]
 (.block 0 (.loop (.block 1 (qS [qm 21 2, qm 22 1, qu 23 .sub [] 21 22, qm 12 23]
 (qT (qS [qm 24 12, qv 25 .leq [] 24 12]
 (.cond (.t 25) (.seq (.ops [qm 26 0, qm 27 1, qm 28 2, qm 29 4, qk 30 160 [26, 27, 28, 29]]) .ret) .skip))
 (qT (qS [qm 31 3, qv 32 .eql [.i] 31 0]
 (.cond (.t 32) (.seq (.ops [qm 33 0, qm 34 1, qm 35 2, qm 36 4, qk 37 161 [33, 34, 35, 36]]) .ret) .skip))
 (qT (qS [qm 38 10, qq 39 (.not (.t 38))]
 (.cond (.t 39) (qS [qm 40 0, qm 41 1, qm 42 2, qm 43 4, qk 44 162 [40, 41, 42, 43]]
 (.ops [qm 45 3, qv 46 .sub [] 45 1, qm 3 46])) .skip))
 (qS [qm 48 0, qm 49 1, qm 50 2, qm 51 4, qk 52 163 [48, 49, 50, 51], qm 47 52, qq 53 (.extract (.t 47) 0), qq 54 (.extract (.t 47) 1), qm 13 53, qm 14 54]
 (qT (qS [qm 55 14, qv 56 .eql [.i] 55 2]
 (.cond (.t 56) (qS [qm 57 0, qm 58 1, qm 59 2, qm 60 4, qk 61 164 [57, 58, 59, 60]]
 (qS [qm 62 2, qv 63 .sub [] 62 1, qm 64 13, qm 65 1, qu 66 .sub [] 64 65, qu 67 .sub [] 63 66, qm 13 67]
 (.ops [qc 14 1]))) .skip))
 (qT (qS [qm 68 10, qm 69 68, qg 70 69 true (.mov (.t 11)), qq 71 (.pick (.t 69) (.t 70) (.c (.bool false))), qm 72 71, qg 73 72 true (.mov (.t 14)), qg 74 72 true (.bin .eql false [.i] (.t 73) (.c (.int .i64 1))), qq 75 (.pick (.t 72) (.t 74) (.c (.bool false)))]
 (.cond (.t 75) (qS [qm 76 0, qm 77 1, qm 78 2, qm 79 4, qk 80 165 [76, 77, 78, 79]]
 (.cond (.t 80) .ret .skip)) .skip))
 (qT (qS [qm 81 1, qv 82 .gtr [] 81 0, qm 83 82, qg 84 83 true (.mov (.t 4)), qg 85 83 true (.mov (.t 0)), qg 86 83 true (.mov (.t 1)), qg 87 83 true (.bin .sub false [] (.t 86) (.c (.int .i64 1))), qg 88 83 true (.iaddr 2 (.t 85) (.t 87)), qg 89 83 true (.load true 2 (.t 88)), qg 90 83 true (.mov (.t 0)), qg 91 83 true (.mov (.t 13)), qg 92 83 true (.iaddr 2 (.t 90) (.t 91)), qg 93 83 true (.load true 2 (.t 92)), qg 94 83 true (.call .f (.t 84) [.t 89, .t 93]), qg 95 83 true (.bin .lss false [] (.t 94) (.c (.int .i64 0))), qg 96 83 true (.not (.t 95)), qq 97 (.pick (.t 83) (.t 96) (.c (.bool false)))]
 (.cond (.t 97) (qS [qm 98 0, qm 99 1, qm 100 2, qm 101 13, qm 102 4, qk 103 166 [98, 99, 100, 101, 102], qm 15 103]
 (qS [qm 104 15, qm 1 104]
 (.exit 1))) .skip))
 (qS [qm 106 0, qm 107 1, qm 108 2, qm 109 13, qm 110 4, qk 111 167 [106, 107, 108, 109, 110], qm 105 111, qq 112 (.extract (.t 105) 0), qq 113 (.extract (.t 105) 1), qm 16 112, qm 17 113]
 (qS [qm 114 17, qm 11 114]
 (qS [qm 115 16, qm 116 1, qu 117 .sub [] 115 116, qm 118 2, qm 119 16, qu 120 .sub [] 118 119, qm 18 117, qm 19 120]
 (qS [qm 121 12, qv 122 .quo [] 121 8, qm 20 122]
 (qS [qm 123 18, qm 124 19, qu 125 .lss [] 123 124]
 (.cond (.t 125) (qS [qm 126 18, qm 127 20, qu 128 .geq [] 126 127, qm 10 128]
 (qS [qm 129 0, qm 130 1, qm 131 16, qm 132 3, qm 133 4, qk 134 157 [129, 130, 131, 132, 133]]
 (.ops [qm 135 16, qv 136 .add [] 135 1, qm 1 136]))) (qS [qm 137 19, qm 138 20, qu 139 .geq [] 137 138, qm 10 139]
 (qS [qm 140 0, qm 141 16, qv 142 .add [] 141 1, qm 143 2, qm 144 3, qm 145 4, qk 146 157 [140, 142, 143, 144, 145]]
 (.ops [qm 147 16, qm 2 147]))))))))))))))))))))))
def r_slices_pdqsortCmpFunc_Atom : List RVar := []
def n_slices_pdqsortCmpFunc_Atom : Nat := 148
theorem k_slices_pdqsortCmpFunc_Atom : chkFn Go.Proofs.Tryz.prog 157 n_slices_pdqsortCmpFunc_Atom r_slices_pdqsortCmpFunc_Atom c_slices_pdqsortCmpFunc_Atom = true := by kernel_rfl
theorem f_pdqsortA_0 : Fc Go.Proofs.Tryz.prog 157 [.sl .p [], .int .i64 0, .int .i64 0, .int .i64 0, .fn 118 []] (.tup []) := by
  refine Fn.step mixed k_slices_pdqsortCmpFunc_Atom ?_
  repeat' (first | refine i_len rfl ?_ | refine i_s rfl ?_ | refine i_lenm rfl rfl rfl ?_ | refine sw ?_ | refine i_s0 rfl ?_ | refine i_gt rfl ?_ | refine i_gf rfl ?_ | refine i_gd rfl ?_ | refine c_t rfl ?_ | refine c_f rfl ?_ | refine jc rfl ?_ | refine ja rfl rfl ?_ | refine jb rfl rfl ?_ | refine jg rfl rfl ?_ | refine jf rfl rfl ?_ | refine jd rfl rfl ?_ | refine je rfl rfl ?_ | refine jh rfl rfl ?_ | refine i_stb rfl ?_ | refine i_alloc rfl ?_ | refine i_box rfl rfl ?_ | refine i_nv rfl ?_ | (refine sp ?_ ?_ <;> try intro h) | fail)
  refine c_lp (ι := Unit) (fun _ => [(0, .sl .p []), (1, .int .i64 0), (2, .int .i64 0), (3, .int .i64 0), (4, .fn 118 [])]) (fun _ => []) (fun _ => True) (fun _ => 0) () trivial ft fun _ _ => ?_
  repeat' (first | refine i_len rfl ?_ | refine i_s rfl ?_ | refine i_lenm rfl rfl rfl ?_ | refine sw ?_ | refine i_s0 rfl ?_ | refine i_gt rfl ?_ | refine i_gf rfl ?_ | refine i_gd rfl ?_ | refine c_t rfl ?_ | refine c_f rfl ?_ | refine jc rfl ?_ | refine ja rfl rfl ?_ | refine jb rfl rfl ?_ | refine jg rfl rfl ?_ | refine jf rfl rfl ?_ | refine jd rfl rfl ?_ | refine je rfl rfl ?_ | refine jh rfl rfl ?_ | refine i_stb rfl ?_ | refine i_alloc rfl ?_ | refine i_box rfl rfl ?_ | refine i_nv rfl ?_ | (refine sp ?_ ?_ <;> try intro h) | refine sf rfl rfl (f_insertionSortA_0 _ rfl) ?_ | fail)
  exact e_ret ⟨rfl, _, rfl, rfl⟩
def c_slices_SortFunc_Atom : Cmd :=
 (qS [qm 5 0, qn 6 5, qm 4 6]
 (.ops [qm 7 0, qm 8 4, qm 9 4, qq 10 (.conv .u64 (.t 9)), qk 11 158 [10], qm 12 1, qq 13 (.call .f (.c (.fn 157 [])) [.t 7, .c (.int .i64 0), .t 8, .t 11, .t 12])]))
def r_slices_SortFunc_Atom : List RVar := []
def n_slices_SortFunc_Atom : Nat := 14
theorem k_slices_SortFunc_Atom : chkFn Go.Proofs.Tryz.prog 146 n_slices_SortFunc_Atom r_slices_SortFunc_Atom c_slices_SortFunc_Atom = true := by kernel_rfl
theorem f_SortA_0 : Fc Go.Proofs.Tryz.prog 146 [.sl .p [], .fn 118 []] (.tup []) := by
  refine Fn.step mixed k_slices_SortFunc_Atom ?_
  repeat' (first | refine i_len rfl ?_ | refine i_s rfl ?_ | refine i_lenm rfl rfl rfl ?_ | refine sw ?_ | refine i_s0 rfl ?_ | refine i_gt rfl ?_ | refine i_gf rfl ?_ | refine i_gd rfl ?_ | refine c_t rfl ?_ | refine c_f rfl ?_ | refine jc rfl ?_ | refine ja rfl rfl ?_ | refine jb rfl rfl ?_ | refine jg rfl rfl ?_ | refine jf rfl rfl ?_ | refine jd rfl rfl ?_ | refine je rfl rfl ?_ | refine jh rfl rfl ?_ | refine i_stb rfl ?_ | refine i_alloc rfl ?_ | refine i_box rfl rfl ?_ | refine i_nv rfl ?_ | (refine sp ?_ ?_ <;> try intro h) | fail)
  refine i_conv (n := 0) rfl ⟨by decide, by decide⟩ ?_
  repeat' (first | refine i_len rfl ?_ | refine i_s rfl ?_ | refine i_lenm rfl rfl rfl ?_ | refine sw ?_ | refine i_s0 rfl ?_ | refine i_gt rfl ?_ | refine i_gf rfl ?_ | refine i_gd rfl ?_ | refine c_t rfl ?_ | refine c_f rfl ?_ | refine jc rfl ?_ | refine ja rfl rfl ?_ | refine jb rfl rfl ?_ | refine jg rfl rfl ?_ | refine jf rfl rfl ?_ | refine jd rfl rfl ?_ | refine je rfl rfl ?_ | refine jh rfl rfl ?_ | refine i_stb rfl ?_ | refine i_alloc rfl ?_ | refine i_box rfl rfl ?_ | refine i_nv rfl ?_ | (refine sp ?_ ?_ <;> try intro h) | refine sf rfl rfl f_bits_Len_0 ?_ | refine sf rfl rfl f_pdqsortA_0 ?_ | fail)
  refine e_end ⟨rfl, _, rfl, rfl⟩
theorem atomSWO : Go.Sort.SWO (Go.Proofs.ltOf atomOrd) := ⟨fun x => by
    unfold Go.Proofs.ltOf
    rw [atomOrd_zero.2 rfl]
    rfl, fun x y z h1 h2 => by
    unfold Go.Proofs.ltOf at *
    simp only [decide_eq_true_eq] at *
    exact atomOrd_trans h1 h2, fun x y z h1 h2 => by
    unfold Go.Proofs.ltOf at *
    simp only [decide_eq_false_iff_not] at *
    intro h3
    have e1 := atomOrd_neg x y
    have e2 := atomOrd_neg y z
    rcases Int.lt_or_eq_of_le (show atomOrd y x ≤ 0 by omega) with a | a
    · exact h2 (atomOrd_trans a h3)
    · have := atomOrd_zero.1 a
      subst this
      exact h2 h3⟩
theorem c_SortA {G : Type} {H : HT G} (nm gen : Nat) (l : List At) (hok : ∀ x ∈ l, AtOk x) {pn : List Nat} {σ : Store} {g : G} (hw : wd nm = 2) (hσ : σ nm = .arr gen (l.map atV)) (hpn : ∀ nm', σ nm' ≠ .unused → nm' ∈ pn) (hsz : l.length < 4611686018427387904) :
    Cc Go.Proofs.Tryz.prog H 146 [.msl nm gen 0 l.length, .fn 118 []] pn σ g fun v σ' g' => v = .tup [] ∧ (∃ l' : List At, l'.Perm l ∧ (l'.Pairwise fun x y => ¬ atomOrd y x < 0) ∧ σ' = ups σ nm (.arr gen (l'.map atV))) ∧ g' = g :=
  ⟨ct_sortF (ρ := Go.Proofs.Tryz.sortA_ren) Go.Proofs.Tryz.sortA_lays atV (fun x => AtOk x) 2 (by decide) Go.Proofs.Tryz.isAgg52 Go.Proofs.Tryz.sizeOf52 (fun x => ⟨_, rfl, rfl, rfl⟩) atomOrd atomSWO 118
    (Go.Proofs.enters_of Go.Proofs.Tryz.func118 (by kernel_rfl) rfl) (fun a b ha hb => (f_domain_Compare a b ha hb).out) nm gen l hok hw hσ (fun nm' h => Classical.byContradiction fun h' => h (hpn nm' h')) f_SortA_0.out hsz⟩
def c_ground_bindAll_1 : Cmd :=
 (qS [qx 2 9472130 2 0, qx 3 9472194 2 1, qb 4 false]
 (.seq (.ops [qL 5 2 2, qL 6 2 3, qk 7 118 [5, 6], qv 8 .eql [.i] 7 0, qm 4 8]) .ret))
def r_ground_bindAll_1 : List RVar := [.tmp 4]
def n_ground_bindAll_1 : Nat := 9
theorem k_ground_bindAll_1 : chkFn Go.Proofs.Tryz.prog 148 n_ground_bindAll_1 r_ground_bindAll_1 c_ground_bindAll_1 = true := by kernel_rfl
theorem f_bindAll_1 (x y : At) (hx : AtOk x) (hy : AtOk y) : Fc Go.Proofs.Tryz.prog 148 [atV x, atV y] (.bool (decide (x = y))) := by
  have h := f_domain_Compare x y hx hy
  refine Fn.step mixed k_ground_bindAll_1 ?_
  repeat' (first | refine i_s rfl ?_ | refine sw ?_ | refine i_box rfl rfl ?_ | refine sf rfl rfl h ?_ | fail)
  refine e_ret ⟨rfl, _, rfl, congrArg V.bool ?_⟩
  by_cases e : x = y
  · rw [atomOrd_zero.2 e, decide_eq_true e]; rfl
  · have : atomOrd x y ≠ 0 := fun h => e (atomOrd_zero.1 h)
    rw [decide_eq_false e]
    simpa using this
def c_slices_CompactFunc_Atom : Cmd :=
 (qS [qq 4 (.mov (.c (.sl .nil [])))]
 (qT (qS [qm 8 0, qn 9 8, qv 10 .lss [] 9 2]
 (.cond (.t 10) (.seq (.ops [qm 11 0, qm 4 11]) .ret) .skip))
 (qT (qS [qc 5 1]
 (.block 0 (.loop (qT (qS [qm 12 5, qm 13 0, qn 14 13, qu 15 .lss [] 12 14]
 (.cond (.t 15) .skip (.exit 0)))
 (qT (.block 1 (qS [qm 18 1, qm 19 0, qm 20 5, qi 21 2 19 20, qL 22 2 21, qm 23 0, qm 24 5, qv 25 .sub [] 24 1, qi 26 2 23 25, qL 27 2 26, qq 28 (.call .f (.t 18) [.t 22, .t 27])]
 (.cond (.t 28) (qS [qm 29 0, qm 30 5, qq 31 (.slice false 2 (.t 29) (some (.t 30)) none), qm 6 31]
 (qT (qS [qc 7 1]
 (.block 2 (.loop (qT (qS [qm 32 7, qm 33 6, qn 34 33, qu 35 .lss [] 32 34]
 (.cond (.t 35) .skip (.exit 2)))
 (qT (.block 3 (qS [qm 38 1, qm 39 6, qm 40 7, qi 41 2 39 40, qL 42 2 41, qm 43 6, qm 44 7, qv 45 .sub [] 44 1, qi 46 2 43 45, qL 47 2 46, qq 48 (.call .f (.t 38) [.t 42, .t 47]), qq 49 (.not (.t 48))]
 (.cond (.t 49) (qS [qm 50 0, qm 51 5, qm 52 6, qm 53 7, qi 54 2 52 53, qL 55 2 54, qi 56 2 50 51, qs 2 56 55]
 (.ops [qm 57 5, qv 58 .add [] 57 1, qm 5 58])) .skip)))
 (.ops [qm 36 7, qv 37 .add [] 36 1, qm 7 37]))))))
 (qS [qm 59 0, qm 60 5, qq 61 (.slice false 2 (.t 59) (some (.t 60)) none), .op none none (.clear 2 32 (.agg [.int .i64 0, .sl .nil []]) (.t 61))]
 (.seq (.ops [qm 62 0, qm 63 5, qq 64 (.slice false 2 (.t 62) none (some (.t 63))), qm 4 64]) .ret)))) .skip)))
 (.ops [qm 16 5, qv 17 .add [] 16 1, qm 5 17]))))))
 (.seq (.ops [qm 65 0, qm 4 65]) .ret))))
def r_slices_CompactFunc_Atom : List RVar := [.tmp 4]
def n_slices_CompactFunc_Atom : Nat := 66
theorem k_slices_CompactFunc_Atom : chkFn Go.Proofs.Tryz.prog 147 n_slices_CompactFunc_Atom r_slices_CompactFunc_Atom c_slices_CompactFunc_Atom = true := by kernel_rfl
theorem ct_CompactA {G : Type} {H : HT G} (gen : Nat) (l : List At) (hl : l.length ≤ 1000000000) (hok : ∀ x ∈ l, AtOk x) (σ : Store) (g : G) (hσ : σ 8000322 = .arr gen (l.map atV)) (hp : ∀ nm, σ nm ≠ .unused → nm ∈ [8000322]) :
    Cc Go.Proofs.Tryz.prog H 147 [.msl 8000322 gen 0 l.length, .fn 148 []] [8000322] σ g fun v σ' g' => (∃ rows, v = .msl 8000322 gen 0 (compG l).length ∧ σ' = stOf [(8000322, .arr gen rows)] ∧ rows.take (compG l).length = (compG l).map atV) ∧ g' = g := by
  refine CT.step _ mixed k_slices_CompactFunc_Atom hp fun hM => ?_
  refine c_seq ?_
  refine c_ops ?_
  refine i_s rfl ?_
  refine i_nil ?_
  refine e_seq ?_
  refine c_cut [(0, .msl 8000322 gen 0 l.length), (1, .fn 148 [])] [(8000322, .arr gen (l.map atV))] ⟨⟨rfl, rfl, trivial⟩, ⟨hσ, trivial⟩, rfl⟩ ?_
  have fin : compG l = l → ∃ rows, V.msl 8000322 gen 0 l.length = .msl 8000322 gen 0 (compG l).length ∧ stOf [(8000322, .arr gen (l.map atV))] = stOf [(8000322, .arr gen rows)] ∧ rows.take (compG l).length = (compG l).map atV := fun e => ⟨l.map atV, by rw [e], rfl, by rw [e, List.take_of_length_le (by simp)]⟩
  repeat (first | refine i_s rfl ?_ | refine i_lenm rfl rfl rfl ?_ | refine sw ?_)
  refine c_cond rfl (fun h => ?_) (fun h => ?_)
  · have h2 : l.length < 2 := by have : (l.length : Int) < 2 := by simpa using h
                                 omega
    repeat (first | refine i_s rfl ?_ | refine sw ?_)
    refine e_ret ⟨rfl, _, rfl, rfl, rfl, ?_, rfl⟩
    rw [restr_stOf]
    exact fin (by unfold compG; rw [ddG_all _ (Nat.le_refl _) fun j h1 h3 => by omega, List.take_length])
  have h2 : 2 ≤ l.length := by have : ¬ (l.length : Int) < 2 := by simpa using h
                               omega
  clear h
  repeat (first | refine i_s rfl ?_ | refine sw ?_)
  refine c_lp (ι := Nat) (fun k => [(0, .msl 8000322 gen 0 l.length), (1, .fn 148 []), (5, .int .i64 k)]) (fun _ => [(8000322, .arr gen (l.map atV))]) (fun k => 1 ≤ k ∧ k ≤ l.length ∧ ∀ j, 0 < j → j < k → l[j]? ≠ l[j - 1]?) (fun k => l.length - k) 1 ⟨Nat.le_refl _, by omega, fun j h1 h2 => by omega⟩ ft fun k hi => ?_
  obtain ⟨k1, k2, k3⟩ := hi
  repeat (first | refine i_s rfl ?_ | refine i_lenm rfl rfl rfl ?_ | refine sw ?_)
  refine c_cond rfl (fun h => ?_) (fun h => ?_)
  · have hlt : k < l.length := by have : (k : Int) < l.length := by simpa using h
                                  omega
    obtain ⟨x, hx⟩ := get_some hlt
    obtain ⟨y, hy⟩ := get_some (l := l) (k := k - 1) (by omega)
    have hE := f_bindAll_1 x y (hok x (mem_get hx)) (hok y (mem_get hy))
    clear h
    repeat (first | refine i_s rfl ?_ | refine sw ?_)
    refine i_ima rfl rfl rfl rfl (by omega) (by omega) rfl ?_
    refine i_ldp (row := atV x) rfl rfl rfl (by simp [hx]) rfl ?_
    repeat (first | refine i_s rfl ?_ | refine jb rfl rfl ?_)
    refine i_ima rfl rfl rfl rfl (by omega) (by omega) rfl ?_
    refine i_ldp (row := atV y) rfl rfl rfl (by rw [show 0 + ((k : Int) - 1).toNat = k - 1 from by omega]; simp [hy]) rfl ?_
    repeat (first | refine sw ?_ | refine sf rfl rfl hE ?_)
    refine c_cond rfl (fun h => ?_) (fun h => ?_)
    · have e : x = y := by simpa using h
      subst e
      clear h hE
      repeat (first | refine i_s rfl ?_ | refine sw ?_)
      refine i_sm rfl rfl rfl rfl (by omega) (by omega) rfl ?_
      repeat (first | refine i_s rfl ?_ | refine sw ?_)
      have e0 := ddG_all k (by omega) k3
      have e1 : ddG l (k + 1) = l.take k := by rw [ddG_skip hx (by omega) hy, e0]
      refine c_lp (ι := Nat) (fun j => [(0, .msl 8000322 gen 0 l.length), (1, .fn 148 []), (5, .int .i64 (ddG l (k + j)).length), (6, .msl 8000322 gen (0 + k) (l.length - k)), (7, .int .i64 j)])
        (fun j => [(8000322, .arr gen ((ddG l (k + j) ++ l.drop (ddG l (k + j)).length).map atV))]) (fun j => 1 ≤ j ∧ k + j ≤ l.length ∧ (ddG l (k + j)).length + 1 ≤ k + j) (fun j => l.length - j) 1 ⟨Nat.le_refl _, by omega, by rw [e1]; simp; omega⟩ ⟨⟨rfl, rfl, ?_, rfl, rfl, trivial⟩, ⟨?_, trivial⟩, rfl⟩ fun j hj => ?_
      · rw [e1, List.length_take, Nat.min_eq_left (by omega)]; rfl
      · rw [e1, List.length_take, Nat.min_eq_left (by omega), List.take_append_drop]; rfl
      obtain ⟨j1, j2, j3⟩ := hj
      have hdl := ddG_len l (k + j)
      have hAl : (ddG l (k + j) ++ l.drop (ddG l (k + j)).length).length = l.length := by simp; omega
      repeat (first | refine i_s rfl ?_ | refine i_lenm rfl rfl rfl ?_ | refine sw ?_)
      refine c_cond rfl (fun h => ?_) (fun h => ?_)
      · have hlt2 : j < l.length - k := by have : (j : Int) < ((l.length - k : Nat) : Int) := by simpa using h
                                           omega
        obtain ⟨a, ha⟩ := get_some (l := l) (k := k + j) (by omega)
        obtain ⟨b, hb⟩ := get_some (l := l) (k := k + j - 1) (by omega)
        have hE := f_bindAll_1 a b (hok a (mem_get ha)) (hok b (mem_get hb))
        have ha' := ha
        rw [← ddG_get (m := k + j) (by omega)] at ha'
        have hb' := hb
        rw [← ddG_get (m := k + j) (by omega)] at hb'
        clear h
        repeat (first | refine i_s rfl ?_ | refine sw ?_)
        refine i_ima rfl rfl rfl rfl (by omega) (by omega) rfl ?_
        refine i_ldp (row := atV a) rfl rfl rfl (by rw [show 0 + k + (j : Int).toNat = k + j from by omega, List.getElem?_map, ha']; rfl) rfl ?_
        repeat (first | refine i_s rfl ?_ | refine jb rfl rfl ?_)
        refine i_ima rfl rfl rfl rfl (by omega) (by omega) rfl ?_
        refine i_ldp (row := atV b) rfl rfl rfl (by rw [show 0 + k + ((j : Int) - 1).toNat = k + j - 1 from by omega, List.getElem?_map, hb']; rfl) rfl ?_
        repeat (first | refine i_s rfl ?_ | refine sw ?_ | refine sf rfl rfl hE ?_)
        refine c_cond rfl (fun h => ?_) (fun h => ?_)
        · have hne : a ≠ b := by simpa using h
          have ek : ddG l (k + (j + 1)) = ddG l (k + j) ++ [a] := ddG_keep (k := k + j) ha (.inr (by rw [hb]; simpa using fun e => hne e.symm))
          obtain ⟨z, hz⟩ := get_some (l := ddG l (k + j) ++ l.drop (ddG l (k + j)).length) (k := (ddG l (k + j)).length) (by omega)
          clear h hE
          repeat (first | refine i_s rfl ?_ | refine sw ?_)
          refine i_ima rfl rfl rfl rfl (by omega) (by omega) rfl ?_
          refine i_ldp (row := atV a) rfl rfl rfl (by rw [show 0 + k + (j : Int).toNat = k + j from by omega, List.getElem?_map, ha']; rfl) rfl ?_
          skip
          refine i_ima rfl rfl rfl rfl (by omega) (by omega) rfl ?_
          refine i_stp (row := atV z) rfl rfl rfl (by rw [show 0 + ((ddG l (k + j)).length : Int).toNat = (ddG l (k + j)).length from by omega, List.getElem?_map, hz]; rfl) rfl rfl ?_
          repeat (first | refine i_s rfl ?_ | refine sw ?_ | refine ja rfl rfl ?_)
          refine e_lp (j + 1) ⟨by omega, by omega, by rw [ek]; simp; omega⟩ (by omega) ⟨⟨rfl, rfl, ?_, rfl, rfl, trivial⟩, ⟨?_, trivial⟩, rfl⟩
          · rw [ek]; simp; rfl
          · have := ddG_set (l := l) (m := k + j) (x := a) (by omega)
            show Blk.arr gen _ = Blk.arr gen _
            rw [ek, ← this, show (0 + ((ddG l (k + j)).length : Int).toNat) = (ddG l (k + j)).length from by omega, List.map_set]
            rfl
        · have he : a = b := by simpa using h
          subst he
          have ek : ddG l (k + (j + 1)) = ddG l (k + j) := ddG_skip (k := k + j) ha (by omega) hb
          clear h hE
          repeat (first | refine i_s rfl ?_ | refine sw ?_ | refine ja rfl rfl ?_)
          refine e_lp (j + 1) ⟨by omega, by omega, by rw [ek]; omega⟩ (by omega) ⟨⟨rfl, rfl, ?_, rfl, rfl, trivial⟩, ⟨?_, trivial⟩, rfl⟩
          · rw [ek]; rfl
          · rw [ek]; rfl
      · have hje : k + j = l.length := by have : ¬ (j : Int) < ((l.length - k : Nat) : Int) := by simpa using h
                                          omega
        have ec : compG l = ddG l (k + j) := by unfold compG; rw [hje]
        clear fin
        clear h
        repeat (first | refine i_s rfl ?_ | refine sw ?_)
        refine i_sm rfl rfl rfl rfl (by omega) (by omega) rfl ?_
        refine i_clear rfl rfl rfl rfl ?_
        repeat (first | refine i_s rfl ?_ | refine sw ?_)
        refine i_smh rfl rfl rfl rfl rfl (by omega) (by omega) (by omega) rfl ?_
        repeat (first | refine i_s rfl ?_ | refine sw ?_)
        rw [ec]
        refine e_ret ⟨rfl, _, rfl, rfl, rfl, ⟨_, ?_, restr_stOf _ _, ?_⟩, rfl⟩
        · show V.msl _ _ _ _ = V.msl _ _ _ _
          simp
        · have e1 : (0 + ((ddG l (k + j)).length : Int).toNat) = (ddG l (k + j)).length := by omega
          rw [e1, List.append_assoc, List.take_append_of_le_length (by simp), List.take_take, Nat.min_self, ← List.map_take, List.take_append_of_le_length (Nat.le_refl _), List.take_length]
    · have hne : x ≠ y := by simpa using h
      clear h hE
      repeat (first | refine i_s rfl ?_ | refine sw ?_ | refine ja rfl rfl ?_)
      refine e_lp (k + 1) ⟨by omega, by omega, fun j h1 h3 => ?_⟩ (by omega) ft
      by_cases e : j = k
      · subst e; rw [hx, hy]; simpa using hne
      · exact k3 j h1 (by omega)
  · have hke : k = l.length := by have : ¬ (k : Int) < l.length := by simpa using h
                                  omega
    subst hke
    repeat (first | refine i_s rfl ?_ | refine sw ?_)
    refine e_ret ⟨rfl, _, rfl, rfl, rfl, ?_, rfl⟩
    rw [restr_stOf]
    exact fin (by unfold compG; rw [ddG_all _ (Nat.le_refl _) k3, List.take_length])
theorem compG_sdA {l s : List At} (hp : s.Perm l) (hs : s.Pairwise fun x y => ¬ atomOrd y x < 0) : compG s = sdA l := by
  have hm : compG (s.map posL) = (compG s).map posL := by
    unfold compG
    rw [List.length_map]
    suffices h : ∀ k, k ≤ s.length → ddG (s.map posL) k = (ddG s k).map posL from h _ (Nat.le_refl _)
    intro k
    induction k with
    | zero => intro _; rfl
    | succ k ih =>
      intro hk
      rw [ddG_succ, ddG_succ, List.map_append, ih (by omega)]
      congr 1
      unfold keepG
      rw [List.getElem?_map, List.getElem?_map]
      cases hx : s[k]? with
      | none => rfl
      | some x =>
        simp only [Option.map_some]
        by_cases h : k = 0 ∨ s[k - 1]? ≠ some x
        · have h' : k = 0 ∨ (s[k - 1]?).map posL ≠ some (posL x) := h.imp id fun h1 h2 => h1 (by
            cases hy : s[k - 1]? with
            | none => rw [hy] at h2; cases h2
            | some y => rw [hy] at h2; simp only [Option.map_some, Option.some.injEq, posL, Lit.mk.injEq, true_and] at h2; rw [h2])
          rw [if_pos h, if_pos h']; rfl
        · have h' : ¬ (k = 0 ∨ (s[k - 1]?).map posL ≠ some (posL x)) := fun h1 => h (h1.imp id fun h2 h3 => h2 (by rw [h3]; rfl))
          rw [if_neg h, if_neg h']; rfl
  have hsp : (s.map posL).Pairwise fun x y => litOrd x y ≤ 0 := by
    refine List.Pairwise.map _ (fun a b h => ?_) hs
    have hn := atomOrd_neg a b
    unfold litOrd posL
    simp only
    split
    · omega
    · simp
  have hsl := ddG_sorted hsp (s.map posL).length (Nat.le_refl _)
  have hsl : SLt (compG (s.map posL)) := hsl
  rw [hm] at hsl
  refine sdA_of hsl fun a => ?_
  rw [compG_mem]
  exact hp.mem_iff
structure FitA (args : List Int) (a : At) : Prop where
  len : a.args.length ≤ 17592186044416
  lo : ∀ x ∈ a.args, -(args.length : Int) ≤ x
  ok : AtOk (bindA args a)
theorem fitA_of {d : Dom} {ps args : List Int} (ha : ArgsOk d ps args) (hd : DoTy d) {a : At} (hao : AtOk a) (h : atomCode d ps a = 0) : FitA args a :=
  ⟨hao.len, fun x hx => by have := (atom_rng h x hx).1; rw [ha.1]; exact this, bindA_ok ha hd hao h⟩
def c_ground_bindAll : Cmd :=
 (qS [qq 4 (.mov (.c (.sl .nil [])))]
 (qS [qq 5 (.newArr 8000322)]
 (qT (qS [qm 8 0, qn 9 8, qc 10 0]
 (.block 0 (.loop (qS [qu 11 .lss [] 10 9]
 (qT (.cond (.t 11) .skip (.exit 0))
 (qT (.block 1 (qS [qi 12 2 8 10, qL 13 2 12, qq 7 (.alloc 8000450 (.agg [.int .i64 0, .sl .nil []])), qs 2 7 13]
 (.ops [qm 14 5, qL 15 2 7, qm 16 1, qk 17 123 [15, 16], qq 18 (.bsl 2 [.t 17]), qq 19 (.append 2 32 52 (.t 14) (.t 18)), qm 5 19])))
 (.ops [qv 20 .add [] 10 1, qm 10 20])))))))
 (qS [qm 21 5, qq 22 (.call (.s [8000322]) (.c (.fn 146 [])) [.t 21, .c (.fn 118 [])])]
 (.seq (.ops [qm 23 5, qq 24 (.call (.s [8000322]) (.c (.fn 147 [])) [.t 23, .c (.fn 148 [])]), qm 4 24]) .ret)))))
def r_ground_bindAll : List RVar := [.tmp 4]
def n_ground_bindAll : Nat := 25
theorem k_ground_bindAll : chkFn Go.Proofs.Tryz.prog 125 n_ground_bindAll r_ground_bindAll c_ground_bindAll = true := by kernel_rfl
theorem f_bindAll (l : List At) (args : List Int) (hl : l.length ≤ 1000000) (hal : args.length ≤ 140737488355328) (hf : ∀ a ∈ l, FitA args a) :
    Fc Go.Proofs.Tryz.prog 125 [.sl .p (l.map atV), .sl .p (args.map i64V)] (.sl .p ((sdA (l.map (bindA args))).map atV)) := by
  refine Fn.step mixed k_ground_bindAll ?_
  repeat (first | refine i_s rfl ?_ | refine sw ?_)
  refine i_na rfl ?_
  repeat (first | refine i_len rfl ?_ | refine i_s rfl ?_ | refine sw ?_)
  refine c_for l.length (fun k => [(1, .sl .p (args.map i64V)), (5, .msl 8000322 ((l.take k).map (bindA args)).length 0 ((l.take k).map (bindA args)).length), (8, .sl .p (l.map atV)), (9, .int .i64 l.length), (10, .int .i64 k)])
    (fun k => [(8000322, .arr ((l.take k).map (bindA args)).length (((l.take k).map (bindA args)).map atV))]) (fun _ => True) trivial ft fun k hk _ => ?_
  have hTl : ((l.take k).map (bindA args)).length ≤ k := by simp; omega
  repeat (first | refine i_s rfl ?_ | refine sw ?_)
  refine c_cond rfl (fun h => ?_) (fun h => ?_)
  · have hlt : k < l.length := by simpa using h
    obtain ⟨a, hget⟩ := get_some hlt
    have hfa := hf a (mem_get hget)
    have hB := f_condition_Bind args hal a hfa.len hfa.lo
    have e : (l.take (k + 1)).map (bindA args) = (l.take k).map (bindA args) ++ [bindA args a] := by rw [take_succ_get hget, List.map_append]; rfl
    clear h hf hfa
    repeat (first | refine i_s rfl ?_ | refine sw ?_ | refine jd rfl rfl ?_ | refine i_stb rfl ?_ | refine i_alloc rfl ?_ | refine sf rfl rfl hB ?_)
    refine i_appmM [bindA args a] rfl rfl rfl rfl rfl (fun c hc => ⟨rfl, rfl⟩) (by simp only [List.length_singleton]; omega) (by simp only [List.length_singleton]; omega) ?_
    repeat (first | refine i_s rfl ?_ | refine sw ?_ | refine ja rfl rfl ?_)
    refine e_for hlt trivial ⟨⟨rfl, ?_, rfl, rfl, rfl, trivial⟩, ⟨?_, trivial⟩, rfl⟩
    · rw [e, List.length_append]; rfl
    · rw [e, List.length_append]; rfl
  · have hge : k = l.length := by have : ¬ k < l.length := by simpa using h
                                  omega
    subst hge
    rw [List.take_length] at hTl ⊢
    have hT : ∀ x ∈ l.map (bindA args), AtOk x := fun x hx => by
      obtain ⟨a, h1, rfl⟩ := List.mem_map.1 hx
      exact (hf a h1).ok
    clear h hk hf
    have hl2 : (l.map (bindA args)).length ≤ 1000000 := by omega
    clear hTl
    generalize l.map (bindA args) = L at *
    repeat (first | refine i_s rfl ?_ | refine sw ?_)
    refine i_c rfl rfl rfl (c_SortA 8000322 L.length L hT rfl rfl (fun nm h => restr_mem nm h) (by omega)) ?_
    rintro _ _ _ ⟨rfl, ⟨s, hsp, hss, rfl⟩, rfl⟩
    have hsl := hsp.length_eq
    have hos : ∀ x ∈ s, AtOk x := fun x hx => hT x (hsp.mem_iff.1 hx)
    rw [← compG_sdA hsp hss]
    clear hT hss hsp
    refine i_nil ?_
    refine e_seq ?_
    refine c_cut [(5, .msl 8000322 L.length 0 s.length)] [(8000322, .arr L.length (s.map atV))] ⟨⟨?_, trivial⟩, ⟨rfl, trivial⟩, rfl⟩ ?_
    · rw [hsl]; rfl
    repeat (first | refine i_s rfl ?_ | refine sw ?_)
    refine i_c rfl rfl rfl (ct_CompactA L.length s (by omega) hos _ _ rfl (fun nm h => restr_mem nm h)) ?_
    rintro _ _ _ ⟨⟨rows, rfl, rfl, hr⟩, rfl⟩
    repeat (first | refine i_s rfl ?_ | refine sw ?_)
    exact e_ret ⟨rfl, _, rfl, ((er_msl (rows := rows) (i := 0) (len := (compG s).length) (n := 5) rfl).trans (by rw [List.drop_zero, hr])).symm⟩
theorem filter_take_succ {α : Type} {l : List α} {k : Nat} {x : α} (h : l[k]? = some x) (p : α → Bool) : (l.take (k + 1)).filter p = (l.take k).filter p ++ if p x = true then [x] else [] := by
  rw [take_succ_get h, List.filter_append, List.filter_cons, List.filter_nil]
def c_ground_grounder_effects : Cmd :=
 (qS [qx 4 5632263 7 1, qq 6 (.newVec 5632387), qq 7 (.newVec 5632451)]
 (qS [qf 14 4 4, ql 15 1 14, qm 16 2, qk 17 125 [15, 16], qf 18 5 4, ql 19 1 18, qm 20 2, qk 21 125 [19, 20], qm 8 17, qm 9 21]
 (qT (qS [qm 22 8, qn 23 22, qc 24 0]
 (.block 0 (.loop (qS [qu 25 .lss [] 24 23]
 (qT (.cond (.t 25) .skip (.exit 0))
 (qT (.block 1 (qS [qi 26 2 22 24, qL 27 2 26, qq 11 (.alloc 5632706 (.agg [.int .i64 0, .sl .nil []])), qs 2 11 27]
 (qS [qm 28 6, qL 29 2 11, qq 30 (.build [.bool false, .int .i64 0, .sl .nil []] [(1 , 2 , .t 29)]), qq 31 (.bsl 3 [.t 30]), qq 32 (.append 3 40 54 (.t 28) (.t 31)), qm 6 32]
 (.ops [qm 33 7, qL 34 2 11, qq 35 (.build [.bool false, .int .i64 0, .sl .nil []] [(0 , 1 , .c (.bool true)), (1 , 2 , .t 34)]), qq 36 (.bsl 3 [.t 35]), qq 37 (.append 3 40 54 (.t 33) (.t 36)), qm 7 37]))))
 (.ops [qv 38 .add [] 24 1, qm 24 38])))))))
 (qT (qS [qm 39 9, qn 40 39, qc 41 0]
 (.block 2 (.loop (qS [qu 42 .lss [] 41 40]
 (qT (.cond (.t 42) .skip (.exit 2))
 (qT (.block 3 (qS [qi 43 2 39 41, qL 44 2 43, qq 13 (.alloc 5632834 (.agg [.int .i64 0, .sl .nil []])), qs 2 13 44]
 (qS [qm 45 8, qL 46 2 13, qk 47 93 [45, 46], qq 48 (.not (.t 47))]
 (.cond (.t 48) (qS [qm 49 7, qL 50 2 13, qq 51 (.build [.bool false, .int .i64 0, .sl .nil []] [(1 , 2 , .t 50)]), qq 52 (.bsl 3 [.t 51]), qq 53 (.append 3 40 54 (.t 49) (.t 52)), qm 7 53]
 (.ops [qm 54 6, qL 55 2 13, qq 56 (.build [.bool false, .int .i64 0, .sl .nil []] [(0 , 1 , .c (.bool true)), (1 , 2 , .t 55)]), qq 57 (.bsl 3 [.t 56]), qq 58 (.append 3 40 54 (.t 54) (.t 57)), qm 6 58])) .skip))))
 (.ops [qv 59 .add [] 41 1, qm 41 59])))))))
 (.seq (.ops [qm 60 6, qm 61 7, qm 6 60, qm 7 61]) .ret)))))
def r_ground_grounder_effects : List RVar := [.tmp 6, .tmp 7]
def n_ground_grounder_effects : Nat := 62
theorem k_ground_grounder_effects : chkFn Go.Proofs.Tryz.prog 88 n_ground_grounder_effects r_ground_grounder_effects c_ground_grounder_effects = true := by kernel_rfl
theorem f_effects (d : Dom) (fl ng : List Bool) (s : Sch) (args : List Int) (hal : args.length ≤ 140737488355328) (ha8 : s.add.length ≤ 1000000) (hd8 : s.del.length ≤ 1000000) (hfa : ∀ a ∈ s.add, FitA args a) (hfd : ∀ a ∈ s.del, FitA args a)
    (hP8 : (sdA (s.add.map (bindA args))).length ≤ 1000000) (hM8 : (sdA (s.del.map (bindA args))).length ≤ 1000000) :
    Fc Go.Proofs.Tryz.prog 88 [grP d fl ng, schV s, .sl .p (args.map i64V)] (.tup [.sl .p ((addOf (sdA (s.add.map (bindA args))) (sdA (s.del.map (bindA args)))).map litV), .sl .p ((delOf (sdA (s.add.map (bindA args))) (sdA (s.del.map (bindA args)))).map litV)]) := by
  have hA := f_bindAll s.add args ha8 hal hfa
  have hD := f_bindAll s.del args hd8 hal hfd
  have hPo : ∀ x ∈ sdA (s.add.map (bindA args)), AtOk x := fun x hx => by
    rw [sdA_mem] at hx
    obtain ⟨a, h1, rfl⟩ := List.mem_map.1 hx
    exact (hfa a h1).ok
  have hMo : ∀ x ∈ sdA (s.del.map (bindA args)), AtOk x := fun x hx => by
    rw [sdA_mem] at hx
    obtain ⟨a, h1, rfl⟩ := List.mem_map.1 hx
    exact (hfd a h1).ok
  clear hfa hfd ha8 hd8
  generalize sdA (s.add.map (bindA args)) = P at *
  generalize sdA (s.del.map (bindA args)) = M at *
  refine Fn.step mixed k_ground_grounder_effects ?_
  repeat' (first | refine i_len rfl ?_ | refine i_s rfl ?_ | refine sw ?_ | refine i_box rfl rfl ?_ | refine i_nv rfl ?_ | refine sf rfl rfl hA ?_ | refine sf rfl rfl hD ?_ | fail)
  all_goals clear hA hD
  all_goals
    refine c_for P.length (fun k => [(6, .sl (.own 5632387) (((P.take k).map posL).map litV)), (7, .sl (.own 5632451) (((P.take k).map negL).map litV)), (8, .sl .p (P.map atV)), (9, .sl .p (M.map atV)), (22, .sl .p (P.map atV)), (23, .int .i64 P.length), (24, .int .i64 k)])
      (fun k => [(5632387, .vec ((P.take k).map posL).length), (5632451, .vec ((P.take k).map negL).length)]) (fun _ => True) trivial ft fun k hk _ => ?_
    by_cases hlt : k < P.length
    · obtain ⟨x, hx⟩ := get_some hlt
      have l1 : ((P.take k).map posL).length = k := by simp; omega
      have l2 : ((P.take k).map negL).length = k := by simp; omega
      have e1 : (P.take (k + 1)).map posL = (P.take k).map posL ++ [posL x] := by rw [take_succ_get hx, List.map_append]; rfl
      have e2 : (P.take (k + 1)).map negL = (P.take k).map negL ++ [negL x] := by rw [take_succ_get hx, List.map_append]; rfl
      repeat' (first | refine i_len rfl ?_ | refine i_s rfl ?_ | refine sw ?_ | refine jd rfl rfl ?_ | refine i_stb rfl ?_ | refine i_alloc rfl ?_ | refine c_cond rfl (fun h => ?_) (fun h => ?_))
      all_goals first
        | (exfalso; simp at *; done)
        | (exfalso; simp at *; omega)
        | skip
      refine i_appM (c := posL x) rfl rfl rfl rfl rfl (by omega) (by omega) ?_
      repeat (first | refine i_s rfl ?_ | refine sw ?_)
      refine i_appM (c := negL x) rfl rfl rfl rfl rfl (by omega) (by omega) ?_
      repeat (first | refine i_s rfl ?_ | refine sw ?_ | refine ja rfl rfl ?_)
      refine e_for hlt trivial ⟨⟨?_, ?_, rfl, rfl, rfl, rfl, rfl, trivial⟩, ⟨?_, ?_, trivial⟩, rfl⟩
      · rw [e1]; rfl
      · rw [e2]; rfl
      · rw [e1]; simp; rfl
      · rw [e2]; simp; rfl
    have hge : k = P.length := by omega
    subst hge
    rw [List.take_length]
    repeat' (first | refine i_len rfl ?_ | refine i_s rfl ?_ | refine sw ?_ | refine c_cond rfl (fun h => ?_) (fun h => ?_))
    all_goals first
      | (exfalso; simp at *; done)
      | (exfalso; simp at *; omega)
      | skip
    refine c_for M.length (fun k => [(6, .sl (.own 5632387) ((addOf P (M.take k)).map litV)), (7, .sl (.own 5632451) ((delOf P (M.take k)).map litV)), (8, .sl .p (P.map atV)), (39, .sl .p (M.map atV)), (40, .int .i64 M.length), (41, .int .i64 k)])
      (fun k => [(5632387, .vec (addOf P (M.take k)).length), (5632451, .vec (delOf P (M.take k)).length)]) (fun _ => True) trivial ⟨⟨?_, ?_, rfl, rfl, rfl, rfl, trivial⟩, ⟨?_, ?_, trivial⟩, rfl⟩ fun k hk _ => ?_
    · rw [show addOf P (M.take 0) = P.map posL from by simp [addOf]]; rfl
    · rw [show delOf P (M.take 0) = P.map negL from by simp [delOf]]; rfl
    · rw [show addOf P (M.take 0) = P.map posL from by simp [addOf]]; rfl
    · rw [show delOf P (M.take 0) = P.map negL from by simp [delOf]]; rfl
    by_cases hlt : k < M.length
    · obtain ⟨x, hx⟩ := get_some hlt
      have hH := f_hasAtom P x (by omega) hPo (hMo x (mem_get hx))
      have hfl : ((M.take k).filter fun a => !decide (a ∈ P)).length ≤ k := Nat.le_trans (List.length_filter_le _ _) (by simp; omega)
      have l1 : (addOf P (M.take k)).length ≤ P.length + k := by simp only [addOf, List.length_append, List.length_map]; omega
      have l2 : (delOf P (M.take k)).length ≤ P.length + k := by simp only [delOf, List.length_append, List.length_map]; omega
      by_cases hm : x ∈ P
      · rw [decide_eq_true hm] at hH
        have e1 : addOf P (M.take (k + 1)) = addOf P (M.take k) := by unfold addOf; rw [filter_take_succ hx, if_neg (by simp [hm]), List.append_nil]
        have e2 : delOf P (M.take (k + 1)) = delOf P (M.take k) := by unfold delOf; rw [filter_take_succ hx, if_neg (by simp [hm]), List.append_nil]
        repeat' (first | refine i_s rfl ?_ | refine sw ?_ | refine c_f rfl ?_ | refine ja rfl rfl ?_ | refine jd rfl rfl ?_ | refine i_stb rfl ?_ | refine i_alloc rfl ?_ | refine c_cond rfl (fun h => ?_) (fun h => ?_) | refine sf rfl rfl hH ?_ | fail)
        all_goals first
          | (exfalso; clear hH; simp at *; done)
          | (exfalso; clear hH; simp at *; omega)
          | skip
        refine e_for hlt trivial ⟨⟨?_, ?_, rfl, rfl, rfl, rfl, trivial⟩, ⟨?_, ?_, trivial⟩, rfl⟩
        · rw [e1]; rfl
        · rw [e2]; rfl
        · rw [e1]; rfl
        · rw [e2]; rfl
      · rw [decide_eq_false hm] at hH
        have e1 : addOf P (M.take (k + 1)) = addOf P (M.take k) ++ [negL x] := by unfold addOf; rw [filter_take_succ hx, if_pos (by simp [hm]), List.map_append, List.append_assoc]; rfl
        have e2 : delOf P (M.take (k + 1)) = delOf P (M.take k) ++ [posL x] := by unfold delOf; rw [filter_take_succ hx, if_pos (by simp [hm]), List.map_append, List.append_assoc]; rfl
        repeat' (first | refine i_s rfl ?_ | refine sw ?_ | refine c_t rfl ?_ | refine jd rfl rfl ?_ | refine i_stb rfl ?_ | refine i_alloc rfl ?_ | refine c_cond rfl (fun h => ?_) (fun h => ?_) | refine sf rfl rfl hH ?_ | fail)
        all_goals first
          | (exfalso; clear hH; simp at *; done)
          | (exfalso; clear hH; simp at *; omega)
          | skip
        refine i_appM (c := posL x) rfl rfl rfl rfl rfl (by omega) (by omega) ?_
        repeat (first | refine i_s rfl ?_ | refine sw ?_)
        refine i_appM (c := negL x) rfl rfl rfl rfl rfl (by omega) (by omega) ?_
        repeat (first | refine i_s rfl ?_ | refine sw ?_ | refine ja rfl rfl ?_)
        refine e_for hlt trivial ⟨⟨?_, ?_, rfl, rfl, rfl, rfl, trivial⟩, ⟨?_, ?_, trivial⟩, rfl⟩
        · rw [e1]; rfl
        · rw [e2]; rfl
        · rw [e1]; simp; rfl
        · rw [e2]; simp; rfl
    have hge : k = M.length := by omega
    subst hge
    rw [List.take_length]
    repeat' (first | refine i_s rfl ?_ | refine sw ?_ | refine c_cond rfl (fun h => ?_) (fun h => ?_))
    all_goals first
      | exact e_ret ⟨rfl, _, rfl, rfl⟩
      | (exfalso; simp at *; done)
      | (exfalso; simp at *; omega)
def needV : Option (List Lit) → V
  | some l => .tup [.sl .p (l.map litV), .bool true]
  | none => .tup [.sl .p [], .bool false]
def c_ground_grounder_needs : Cmd :=
 (qS [qq 6 (.mov (.c (.sl .nil []))), qb 7 false]
 (qS [qq 8 (.newVec 5568515)]
 (qT (qS [qm 12 1, qn 13 12, qc 14 0]
 (.block 0 (.loop (qS [qu 15 .lss [] 14 13]
 (qT (.cond (.t 15) .skip (.exit 0))
 (qT (.block 1 (qS [qi 16 3 12 14, qL 17 3 16, qq 10 (.alloc 5568643 (.agg [.bool false, .int .i64 0, .sl .nil []])), qs 3 10 17]
 (qS [qf 18 0 10, ql 19 1 18, qf 20 1 10, qL 21 2 20, qm 22 2, qk 23 123 [21, 22], qq 24 (.build [.bool false, .int .i64 0, .sl .nil []] [(0 , 1 , .t 19), (1 , 2 , .t 23)]), qq 11 (.alloc 5568707 (.agg [.bool false, .int .i64 0, .sl .nil []])), qs 3 11 24]
 (.block 2 (qS [qm 26 0, qq 27 (.nilck (.t 26)), qf 28 6 27, ql 29 1 28, qf 30 1 10, qf 31 0 30, ql 32 1 31, qi 33 1 29 32, ql 34 1 33, qq 35 (.not (.t 34)), qm 25 35]
 (.cond (.t 25) (qS [qm 36 0, qq 37 (.nilck (.t 36)), qf 38 0 37, qf 39 4 38, ql 40 1 39, qf 41 1 11, qL 42 2 41, qk 43 93 [40, 42], qf 44 0 10, ql 45 1 44, qu 46 .eql [.b] 43 45]
 (.cond (.t 46) (.seq (.ops [qq 6 (.mov (.c (.sl .nil []))), qb 7 false]) .ret) .skip)) (qS [qm 48 8, qL 49 3 11, qk 50 124 [49], qk 51 46 [48, 50], qm 47 51]
 (.cond (.t 47) (.seq (.ops [qq 6 (.mov (.c (.sl .nil []))), qb 7 false]) .ret) (qS [qm 53 8, qL 54 3 11, qk 55 46 [53, 54], qq 56 (.not (.t 55)), qm 52 56]
 (.cond (.t 52) (.ops [qm 57 8, qL 58 3 11, qq 59 (.bsl 3 [.t 58]), qq 60 (.append 3 40 54 (.t 57) (.t 59)), qm 8 60]) .skip))))))))))
 (.ops [qv 61 .add [] 14 1, qm 14 61])))))))
 (.seq (.ops [qm 62 8, qm 6 62, qb 7 true]) .ret))))
def r_ground_grounder_needs : List RVar := [.tmp 6, .tmp 7]
def n_ground_grounder_needs : Nat := 63
theorem k_ground_grounder_needs : chkFn Go.Proofs.Tryz.prog 87 n_ground_grounder_needs r_ground_grounder_needs c_ground_grounder_needs = true := by kernel_rfl
theorem f_needs (d : Dom) (hd : DomV d) (hdo : d.init.length ≤ 140737488355328) (hio : ∀ x ∈ d.init, AtOk x) (ng : List Bool) (l : List Lit) (args : List Int) (hl : l.length ≤ 1000000) (hal : args.length ≤ 140737488355328) (hf : ∀ x ∈ l, FitA args x.at_)
    (hp : ∀ x ∈ l, 0 ≤ x.at_.pred ∧ x.at_.pred < d.preds.length) :
    Fc Go.Proofs.Tryz.prog 87 [grP d (fluL d) ng, .sl .p (l.map litV), .sl .p (args.map i64V)] (needV (needP d args l [])) := by
  generalize hr : needP d args l [] = r
  refine Fn.step mixed k_ground_grounder_needs ?_
  repeat (first | refine i_len rfl ?_ | refine i_s rfl ?_ | refine sw ?_ | refine i_nv rfl ?_)
  refine c_lp (ι := Nat × List Lit) (fun i => [(0, grP d (fluL d) ng), (2, .sl .p (args.map i64V)), (8, .sl (.own 5568515) (i.2.map litV)), (12, .sl .p (l.map litV)), (13, .int .i64 l.length), (14, .int .i64 i.1)])
    (fun i => [(5568515, .vec i.2.length)]) (fun i => i.1 ≤ l.length ∧ i.2.length ≤ i.1 ∧ (∀ x ∈ i.2, AtOk x.at_) ∧ needP d args (l.drop i.1) i.2 = r) (fun i => l.length - i.1) (0, []) ⟨Nat.zero_le _, Nat.le_refl _, fun x hx => (by cases hx), hr⟩ ft fun i hi => ?_
  obtain ⟨k, out⟩ := i
  obtain ⟨k1, k2, k3, k4⟩ := hi
  simp only at k1 k2 k3 k4 ⊢
  clear hr
  by_cases hlt : k < l.length
  · obtain ⟨x, hx⟩ := get_some hlt
    have hfx := hf x (mem_get hx)
    obtain ⟨p0, p1⟩ := hp x (mem_get hx)
    have p2 : (fluL d)[x.at_.pred.toNat]? = some (fluB d x.at_.pred) := by
      rw [flags_get (by omega)]
      unfold fluF
      rw [show ((x.at_.pred.toNat : Nat) : Int) = x.at_.pred from by omega]
    have hB := f_condition_Bind args hal x.at_ hfx.len hfx.lo
    have hI := f_hasAtom d.init (bindA args x.at_) hdo hio hfx.ok
    have hN := f_ground_not (bindL args x)
    have hO := f_hasLiteral out (opp (bindL args x)) (by omega) k3 (show AtOk (bindA args x.at_) from hfx.ok)
    have hY := f_hasLiteral out (bindL args x) (by omega) k3 (show AtOk (bindA args x.at_) from hfx.ok)
    have hcons : l.drop k = x :: l.drop (k + 1) := by
      rw [List.drop_eq_getElem_cons hlt]
      congr 1
      exact (List.getElem?_eq_some_iff.1 hx).2
    rw [hcons] at k4
    unfold needP at k4
    have hok2 : ∀ y ∈ out ++ [bindL args x], AtOk y.at_ := fun y hy => by
      rcases List.mem_append.1 hy with h | h
      · exact k3 y h
      · rw [List.mem_singleton] at h; subst h; exact hfx.ok
    cases hfb : fluB d x.at_.pred
    · rw [hfb] at p2 k4
      rw [if_pos rfl] at k4
      by_cases hin : decide (bindA args x.at_ ∈ d.init) = x.neg
      · rw [if_pos hin] at k4
        subst k4
        rw [hin] at hI
        clear hf hp hfx hok2 k3 hN hO hY hcons
        repeat' (first | refine i_s rfl ?_ | refine sw ?_ | refine c_t rfl ?_ | refine ja rfl rfl ?_ | refine jd rfl rfl ?_ | refine i_stb rfl ?_ | refine i_alloc rfl ?_ | refine c_cond rfl (fun h => ?_) (fun h => ?_) | refine sf rfl rfl hB ?_ | refine sf rfl rfl hI ?_ | fail)
        all_goals first
          | exact e_ret ⟨rfl, _, rfl, rfl⟩
          | (exfalso; clear hB hI; simp at *; done)
          | (exfalso; clear hB hI; simp at *; omega)
      · rw [if_neg hin] at k4
        generalize hq : decide (bindA args x.at_ ∈ d.init) = q at *
        clear hf hp hfx hok2 hN hO hY hcons
        repeat' (first | refine i_s rfl ?_ | refine sw ?_ | refine c_t rfl ?_ | refine ja rfl rfl ?_ | refine jd rfl rfl ?_ | refine i_stb rfl ?_ | refine i_alloc rfl ?_ | refine c_cond rfl (fun h => ?_) (fun h => ?_) | refine sf rfl rfl hB ?_ | refine sf rfl rfl hI ?_ | fail)
        all_goals first
          | exact e_lp (k + 1, out) ⟨by omega, by simp only; omega, k3, k4⟩ (by simp only; omega) ft
          | (exfalso; clear hB hI; simp at *; done)
          | (exfalso; clear hB hI; simp at *; omega)
          | (exfalso; clear hB hI; simp_all; done)
    · rw [hfb] at p2 k4
      rw [if_neg (by simp)] at k4
      by_cases h1 : opp (bindL args x) ∈ out
      · rw [if_pos h1] at k4
        subst k4
        rw [decide_eq_true h1] at hO
        clear hf hp hfx hok2 k3 hI hY hcons
        repeat' (first | refine i_s rfl ?_ | refine sw ?_ | refine c_t rfl ?_ | refine c_f rfl ?_ | refine jd rfl rfl ?_ | refine i_stb rfl ?_ | refine i_alloc rfl ?_ | refine c_cond rfl (fun h => ?_) (fun h => ?_) | refine sf rfl rfl hB ?_ | refine sf rfl rfl hN ?_ | refine sf rfl rfl hO ?_ | fail)
        all_goals first
          | exact e_ret ⟨rfl, _, rfl, rfl⟩
          | (exfalso; clear hB hN hO; simp at *; done)
          | (exfalso; clear hB hN hO; simp at *; omega)
      · rw [if_neg h1] at k4
        rw [decide_eq_false h1] at hO
        by_cases h2 : bindL args x ∈ out
        · rw [if_pos h2] at k4
          rw [decide_eq_true h2] at hY
          clear hf hp hfx hok2 hI hcons
          repeat' (first | refine i_s rfl ?_ | refine sw ?_ | refine c_f rfl ?_ | refine ja rfl rfl ?_ | refine jd rfl rfl ?_ | refine i_stb rfl ?_ | refine i_alloc rfl ?_ | refine c_cond rfl (fun h => ?_) (fun h => ?_) | refine sf rfl rfl hB ?_ | refine sf rfl rfl hN ?_ | refine sf rfl rfl hO ?_ | refine sf rfl rfl hY ?_ | fail)
          all_goals first
            | exact e_lp (k + 1, out) ⟨by omega, by simp only; omega, k3, k4⟩ (by simp only; omega) ft
            | (exfalso; clear hB hN hO hY; simp at *; done)
            | (exfalso; clear hB hN hO hY; simp at *; omega)
        · rw [if_neg h2] at k4
          rw [decide_eq_false h2] at hY
          clear hf hp hfx k3 hI hcons
          repeat' (first | refine i_s rfl ?_ | refine sw ?_ | refine c_t rfl ?_ | refine c_f rfl ?_ | refine jd rfl rfl ?_ | refine i_stb rfl ?_ | refine i_alloc rfl ?_ | refine c_cond rfl (fun h => ?_) (fun h => ?_) | refine sf rfl rfl hB ?_ | refine sf rfl rfl hN ?_ | refine sf rfl rfl hO ?_ | refine sf rfl rfl hY ?_ | fail)
          all_goals first
            | (exfalso; clear hB hN hO hY; simp at *; done)
            | (exfalso; clear hB hN hO hY; simp at *; omega)
            | skip
          refine i_appM (c := bindL args x) rfl rfl rfl rfl rfl (by omega) (by omega) ?_
          repeat (first | refine i_s rfl ?_ | refine sw ?_ | refine ja rfl rfl ?_)
          refine e_lp (k + 1, out ++ [bindL args x]) ⟨by omega, by simp; omega, hok2, k4⟩ (by simp only; omega) ⟨⟨rfl, rfl, rfl, rfl, rfl, rfl, trivial⟩, ⟨?_, trivial⟩, rfl⟩
          simp; rfl
  · have hge : k = l.length := by omega
    subst hge
    rw [List.drop_length] at k4
    have k5 : some out = r := k4
    subst k5
    repeat' (first | refine i_s rfl ?_ | refine sw ?_ | refine c_cond rfl (fun h => ?_) (fun h => ?_))
    all_goals first
      | exact e_ret ⟨rfl, _, rfl, rfl⟩
      | (exfalso; simp at *; done)
      | (exfalso; simp at *; omega)
def c_ground_grounder_actions_1_1 : Cmd :=
 (qS [qx 2 5440130 2 0, qb 3 false]
 (.seq (.ops [ql 4 1 1, qf 5 0 2, ql 6 1 5, qi 7 1 4 6, ql 8 1 7, ql 9 1 1, qf 10 1 2, ql 11 1 10, qi 12 1 9 11, ql 13 1 12, qu 14 .eql [.i] 8 13, qm 3 14]) .ret))
def r_ground_grounder_actions_1_1 : List RVar := [.tmp 3]
def n_ground_grounder_actions_1_1 : Nat := 15
theorem k_ground_grounder_actions_1_1 : chkFn Go.Proofs.Tryz.prog 85 n_ground_grounder_actions_1_1 r_ground_grounder_actions_1_1 c_ground_grounder_actions_1_1 = true := by kernel_rfl
theorem f_actions_1_1 (p : Int × Int) (args : List Int) (h1 : 0 ≤ p.1) (h2 : p.1 < args.length) (h3 : 0 ≤ p.2) (h4 : p.2 < args.length) : Fc Go.Proofs.Tryz.prog 85 [pairV p, .cptr .p (.sl .p (args.map i64V)) 0] (.bool (sameArg args p)) := by
  obtain ⟨x, hx⟩ := get_some (l := args) (k := p.1.toNat) (by omega)
  obtain ⟨y, hy⟩ := get_some (l := args) (k := p.2.toNat) (by omega)
  refine Fn.step mixed k_ground_grounder_actions_1_1 ?_
  repeat' (first | refine i_s rfl ?_ | refine sw ?_ | refine jd rfl rfl ?_ | refine i_box rfl rfl ?_)
  refine e_ret ⟨rfl, _, rfl, congrArg V.bool ?_⟩
  unfold sameArg
  rw [hx, hy]
  by_cases e : x = y
  · simp [e]
  · simp [e]
def c_ground_grounder_actions : Cmd :=
 (qS [qx 1 2432065 1 0, qq 2 (.mov (.c (.nilfn)))]
 (.seq (.ops [qq 3 (.mkfn 84 [.t 1]), qm 2 3]) .ret))
def r_ground_grounder_actions : List RVar := [.tmp 2]
def n_ground_grounder_actions : Nat := 4
theorem k_ground_grounder_actions : chkFn Go.Proofs.Tryz.prog 38 n_ground_grounder_actions r_ground_grounder_actions c_ground_grounder_actions = true := by kernel_rfl
theorem f_ground_actions (d : Dom) : Fc Go.Proofs.Tryz.prog 38 [grP d (fluL d) (denL d)] (.fn 84 [gP d]) := by
  refine Fn.step mixed k_ground_grounder_actions ?_
  repeat' (first | refine i_s rfl ?_ | refine sw ?_ | refine i_box rfl rfl ?_)
  exact e_ret ⟨rfl, _, rfl, rfl⟩
def c_ground_grounder_actions_1 : Cmd :=
 (qS [qx 2 5376129 1 0]
 (qS [ql 10 1 1, qq 11 (.nilck (.t 10)), qf 12 0 11, qf 13 3 12, ql 14 1 13, qn 15 14, qc 16 0]
 (.block 0 (.loop (qS [qu 17 .lss [] 16 15]
 (qT (.cond (.t 17) .skip (.exit 0))
 (qT (.block 1 (qS [qm 18 16, qi 19 7 14 16, qL 20 7 19, qq 3 (.alloc 5376193 (.int .i64 0)), qq 4 (.alloc 5376263 (.agg [.str [], .sl .nil [], .sl .nil [], .sl .nil [], .sl .nil [], .sl .nil [], .int .i64 0])), qs 1 3 18, qs 7 4 20]
 (qS [ql 21 1 1, qq 22 (.nilck (.t 21)), qf 23 0 22, qL 24 6 23, qf 25 1 4, ql 26 1 25, qk 27 29 [24, 26]]
 (.block 2 (.rangeF [] (.t 27) [28] (.ops [qq 5 (.alloc 5376321 (.sl .nil [])), qs 1 5 28]) (.block 3 (qS [qq 29 (.mkfn 85 [.t 5]), qm 6 29]
 (qT (qS [qf 30 2 4, ql 31 1 30, qm 32 6, qk 33 86 [31, 32]]
 (.cond (.t 33) (.exit 3) .skip))
 (qS [ql 35 1 1, qf 36 3 4, ql 37 1 36, ql 38 1 5, qk 39 87 [35, 37, 38], qm 34 39, qq 40 (.extract (.t 34) 0), qq 41 (.extract (.t 34) 1), qm 7 40, qm 8 41]
 (qT (qS [qm 42 8, qq 43 (.not (.t 42))]
 (.cond (.t 43) (.exit 3) .skip))
 (qS [ql 44 1 3, ql 45 1 5, qq 46 (.build [.int .i64 0, .sl .nil []] [(0 , 1 , .t 44), (1 , 1 , .t 45)]), qm 47 7, qf 48 6 4, ql 49 1 48, qq 50 (.build [.int .i64 0, .sl .nil [], .sl .nil [], .sl .nil [], .sl .nil [], .int .i64 0] [(0 , 2 , .t 46), (2 , 1 , .t 47), (5 , 1 , .t 49)]), qq 9 (.alloc 5376582 (.agg [.int .i64 0, .sl .nil [], .sl .nil [], .sl .nil [], .sl .nil [], .int .i64 0])), qs 6 9 50]
 (qS [ql 52 1 1, qL 53 7 4, ql 54 1 5, qk 55 88 [52, 53, 54], qm 51 55, qq 56 (.extract (.t 51) 0), qq 57 (.extract (.t 51) 1), qf 58 3 9, qs 1 58 56, qf 59 4 9, qs 1 59 57]
 (qS [ql 60 1 2, qL 61 6 9, qq 62 (.call .y (.t 60) [.t 61]), qq 63 (.not (.t 62))]
 (.cond (.t 63) .ret .skip))))))))))))))
 (.ops [qv 64 .add [] 16 1, qm 16 64]))))))))
def r_ground_grounder_actions_1 : List RVar := []
def n_ground_grounder_actions_1 : Nat := 65
theorem k_ground_grounder_actions_1 : chkFn Go.Proofs.Tryz.prog 84 n_ground_grounder_actions_1 r_ground_grounder_actions_1 c_ground_grounder_actions_1 = true := by kernel_rfl
abbrev acS (k : Nat) (s : Sch) : List (Nat × Blk) := [(5376129, .box .rnd), (5376193, .box (.int .i64 k)), (5376263, .box (schV s))]
theorem ct_actions_1 {G : Type} {H : HT G} (d : Dom) (hd : DomV d) (ho : DoOk d) (g0 : G) (K : G → Prop) (hy0 : YL H ((actsP d).map acY) g0 K) :
    Cc Go.Proofs.Tryz.prog H 84 [.rnd, gP d] [] (stOf []) g0 fun _ σ' g' => σ' = stOf [] ∧ K g' := by
  have hsl := hd.sl
  refine CT.step _ mixed k_ground_grounder_actions_1 (fun nm hnm => stOf_mem _ nm hnm) fun hM => ?_
  have hy1 := YB_of_YL hM _ _ _ hy0
  rw [actsP_from] at hy1
  clear hy0
  repeat' (first | refine i_len rfl ?_ | refine i_s rfl ?_ | refine sw ?_ | refine i_box rfl rfl ?_)
  refine c_loop (ι := Nat × G) (fun i => [(1, gP d), (2, .bptr 5376129 0), (14, .sl .p (d.schemas.map schV)), (15, .int .i64 d.schemas.length), (16, .int .i64 i.1)]) (fun i => [(5376129, .box .rnd)]) (fun i => i.2)
    (fun i => i.1 ≤ d.schemas.length ∧ YB H ((fromK (actF d) i.1 (d.schemas.drop i.1)).map acY) i.2 fun _ => K) (fun i => d.schemas.length - i.1) (0, g0) ⟨Nat.zero_le _, hy1⟩ ft rfl fun i hi => ?_
  obtain ⟨k, g⟩ := i
  obtain ⟨h1, hy⟩ := hi
  simp only at h1 hy
  clear hy1
  by_cases hlt : k < d.schemas.length
  · obtain ⟨s, hs⟩ := get_some hlt
    rw [drop_cons hs] at hy
    simp only [fromK, List.map_append] at hy
    have hyb := YB_append hM _ _ _ _ hy
    clear hy
    have hv := (schV2_of hd hs).val
    have hso := ho.schemas.2 s (mem_get hs)
    have hCh := f_ground_choices d s.types
    have htl := hv.types.1
    have hdl := hv.dl
    repeat' (first | refine i_s rfl ?_ | refine sw ?_ | refine jd rfl rfl ?_ | refine i_stb rfl ?_ | refine i_alloc rfl ?_ | refine c_cond rfl (fun h => ?_) (fun h => ?_) | refine sf rfl rfl hCh ?_ | fail)
    all_goals first
      | (exfalso; simp at *; done)
      | (exfalso; simp at *; omega)
      | skip
    refine c_rangeS [(1, gP d), (2, .bptr 5376129 0), (3, .bptr 5376193 0), (4, .bptr 5376263 0), (14, .sl .p (d.schemas.map schV)), (15, .int .i64 d.schemas.length), (16, .int .i64 k)] (acS k s) [5376129, 5376193, 5376263]
      [] (acS k s) rfl ft rfl rfl rfl rfl ?_
    clear hCh
    refine Cc_mono ?_ (ct_choices_1 d hd.ty s.types (by omega) _ (fun st => ∃ g', (st = (stOf (acS k s), g', none) ∧ YB H ((fromK (actF d) (k + 1) (d.schemas.drop (k + 1))).map acY) g' fun _ => K) ∨ (st = (stOf (acS k s), g', some .ret) ∧ K g')) ?_)
    · rintro _ σ' st ⟨rfl, g', ⟨rfl, hk⟩ | ⟨rfl, hk⟩⟩
      · refine ⟨rfl, ?_⟩
        show WE _ _ _ _ _ .normal _ _ _
        repeat (first | refine i_s rfl ?_ | refine sw ?_ | refine ja rfl rfl ?_)
        exact e_loop ⟨(k + 1, g'), ⟨hlt, hk⟩, ft, rfl, by simp only; omega⟩
      · refine ⟨rfl, ?_⟩
        show WE _ _ _ _ _ .ret _ _ _
        exact e_ret ⟨rfl, _, rfl, rfl, rfl, restr_stOf _ _, hk⟩
    · refine YL_pass (h := acY) hM (RHm hM) (acP d k s) (fun g => (stOf (acS k s), g, none)) (fun g => (stOf (acS k s), g, some .ret)) (argL d s.types) g (fun c hc g K' hK => ?_) ?_
      · clear hyb
        have hargs := argL_argsOk hc
        obtain ⟨ha1, ha2⟩ := hargs
        have hargs := argL_argsOk hc
        have hC := f_ContainsFunc_2_int s.diff (sameArg c) 85 [.cptr .p (.sl .p (c.map i64V)) 0] (by omega) (fun _ _ => rfl) rfl (fun p hp => by
          have := hv.diff p hp
          exact f_actions_1_1 p c (by omega) (by omega) (by omega) (by omega))
        have hN := f_needs d hd (by have := ho.init.1; omega) ho.init.2 (denL d) s.pre c (by have := hv.prel; omega) (by omega) (fun x hx => fitA_of hargs hd.ty (hso.preA x hx) (hv.pre x hx)) (fun x hx => (atom_args (hv.pre x hx)).1)
        have hE := f_effects d (fluL d) (denL d) s c (by omega) (by have := hv.addl; omega) (by have := hv.dell; omega) (fun x hx => fitA_of hargs hd.ty (hso.addA x hx) (hv.add x hx)) (fun x hx => fitA_of hargs hd.ty (hso.delA x hx) (hv.del x hx))
          (by have := sdA_len (s.add.map (bindA c)); have := hv.addl; simp only [List.length_map] at *; omega) (by have := sdA_len (s.del.map (bindA c)); have := hv.dell; simp only [List.length_map] at *; omega)
        refine rh_intro hM rfl ?_
        repeat (first | refine sw ?_ | refine i_stb rfl ?_ | refine i_alloc rfl ?_)
        refine e_end ?_
        show WC _ _ _ _ [] _ _ _ _
        cases hdf : s.diff.any (sameArg c) with
        | true =>
          have e : acP d k s c = none := by unfold acP; rw [if_pos hdf]
          rw [e] at hK
          change K' (.bool true) _ at hK
          rw [hdf] at hC
          clear hN hE e
          repeat' (first | refine i_s rfl ?_ | refine sw ?_ | refine c_t rfl ?_ | refine sf rfl rfl hC ?_ | fail)
          all_goals first
            | (exfalso; clear hC; simp at *; done)
            | skip
          refine e_end ?_
          exact rhq_n rfl rfl hK
        | false =>
          rw [hdf] at hC
          cases hn : needP d c s.pre [] with
          | none =>
            have e : acP d k s c = none := by unfold acP; rw [hn, hdf]; rfl
            rw [e] at hK
            change K' (.bool true) _ at hK
            rw [hn] at hN
            have hN : Fc Go.Proofs.Tryz.prog 87 [grP d (fluL d) (denL d), .sl .p (s.pre.map litV), .sl .p (c.map i64V)] (.tup [.sl .p [], .bool false]) := hN
            clear hE e
            repeat' (first | refine i_s rfl ?_ | refine sw ?_ | refine c_t rfl ?_ | refine c_f rfl ?_ | refine sf rfl rfl hC ?_ | refine sf rfl rfl hN ?_ | fail)
            all_goals first
              | (exfalso; clear hC hN; simp at *; done)
              | skip
            refine e_end ?_
            exact rhq_n rfl rfl hK
          | some n =>
            have e : acP d k s c = some ⟨k, c, n, addOf (sdA (s.add.map (bindA c))) (sdA (s.del.map (bindA c))), delOf (sdA (s.add.map (bindA c))) (sdA (s.del.map (bindA c))), s.cost⟩ := by unfold acP; rw [hn, hdf]; rfl
            rw [e] at hK
            simp only at hK
            rw [hn] at hN
            have hN : Fc Go.Proofs.Tryz.prog 87 [grP d (fluL d) (denL d), .sl .p (s.pre.map litV), .sl .p (c.map i64V)] (.tup [.sl .p (n.map litV), .bool true]) := hN
            clear e
            generalize addOf (sdA (s.add.map (bindA c))) (sdA (s.del.map (bindA c))) = A at *
            generalize delOf (sdA (s.add.map (bindA c))) (sdA (s.del.map (bindA c))) = D at *
            repeat' (first | refine i_s rfl ?_ | refine sw ?_ | refine c_f rfl ?_ | refine i_stb rfl ?_ | refine i_alloc rfl ?_ | refine sf rfl rfl hC ?_ | refine sf rfl rfl hN ?_ | refine sf rfl rfl hE ?_ | fail)
            all_goals first
              | (exfalso; clear hC hN hE; simp at *; done)
              | skip
            refine i_y hM rfl rfl rfl (hM _ _ _ _ (fun u g' hu => ?_) hK)
            rcases hu with ⟨rfl, hu⟩ | ⟨rfl, hu⟩
            · repeat (first | refine i_s rfl ?_ | refine sw ?_ | refine c_f rfl ?_)
              refine e_end ?_
              exact rhq_n rfl rfl hu
            · repeat (first | refine i_s rfl ?_ | refine sw ?_ | refine c_t rfl ?_)
              refine e_ret ?_
              exact rhq_r rfl rfl hu
      · refine YB_mono hM _ _ _ _ (fun b g' hb => ?_) hyb
        rcases hb with ⟨rfl, hb⟩ | ⟨rfl, hb⟩
        · exact ⟨g', .inl ⟨rfl, hb⟩⟩
        · exact ⟨g', .inr ⟨rfl, hb⟩⟩
  · have hge : k = d.schemas.length := by omega
    subst hge
    rw [List.drop_length] at hy
    repeat' (first | refine i_s rfl ?_ | refine sw ?_ | refine c_cond rfl (fun h => ?_) (fun h => ?_))
    all_goals first
      | (exfalso; simp at *; done)
      | (exfalso; simp at *; omega)
      | skip
    exact e_end ⟨rfl, _, rfl, rfl, rfl, restr_stOf _ _, hy⟩
def c_slices_AppendSeq_action : Cmd :=
 (qS [qx 2 5312129 1 0, qq 4 (.mov (.c (.sl .nil [])))]
 (qT (.seq (.ops [qm 6 1]) (.nvs 2 5313286 (.cut (.block 0 (.rangeF [] (.t 6) [7] (.ops [qq 5 (.alloc 5312326 (.agg [.int .i64 0, .sl .nil [], .sl .nil [], .sl .nil [], .sl .nil [], .int .i64 0])), qs 6 5 7]) (.block 1 (.ops [ql 8 1 2, qL 9 6 5, qq 10 (.bsl 6 [.t 9]), qq 11 (.append 6 112 88 (.t 8) (.t 10)), qs 1 2 11])))))))
 (.seq (.ops [ql 12 1 2, qm 4 12]) .ret)))
def r_slices_AppendSeq_action : List RVar := [.tmp 4]
def n_slices_AppendSeq_action : Nat := 13
theorem k_slices_AppendSeq_action : chkFn Go.Proofs.Tryz.prog 83 n_slices_AppendSeq_action r_slices_AppendSeq_action c_slices_AppendSeq_action = true := by kernel_rfl
abbrev apS (l : List Ac) : List (Nat × Blk) := [(5312129, .box (.sl (.own 5313286) (l.map acV))), (5313286, .vec l.length)]
theorem ct_AppendSeq_action {G : Type} {H : HT G} (d : Dom) (hd : DomV d) (ho : DoOk d) (g : G) :
    Cc Go.Proofs.Tryz.prog H 83 [.sl .nil [], .fn 84 [gP d]] [5313286] (stOf [(5313286, .unused)]) g fun r σ' g' => (r = .sl (.own 5313286) ((actsP d).map acV) ∧ σ' = stOf [(5313286, .vec (actsP d).length)]) ∧ g' = g := by
  have hL := actsP_len hd
  refine CT.step _ mixed k_slices_AppendSeq_action (fun nm hnm => stOf_mem _ nm hnm) fun hM => ?_
  repeat (first | refine i_s rfl ?_ | refine sw ?_ | refine i_box rfl rfl ?_)
  refine c_nvs rfl rfl rfl ?_
  repeat refine sw ?_
  refine c_rangeS [(2, .bptr 5312129 0)] (apS []) [5312129, 5313286] [] (apS []) rfl ft rfl rfl rfl rfl ?_
  refine Cc_mono ?_ (ct_actions_1 d hd ho _ (fun st => st = (stOf (apS (actsP d)), g, none)) ?_)
  · rintro _ σ' st ⟨rfl, rfl⟩
    refine ⟨rfl, ?_⟩
    show WE _ _ _ _ _ .normal _ _ _
    repeat (first | refine i_s rfl ?_ | refine sw ?_)
    exact e_ret ⟨rfl, _, rfl, rfl, rfl, ⟨rfl, restr_stOf _ _⟩, rfl⟩
  · refine YL_walk (RHm hM) (fun k => (stOf (apS ((actsP d).take k)), g, none)) (actsP d) 0 (fun i c hc K' hk => ?_) ?_
    · rw [Nat.zero_add] at hk ⊢
      have hlt := get_lt hc
      have hpl : ((actsP d).take i).length ≤ i := by simp; omega
      rw [show (actsP d).take (i + 1) = (actsP d).take i ++ [c] from take_succ_get hc] at hk
      generalize (actsP d).take i = pre at *
      refine rh_intro hM rfl ?_
      repeat (first | refine sw ?_ | refine i_stb rfl ?_ | refine i_alloc rfl ?_)
      refine e_end ?_
      show WC _ _ _ _ [] _ _ _ _
      repeat (first | refine i_s rfl ?_ | refine sw ?_)
      refine i_appM (c := c) rfl rfl rfl rfl rfl (by omega) (by omega) ?_
      repeat (first | refine sw ?_ | refine i_stb rfl ?_)
      refine e_end ?_
      refine rhq_n rfl rfl ?_
      have e2 : (pre ++ [c]).length = pre.length + 1 := by simp
      simp only [apS, e2] at hk
      exact hk
    · rw [Nat.zero_add, List.take_length]
def c_slices_Collect_action : Cmd :=
 (qS [qq 2 (.mov (.c (.sl .nil [])))]
 (.seq (.ops [qm 3 0, qq 4 (.call (.s [5313286]) (.c (.fn 83 [])) [.c (.sl .nil []), .t 3]), qm 2 4]) .ret))
def r_slices_Collect_action : List RVar := [.tmp 2]
def n_slices_Collect_action : Nat := 5
theorem k_slices_Collect_action : chkFn Go.Proofs.Tryz.prog 37 n_slices_Collect_action r_slices_Collect_action c_slices_Collect_action = true := by kernel_rfl
theorem f_Collect_action (d : Dom) (hd : DomV d) (ho : DoOk d) : Fc Go.Proofs.Tryz.prog 37 [.fn 84 [gP d]] (.sl .p ((actsP d).map acV)) := by
  refine Fn.step mixed k_slices_Collect_action ?_
  repeat (first | refine i_s rfl ?_ | refine sw ?_)
  refine i_cs rfl rfl rfl rfl (ct_AppendSeq_action d hd ho _) ?_
  rintro _ _ _ ⟨⟨rfl, rfl⟩, rfl⟩
  repeat (first | refine i_s rfl ?_ | refine sw ?_)
  exact e_ret ⟨rfl, _, rfl, rfl⟩
theorem allAt_ok {d : Dom} (hd : DomV d) {a : At} (h : a ∈ allAt d) : AtOk a := by
  obtain ⟨p, x, hx, h1, h2⟩ := allAt_mem.1 h
  obtain ⟨l1, l2⟩ := argL_rng h2
  have hpl := hd.pl
  have hol := hd.ty.ol
  have hp := get_lt hx
  have ht := (prdVal_of hd hx).types.1
  refine ⟨by omega, fun c hc => ?_, ?_⟩
  · have := l2 c hc
    exact ⟨by omega, by omega⟩
  · rw [h1]; exact ⟨by omega, by omega⟩
theorem factL_ok {d : Dom} (hd : DomV d) : GFOk (factL d) := by
  refine ⟨?_, fun x hx => allAt_ok hd (factL_mem.1 hx).1⟩
  unfold factL
  rw [List.length_append]
  have h1 := Nat.le_trans (posK_len d d.preds.length) (atomsK_4096 hd (Nat.le_refl _))
  have h2 := Nat.le_trans (negK_len d d.preds.length) (atomsK_4096 hd (Nat.le_refl _))
  omega
theorem actsP_ok {d : Dom} (hd : DomV d) (ho : DoOk d) {a : Ac} (h : a ∈ actsP d) : ActOk a := by
  obtain ⟨i, s, args, n, hs, hl, hn, _, rfl⟩ := actsP_mem h
  have hv := (schV2_of hd hs).val
  have hso := ho.schemas.2 s (mem_get hs)
  have hargs := argL_argsOk hl
  have hpl := hv.prel
  have hal := hv.addl
  have hdl := hv.dell
  have hA : ∀ a ∈ sdA (s.add.map (bindA args)), AtOk a := fun a ha => by
    rw [sdA_mem] at ha
    obtain ⟨b, hb, rfl⟩ := List.mem_map.1 ha
    exact bindA_ok hargs hd.ty (hso.addA b hb) (hv.add b hb)
  have hD : ∀ a ∈ sdA (s.del.map (bindA args)), AtOk a := fun a ha => by
    rw [sdA_mem] at ha
    obtain ⟨b, hb, rfl⟩ := List.mem_map.1 ha
    exact bindA_ok hargs hd.ty (hso.delA b hb) (hv.del b hb)
  have lA := sdA_len (s.add.map (bindA args))
  have lD := sdA_len (s.del.map (bindA args))
  rw [List.length_map] at lA lD
  have lf := List.length_filter_le (fun a => !decide (a ∈ sdA (s.add.map (bindA args)))) (sdA (s.del.map (bindA args)))
  refine ⟨⟨by have := needP_len hn; simp only [List.length_nil] at this; simp only; omega, fun y hy => ?_⟩, ⟨by simp only [addOf, List.length_append, List.length_map]; omega, fun y hy => ?_⟩, ⟨by simp only [delOf, List.length_append, List.length_map]; omega, fun y hy => ?_⟩⟩
  · rcases needP_mem hn y hy with h | ⟨x, hx, _, rfl⟩
    · cases h
    · exact bindA_ok hargs hd.ty (hso.preA x hx) (hv.pre x hx)
  · rcases addOf_mem.1 hy with ⟨_, h⟩ | ⟨_, h, _⟩
    · exact hA _ h
    · exact hD _ h
  · rcases delOf_mem.1 hy with ⟨_, h⟩ | ⟨_, h, _⟩
    · exact hA _ h
    · exact hD _ h
def fuG (d : Dom) : Grd := if atF d = okF then buildG d (factL d) (actsP d) else grZ
def fuF (d : Dom) : Flt := if atF d = okF then buildF (factL d) (actsP d) else atF d
def reG (d : Dom) : Grd := if atF d = okF then buildG d (rFacts d (rsOf d (actsP d))) (rActs (actsP d) (rsOf d (actsP d))) else grZ
def reF (d : Dom) : Flt := if atF d = okF then buildF (rFacts d (rsOf d (actsP d))) (rActs (actsP d) (rsOf d (actsP d))) else atF d
def c_ground_Full : Cmd :=
 (qS [qx 1 832070 6 0, qq 2 (.alloc 832134 (.agg [.int .i64 0, .sl .nil [], .sl .nil [], .sl .nil [], .sl .nil [], .sl .nil []])), qq 3 (.alloc 832194 (.agg [.int .i64 0, .int .i64 0]))]
 (qS [qL 7 6 1, qk 8 34 [7], qm 6 8, qq 9 (.extract (.t 6) 0), qq 10 (.extract (.t 6) 1), qq 5 (.alloc 832322 (.agg [.int .i64 0, .int .i64 0])), qm 4 9, qs 2 5 10]
 (qT (qS [qL 11 2 5, qq 12 (.build [.int .i64 0, .int .i64 0] []), qq 13 (.bin .neq true [.i, .i] (.t 11) (.t 12))]
 (.cond (.t 13) (.seq (.opsT (.node 1 2 (.leaf [0, 1, 2, 3]) (.leaf [0, 2, 1, 3])) [qq 14 (.build [.int .i64 0, .sl .nil [], .sl .nil [], .sl .nil [], .sl .nil [], .sl .nil []] []), qL 15 2 5, qs 6 2 14, qs 2 3 15]) .ret) .skip))
 (.seq (.ops [qm 16 4, qm 17 4, qk 18 36 [17], qm 19 4, qk 20 38 [19], qk 21 37 [20], qk 22 35 [16, 18, 21], qq 23 (.extract (.t 22) 0), qq 24 (.extract (.t 22) 1), qs 6 2 23, qs 2 3 24]) .ret))))
def r_ground_Full : List RVar := [.cell true 6 2, .cell true 2 3]
def n_ground_Full : Nat := 25
theorem k_ground_Full : chkFn Go.Proofs.Tryz.prog 13 n_ground_Full r_ground_Full c_ground_Full = true := by kernel_rfl
theorem f_Full (d : Dom) (ho : DoOk d) : Fc Go.Proofs.Tryz.prog 13 [domV d] (.tup [grdV (fuG d), ftV (fuF d)]) := by
  by_cases h : atF d = okF
  · have hS := f_start_ok d ho h
    have hd := domV_of (atF_dom h).1
    have hL := f_literals d hd
    have hA := f_ground_actions d
    have hC := f_Collect_action d hd ho
    have hB := f_build d hd ho (factL d) (actsP d) (factL_ok hd) (by have := actsP_len hd; omega) (fun a ha => actsP_ok hd ho ha)
    have e1 : fuG d = buildG d (factL d) (actsP d) := by unfold fuG; rw [if_pos h]
    have e2 : fuF d = buildF (factL d) (actsP d) := by unfold fuF; rw [if_pos h]
    rw [e1, e2]
    clear e1 e2
    refine Fn.step mixed k_ground_Full ?_
    repeat' (first | refine i_s rfl ?_ | refine sw ?_ | refine c_f rfl ?_ | refine i_stb rfl ?_ | refine i_alloc rfl ?_ | refine i_box rfl rfl ?_ | refine sf rfl rfl hS ?_ | refine sf rfl rfl hL ?_ | refine sf rfl rfl hA ?_ | refine sf rfl rfl hC ?_ | refine sf rfl rfl hB ?_ | fail)
    all_goals first
      | exact e_ret ⟨rfl, _, rfl, rfl⟩
      | (exfalso; clear hS hL hA hC hB; simp at *; done)
  · have hS := f_start_bad d ho h
    have e1 : fuG d = grZ := by unfold fuG; rw [if_neg h]
    have e2 : fuF d = atF d := by unfold fuF; rw [if_neg h]
    rw [e1, e2]
    refine Fn.step mixed k_ground_Full ?_
    repeat' (first | refine i_s rfl ?_ | refine sw ?_ | refine i_stb rfl ?_ | refine i_alloc rfl ?_ | refine i_box rfl rfl ?_ | (refine sp ?_ ?_ <;> try intro h) | refine sf rfl rfl hS ?_ | fail)
    all_goals first
      | exact e_ret ⟨rfl, _, rfl, rfl⟩
      | exact absurd (eq_ok h) (by assumption)
def c_ground_Reach_1 : Cmd :=
 (qS [qb 3 false]
 (.seq (.ops [ql 4 1 1, qm 5 0, qi 6 1 4 5, ql 7 1 6, qq 8 (.not (.t 7)), qm 3 8]) .ret))
def r_ground_Reach_1 : List RVar := [.tmp 3]
def n_ground_Reach_1 : Nat := 9
theorem k_ground_Reach_1 : chkFn Go.Proofs.Tryz.prog 45 n_ground_Reach_1 r_ground_Reach_1 c_ground_Reach_1 = true := by kernel_rfl
theorem f_Reach_1 (n : Nat) (q : Nat → Bool) (p : Int) (p0 : 0 ≤ p) (p1 : p < n) : Fc Go.Proofs.Tryz.prog 45 [.int .i64 p, .cptr .p (.sl .p (flV n q)) 0] (.bool (!q p.toNat)) := by
  have hg : (flagsL n q)[p.toNat]? = some (q p.toNat) := flags_get (by omega)
  refine Fn.step mixed k_ground_Reach_1 ?_
  repeat' (first | refine i_s rfl ?_ | refine sw ?_ | refine jd rfl rfl ?_ | fail)
  exact e_ret ⟨rfl, _, rfl, rfl⟩
theorem flags_congr {n : Nat} {q q' : Nat → Bool} (h : ∀ p, p < n → q p = q' p) : flagsL n q = flagsL n q' := by
  apply List.ext_getElem?
  intro k
  by_cases hk : k < n
  · rw [flags_get hk, flags_get hk, h k hk]
  · rw [List.getElem?_eq_none_iff.2 (by rw [flags_len]; omega), List.getElem?_eq_none_iff.2 (by rw [flags_len]; omega)]
theorem set_next {A : List V} {z v : V} {m k : Nat} (hA : A.length = k) (hk : k < m) : (A ++ List.replicate (m - k) z).set k v = (A ++ [v]) ++ List.replicate (m - (k + 1)) z := by
  rw [List.set_append_right _ _ (by omega), show m - k = (m - (k + 1)) + 1 from by omega, List.replicate_succ, hA, Nat.sub_self, List.set_cons_zero, List.append_assoc]
  rfl
theorem get_next {A : List V} {z : V} {m k : Nat} (hA : A.length = k) (hk : k < m) : (A ++ List.replicate (m - k) z)[k]? = some z := by
  rw [List.getElem?_append_right (by omega), hA, Nat.sub_self, List.getElem?_replicate, if_pos (by omega)]
theorem ready_eq {F : List Lit} {a : Ac} {hv : List Lit} (h : ∀ x ∈ a.pre, x ∈ F) : (nums F a.pre).any (fun p => !inAt F hv p.toNat) = !readyB a hv := by
  rw [Bool.eq_iff_iff]
  simp only [List.any_eq_true, Bool.not_eq_true', readyB]
  constructor
  · rintro ⟨p, hp, h1⟩
    obtain ⟨p0, x, hx, h2⟩ := nums_mem.1 hp
    unfold inAt at h1
    rw [hx] at h1
    have h1 : decide (x ∈ hv) = false := h1
    apply Bool.eq_false_iff.2
    intro h3
    have := List.all_eq_true.1 h3 x h2
    rw [h1] at this
    cases this
  · intro h1
    have h2 := Bool.eq_false_iff.1 h1
    have : ∃ x ∈ a.pre, ¬ x ∈ hv := by
      apply Classical.byContradiction
      intro hn
      apply h2
      rw [List.all_eq_true]
      intro x hx
      have : x ∈ hv := Classical.byContradiction fun h' => hn ⟨x, hx, h'⟩
      exact decide_eq_true this
    obtain ⟨x, hx, hn⟩ := this
    obtain ⟨i, hi⟩ := List.getElem?_of_mem (h x hx)
    refine ⟨(i : Int), nums_mem.2 ⟨by omega, x, by simpa using hi, hx⟩, ?_⟩
    unfold inAt
    rw [Int.toNat_natCast, hi]
    exact decide_eq_false hn
theorem atF_code {d : Dom} (h : atF d ≠ okF) : (atF d).code ≠ 0 := by
  by_cases h1 : domFault d = okF
  · by_cases h2 : (allAt d).length > 400
    · rw [(atF_big h1 h2).1]; decide
    · exact absurd (atF_ok h1 (by omega)).1 h
  · rw [(atF_bad h1).1]
    exact fun e => h1 ((domFault_code' d).1 e)
def c_ground_Reach : Cmd :=
 (qS [qx 1 960070 6 0, qq 2 (.alloc 960134 (.agg [.int .i64 0, .sl .nil [], .sl .nil [], .sl .nil [], .sl .nil [], .sl .nil []])), qq 3 (.alloc 960194 (.agg [.int .i64 0, .int .i64 0]))]
 (qS [qL 27 6 1, qk 28 34 [27], qm 26 28, qq 29 (.extract (.t 26) 0), qq 30 (.extract (.t 26) 1), qq 5 (.alloc 960322 (.agg [.int .i64 0, .int .i64 0])), qm 4 29, qs 2 5 30]
 (qT (qS [qL 31 2 5, qq 32 (.build [.int .i64 0, .int .i64 0] []), qq 33 (.bin .neq true [.i, .i] (.t 31) (.t 32))]
 (.cond (.t 33) (.seq (.opsT (.node 1 2 (.leaf [0, 1, 2, 3]) (.leaf [0, 2, 1, 3])) [qq 34 (.build [.int .i64 0, .sl .nil [], .sl .nil [], .sl .nil [], .sl .nil [], .sl .nil []] []), qL 35 2 5, qs 6 2 34, qs 2 3 35]) .ret) .skip))
 (qS [qm 36 4, qk 37 36 [36], qm 38 4, qk 39 38 [38], qk 40 37 [39], qm 6 37, qm 7 40]
 (qS [qm 41 6, qn 42 41, qq 43 (.mkSl 962753 1 1 (.bool false) (.t 42) (.t 42)), qq 8 (.alloc 960513 (.sl .nil [])), qs 1 8 43]
 (qT (qS [qm 44 6, qn 45 44, qc 46 0]
 (.block 0 (.loop (qS [qu 47 .lss [] 46 45]
 (qT (.cond (.t 47) .skip (.exit 0))
 (qT (.block 1 (qS [qm 48 46, qi 49 3 44 46, qL 50 3 49, qq 10 (.alloc 960643 (.agg [.bool false, .int .i64 0, .sl .nil []])), qm 9 48, qs 3 10 50]
 (.ops [ql 51 1 8, qm 52 9, qm 53 4, qL 54 3 10, qk 55 42 [53, 54], qi 56 1 51 52, qs 1 56 55])))
 (.ops [qv 57 .add [] 46 1, qm 46 57])))))))
 (qT (.opsT (.node 2 5 (.leaf [0, 1, 3, 4, 2, 6, 5, 7]) (.leaf [0, 1, 3, 4, 5, 2, 6, 7])) [qm 58 7, qn 59 58, qq 60 (.mkSl 963841 1 24 (.sl .nil []) (.t 59) (.t 59)), qm 61 7, qn 62 61, qq 63 (.mkSl 964033 1 24 (.sl .nil []) (.t 62) (.t 62)), qm 11 60, qm 12 63])
 (.seq (qS [qm 64 7, qn 65 64, qc 66 0]
 (.block 2 (.loop (qS [qu 67 .lss [] 66 65]
 (qT (.cond (.t 67) .skip (.exit 2))
 (qT (.block 3 (qS [qm 68 66, qi 69 6 64 66, qL 70 6 69, qq 14 (.alloc 960902 (.agg [.int .i64 0, .sl .nil [], .sl .nil [], .sl .nil [], .sl .nil [], .int .i64 0])), qm 13 68, qs 6 14 70]
 (.ops [qm 71 11, qm 72 13, qm 73 12, qm 74 13, qm 75 6, qf 76 2 14, ql 77 1 76, qk 78 43 [75, 77], qm 79 6, qf 80 3 14, ql 81 1 80, qk 82 43 [79, 81], qi 83 1 71 72, qs 1 83 78, qi 84 1 73 74, qs 1 84 82])))
 (.ops [qv 85 .add [] 66 1, qm 66 85]))))))) (.seq (.frz 12) (qT (.frz 11)
 (qS [qm 86 7, qn 87 86, qq 88 (.mkSl 965633 1 1 (.bool false) (.t 87) (.t 87)), qm 15 88]
 (qT (qS [qb 16 true]
 (.block 4 (.loop (qT (qS [qm 89 16]
 (.cond (.t 89) .skip (.exit 4)))
 (.block 5 (qS [qb 16 false]
 (qS [qm 90 7, qn 91 90, qc 92 0]
 (.block 6 (.loop (qS [qu 93 .lss [] 92 91]
 (qT (.cond (.t 93) .skip (.exit 6))
 (qT (.block 7 (qS [qm 94 92, qm 17 94]
 (qS [qm 95 15, qm 96 17, qi 97 1 95 96, ql 98 1 97, qq 99 (.not (.t 98)), qm 100 99, qg 101 100 true (.mov (.t 11)), qg 102 100 true (.mov (.t 17)), qg 103 100 true (.iaddr 1 (.t 101) (.t 102)), qg 104 100 true (.load false 1 (.t 103)), qg 105 100 true (.mkfn 45 [.t 8]), qg 106 100 true (.call .f (.c (.fn 44 [])) [.t 104, .t 105]), qg 107 100 true (.not (.t 106)), qq 108 (.pick (.t 100) (.t 107) (.c (.bool false)))]
 (.cond (.t 108) (qS [qm 109 15, qm 110 17, qi 111 1 109 110, .op none none (.store 1 (.t 111) (.c (.bool true))), qb 16 true]
 (qS [qm 112 12, qm 113 17, qi 114 1 112 113, ql 115 1 114, qn 116 115, qc 117 0]
 (.block 8 (.loop (qS [qu 118 .lss [] 117 116]
 (qT (.cond (.t 118) .skip (.exit 8))
 (qT (.block 9 (qS [qi 119 1 115 117, ql 120 1 119, qm 19 120]
 (.ops [ql 121 1 8, qm 122 19, qi 123 1 121 122, .op none none (.store 1 (.t 123) (.c (.bool true)))])))
 (.ops [qv 124 .add [] 117 1, qm 117 124])))))))) .skip))))
 (.ops [qv 125 .add [] 92 1, qm 92 125])))))))))))))
 (qS [qq 20 (.newVec 961283)]
 (qT (qS [qm 126 6, qn 127 126, qc 128 0]
 (.block 10 (.loop (qS [qu 129 .lss [] 128 127]
 (qT (.cond (.t 129) .skip (.exit 10))
 (qT (.block 11 (qS [qm 130 128, qi 131 3 126 128, qL 132 3 131, qq 22 (.alloc 961411 (.agg [.bool false, .int .i64 0, .sl .nil []])), qm 21 130, qs 3 22 132]
 (qS [ql 133 1 8, qm 134 21, qi 135 1 133 134, ql 136 1 135, qm 137 136, qg 138 137 false (.faddr 5 (.t 1)), qg 139 137 false (.load false 1 (.t 138)), qg 140 137 false (.load true 3 (.t 22)), qg 141 137 false (.call .f (.c (.fn 46 [])) [.t 139, .t 140]), qq 142 (.pick (.t 137) (.c (.bool true)) (.t 141))]
 (.cond (.t 142) (.ops [qm 143 20, qL 144 3 22, qq 145 (.bsl 3 [.t 144]), qq 146 (.append 3 40 54 (.t 143) (.t 145)), qm 20 146]) .skip))))
 (.ops [qv 147 .add [] 128 1, qm 128 147])))))))
 (qS [qq 23 (.newVec 961478)]
 (.seq (qS [qm 148 7, qn 149 148, qc 150 0]
 (.block 12 (.loop (qS [qu 151 .lss [] 150 149]
 (qT (.cond (.t 151) .skip (.exit 12))
 (qT (.block 13 (qS [qm 152 150, qi 153 6 148 150, qL 154 6 153, qq 25 (.alloc 961606 (.agg [.int .i64 0, .sl .nil [], .sl .nil [], .sl .nil [], .sl .nil [], .int .i64 0])), qm 24 152, qs 6 25 154]
 (qS [qm 155 15, qm 156 24, qi 157 1 155 156, ql 158 1 157]
 (.cond (.t 158) (.ops [qm 159 23, qL 160 6 25, qq 161 (.bsl 6 [.t 160]), qq 162 (.append 6 112 88 (.t 159) (.t 161)), qm 23 162]) .skip))))
 (.ops [qv 163 .add [] 150 1, qm 150 163]))))))) (.seq (.frz 23) (qT (.frz 20)
 (.seq (.ops [qm 164 4, qm 165 20, qm 166 23, qk 167 35 [164, 165, 166], qq 168 (.extract (.t 167) 0), qq 169 (.extract (.t 167) 1), qs 6 2 168, qs 2 3 169]) .ret)))))))))))))))))))
def r_ground_Reach : List RVar := [.cell true 6 2, .cell true 2 3]
def n_ground_Reach : Nat := 170
theorem k_ground_Reach : chkFn Go.Proofs.Tryz.prog 15 n_ground_Reach r_ground_Reach c_ground_Reach = true := by kernel_rfl
abbrev reE (d : Dom) (F : List Lit) (L : List Ac) (r : List (Nat × V)) : List (Nat × V) := (1, .bptr 960070 0) :: (2, .bptr 960134 0) :: (3, .bptr 960194 0) :: (4, grP d (fluL d) (denL d)) :: (6, .sl .p (F.map litV)) :: (7, .sl .p (L.map acV)) :: (8, .bptr 960513 0) :: r
abbrev reS (d : Dom) (F : List Lit) (q : Nat → Bool) (r : List (Nat × Blk)) : List (Nat × Blk) := (960070, .box (domV d)) :: (960134, .box gZn) :: (960194, .box (ftV okF)) :: (960513, .box (.msl 962753 0 0 F.length)) :: (962753, .arr 0 (flV F.length q)) :: r
abbrev nuV (F l : List Lit) : V := .sl .p ((nums F l).map i64V)
abbrev nuR (F : List Lit) (f : Ac → List Lit) (L : List Ac) (k : Nat) : List V := ((L.take k).map fun a => nuV F (f a)) ++ List.replicate (L.length - k) (.sl .nil [])
abbrev prR (F : List Lit) (L : List Ac) : V := .sl .p (L.map fun a => nuV F a.pre)
abbrev adR (F : List Lit) (L : List Ac) : V := .sl .p (L.map fun a => nuV F a.add)
theorem f_Reach_ok (d : Dom) (ho : DoOk d) (h : atF d = okF) : Fc Go.Proofs.Tryz.prog 15 [domV d] (.tup [grdV (reG d), ftV (reF d)]) := by
  have hS := f_start_ok d ho h
  have hd := domV_of (atF_dom h).1
  have hdi := ho.init
  have hdg := ho.goal
  have hLi := f_literals d hd
  have hAc := f_ground_actions d
  have hCo := f_Collect_action d hd ho
  have hFo := factL_ok hd
  have hLo : ∀ a ∈ actsP d, ActOk a := fun a ha => actsP_ok hd ho ha
  have hLl := actsP_len hd
  have hpf : ∀ a ∈ actsP d, ∀ x ∈ a.pre, x ∈ factL d := fun a ha => pre_facts (doVal_of hd) ha
  have hB := fun s => f_build d hd ho ((factL d).filter fun x => decide (x ∈ RS.hv s) || decide (x ∈ d.goal)) (rActs (actsP d) s) ⟨Nat.le_trans (List.length_filter_le _ _) hFo.len, fun x hx => hFo.ok x (List.mem_filter.1 hx).1⟩ (by have := rActs_len (actsP d) s; omega) (fun a ha => hLo a (rActs_sub ha))
  have e1 : reG d = buildG d ((factL d).filter fun x => decide (x ∈ (rsOf d (actsP d)).hv) || decide (x ∈ d.goal)) (rActs (actsP d) (rsOf d (actsP d))) := by unfold reG; rw [if_pos h]; rfl
  have e2 : reF d = buildF ((factL d).filter fun x => decide (x ∈ (rsOf d (actsP d)).hv) || decide (x ∈ d.goal)) (rActs (actsP d) (rsOf d (actsP d))) := by unfold reF; rw [if_pos h]; rfl
  rw [e1, e2]
  have eR : rsOf d (actsP d) = reachF (actsP d) ⟨List.replicate (actsP d).length false, (factL d).filter (trueL d), true⟩ := rfl
  obtain ⟨R, hR⟩ : ∃ R, R = rsOf d (actsP d) := ⟨_, rfl⟩
  rw [← hR]
  rw [← hR] at eR
  clear e1 e2 hR
  obtain ⟨F, hF⟩ : ∃ F, F = factL d := ⟨_, rfl⟩
  obtain ⟨L, hL⟩ : ∃ L, L = actsP d := ⟨_, rfl⟩
  rw [← hF] at hLi hFo hpf eR ⊢
  rw [← hL] at hCo hLo hLl hpf eR ⊢
  simp only [← hF, ← hL] at hB
  clear hF hL
  have hFl := hFo.len
  replace hB := hB R
  refine Fn.step mixed k_ground_Reach ?_
  repeat' (first | refine i_len rfl ?_ | refine i_s rfl ?_ | refine sw ?_ | refine c_f rfl ?_ | refine i_stb rfl ?_ | refine i_alloc rfl ?_ | refine i_box rfl rfl ?_ | refine sf rfl rfl hS ?_ | refine sf rfl rfl hLi ?_ | refine sf rfl rfl hAc ?_ | refine sf rfl rfl hCo ?_ | fail)
  all_goals first
    | (exfalso; clear hS hLi hAc hCo; simp at *; done)
    | skip
  clear hS hLi hAc hCo
  refine i_mks rfl rfl rfl (by omega) (by omega) (by omega) (by omega) rfl ?_
  repeat (first | refine i_len rfl ?_ | refine i_s rfl ?_ | refine sw ?_ | refine i_stb rfl ?_ | refine i_alloc rfl ?_)
  refine c_for F.length (fun k => reE d F L [(44, .sl .p (F.map litV)), (45, .int .i64 F.length), (46, .int .i64 k)]) (fun k => reS d F (fun p => decide (p < k) && trueAt d F p) []) (fun _ => True) trivial ⟨⟨rfl, rfl, rfl, rfl, rfl, rfl, rfl, rfl, rfl, rfl, trivial⟩, ⟨rfl, rfl, rfl, ?_, ?_, trivial⟩, rfl⟩ fun k hk _ => ?_
  · show Blk.box (V.msl _ 0 0 _) = _
    simp
  · show Blk.arr 0 _ = Blk.arr 0 _
    rw [show ((F.length : Int).toNat) = F.length from by simp]
    refine congrArg (Blk.arr 0) ((flags_zero F.length).trans ?_)
    congr 1
  by_cases hlt : k < F.length
  · obtain ⟨x, hx⟩ := get_some hlt
    have hI := f_initially d (fluL d) (denL d) (by omega) hdi.2 x (hFo.ok x (mem_get hx))
    have hfl := flags_or (n := F.length) (q := fun p => decide (p < k) && trueAt d F p) (q' := fun p => decide (p < k + 1) && trueAt d F p) (c := (k : Int)) (b := trueL d x) (by omega) (by omega) fun p hp => by
      by_cases e : k = p
      · subst e
        have : trueAt d F k = trueL d x := by unfold trueAt; rw [hx]
        simp [this]
      · have h2 : ¬ ((k : Int) = (p : Int)) := by omega
        rw [decide_eq_false h2, Bool.and_false, Bool.or_false]
        congr 1
        exact decide_eq_decide.2 (by omega)
    repeat' (first | refine i_len rfl ?_ | refine i_s rfl ?_ | refine sw ?_ | refine jd rfl rfl ?_ | refine i_stb rfl ?_ | refine i_alloc rfl ?_ | (refine sp ?_ ?_ <;> try intro h) | refine sf rfl rfl hI ?_ | fail)
    all_goals first
      | (exfalso; clear hI; simp at *; done)
      | (exfalso; clear hI; simp at *; omega)
      | skip
    refine i_ima rfl rfl rfl rfl (by omega) (by omega) rfl ?_
    skip
    refine i_stp (row := .bool false) rfl rfl rfl (by rw [Nat.zero_add, List.getElem?_map, flags_get (by omega)]; simp) rfl rfl ?_
    repeat (first | refine i_s rfl ?_ | refine sw ?_ | refine ja rfl rfl ?_)
    refine e_for hlt trivial ⟨⟨rfl, rfl, rfl, rfl, rfl, rfl, rfl, rfl, rfl, rfl, trivial⟩, ⟨rfl, rfl, rfl, rfl, ?_, trivial⟩, rfl⟩
    show Blk.arr 0 _ = Blk.arr 0 _
    rw [Nat.zero_add]
    refine congrArg (Blk.arr 0) (Eq.trans ?_ hfl)
    simp
  have hge : k = F.length := by omega
  subst hge
  repeat (first | refine i_s rfl ?_ | refine sw ?_)
  refine c_f (by exact congrArg V.bool (by simp)) ?_
  repeat refine sw ?_
  have hq0 : flV F.length (fun p => decide (p < F.length) && trueAt d F p) = flV F.length (inAt F (F.filter (trueL d))) := by
    exact congrArg (List.map V.bool) (flags_congr fun p hp => by
      obtain ⟨x, hx⟩ := get_some hp
      rw [decide_eq_true hp, Bool.true_and]
      unfold trueAt inAt
      rw [hx]
      simp only
      rw [Bool.eq_iff_iff, decide_eq_true_eq, List.mem_filter]
      exact ⟨fun h => ⟨mem_get hx, h⟩, fun h => h.2⟩)
  generalize (fun p => decide (p < F.length) && trueAt d F p) = q0 at *
  clear hlt hk
  refine c_join noH_mono (fun e ρ' σ' g' => e = .normal ∧ g' = () ∧ Fits [] (reE d F L [(11, .msl 963841 0 0 L.length), (12, .msl 964033 0 0 L.length)]) (reS d F q0 [(963841, .arr 0 (nuR F Ac.pre L 0)), (964033, .arr 0 (nuR F Ac.add L 0))]) ρ' σ') ?_ ?_
  · repeat' (first | refine i_len rfl ?_ | refine i_s rfl ?_ | refine sw ?_ | refine c_node ?_ ?_)
    all_goals
      refine i_mks rfl rfl rfl (by omega) (by omega) (by omega) (by omega) rfl ?_
      repeat' refine i_s rfl ?_
    all_goals
      refine i_mks rfl rfl rfl (by omega) (by omega) (by omega) (by omega) rfl ?_
      repeat' (first | refine i_s rfl ?_ | refine sw ?_ | fail)
    all_goals
      refine e_end ⟨rfl, rfl, ⟨rfl, rfl, rfl, rfl, rfl, rfl, rfl, ?_, ?_, trivial⟩, ⟨rfl, rfl, rfl, rfl, rfl, ?_, ?_, trivial⟩, rfl⟩
      · show V.msl _ 0 0 _ = _; simp
      · show V.msl _ 0 0 _ = _; simp
      · show Blk.arr 0 _ = Blk.arr 0 _; simp [nuR]
      · show Blk.arr 0 _ = Blk.arr 0 _; simp [nuR]
  rintro _ ρ' σ' g' ⟨rfl, rfl, hf⟩
  refine e_seq ?_
  refine c_cut _ _ hf ?_
  clear hf
  repeat (first | refine i_len rfl ?_ | refine i_s rfl ?_ | refine sw ?_)
  refine c_for L.length (fun k => reE d F L [(11, .msl 963841 0 0 L.length), (12, .msl 964033 0 0 L.length), (64, .sl .p (L.map acV)), (65, .int .i64 L.length), (66, .int .i64 k)]) (fun k => reS d F q0 [(963841, .arr 0 (nuR F Ac.pre L k)), (964033, .arr 0 (nuR F Ac.add L k))]) (fun _ => True) trivial ft fun k hk _ => ?_
  by_cases hlt : k < L.length
  · obtain ⟨a, hx⟩ := get_some hlt
    have hao := hLo a (mem_get hx)
    have hP := f_index F a.pre hFl (by have := hao.pre.len; omega) hFo.ok hao.pre.ok
    have hA := f_index F a.add hFl (by have := hao.add.len; omega) hFo.ok hao.add.ok
    have n1 : ((L.take k).map fun a => nuV F a.pre).length = k := by simp; omega
    have n2 : ((L.take k).map fun a => nuV F a.add).length = k := by simp; omega
    have s1 : (nuR F Ac.pre L k).set k (nuV F a.pre) = nuR F Ac.pre L (k + 1) := by
      show (_ ++ _ : List V).set _ _ = _ ++ _
      rw [set_next n1 hlt, take_succ_get hx, List.map_append]; rfl
    have s2 : (nuR F Ac.add L k).set k (nuV F a.add) = nuR F Ac.add L (k + 1) := by
      show (_ ++ _ : List V).set _ _ = _ ++ _
      rw [set_next n2 hlt, take_succ_get hx, List.map_append]; rfl
    clear hao
    repeat' (first | refine i_s rfl ?_ | refine sw ?_ | refine jd rfl rfl ?_ | refine i_stb rfl ?_ | refine i_alloc rfl ?_ | refine c_cond rfl (fun h => ?_) (fun h => ?_) | refine sf rfl rfl hP ?_ | refine sf rfl rfl hA ?_ | fail)
    all_goals first
      | (exfalso; clear hP hA; simp at *; done)
      | (exfalso; clear hP hA; simp at *; omega)
      | skip
    refine i_ima rfl rfl rfl rfl (by omega) (by omega) rfl ?_
    skip
    refine i_stp (row := .sl .nil []) rfl rfl rfl (by rw [Nat.zero_add]; exact get_next n1 hlt) rfl rfl ?_
    skip
    refine i_ima rfl rfl rfl rfl (by omega) (by omega) rfl ?_
    skip
    refine i_stp (row := .sl .nil []) rfl rfl rfl (by rw [Nat.zero_add]; exact get_next n2 hlt) rfl rfl ?_
    repeat (first | refine i_s rfl ?_ | refine sw ?_ | refine ja rfl rfl ?_)
    refine e_for hlt trivial ⟨⟨rfl, rfl, rfl, rfl, rfl, rfl, rfl, rfl, rfl, rfl, rfl, rfl, trivial⟩, ⟨rfl, rfl, rfl, rfl, rfl, ?_, ?_, trivial⟩, rfl⟩
    · show Blk.arr 0 _ = Blk.arr 0 _
      rw [Nat.zero_add]
      exact congrArg (Blk.arr 0) s1
    · show Blk.arr 0 _ = Blk.arr 0 _
      rw [Nat.zero_add]
      exact congrArg (Blk.arr 0) s2
  have hge : k = L.length := by omega
  subst hge
  repeat' (first | refine i_s rfl ?_ | refine sw ?_ | refine c_cond rfl (fun h => ?_) (fun h => ?_))
  all_goals first
    | (exfalso; simp at *; done)
    | (exfalso; simp at *; omega)
    | skip
  refine c_frzall rfl rfl rfl (by simp [nuR]) ?_
  repeat refine sw ?_
  refine c_frzall rfl rfl rfl (by simp [nuR]) ?_
  repeat (first | refine i_len rfl ?_ | refine i_s rfl ?_ | refine sw ?_)
  refine i_mks rfl rfl rfl (by omega) (by omega) (by omega) (by omega) rfl ?_
  repeat (first | refine i_s rfl ?_ | refine sw ?_)
  have hnu : ∀ f : Ac → List Lit, nuR F f L L.length = L.map fun a => nuV F (f a) := fun f => by simp [nuR]
  clear hlt hk
  refine c_lp (ι := RS) (fun s => reE d F L [(11, prR F L), (12, adR F L), (15, .msl 965633 0 0 L.length), (16, .bool s.again)]) (fun s => reS d F (inAt F s.hv) [(965633, .arr 0 (s.used.map V.bool))])
    (fun s => s.used.length = L.length ∧ reachF L s = R) (fun s => unused s + if s.again = true then 1 else 0) ⟨List.replicate L.length false, F.filter (trueL d), true⟩ ⟨by simp, eR.symm⟩ ⟨⟨rfl, rfl, rfl, rfl, rfl, rfl, rfl, ?_, ?_, ?_, rfl, trivial⟩, ⟨rfl, rfl, rfl, rfl, ?_, ?_, trivial⟩, rfl⟩ fun s hi => ?_
  · exact congrArg (V.sl .p) (hnu Ac.pre)
  · exact congrArg (V.sl .p) (hnu Ac.add)
  · show V.msl _ 0 0 _ = _; simp
  · exact congrArg (Blk.arr 0) hq0
  · show Blk.arr 0 _ = Blk.arr 0 _; simp
  clear hnu hq0 eR
  obtain ⟨h1, h2⟩ := hi
  repeat (first | refine i_s rfl ?_ | refine sw ?_)
  refine c_cond rfl (fun ha => ?_) (fun ha => ?_)
  · have h3 := reachF_step (acts := L) ha
    rw [h2] at h3
    obtain ⟨p1, p2⟩ := pass_unused L s
    have hpl : ∀ k, (passK L ⟨s.used, s.hv, false⟩ k).used.length = L.length := fun k => by rw [passK_len]; exact h1
    repeat (first | refine i_len rfl ?_ | refine i_s rfl ?_ | refine sw ?_)
    refine c_for L.length (fun k => reE d F L [(11, prR F L), (12, adR F L), (15, .msl 965633 0 0 L.length), (16, .bool (passK L ⟨s.used, s.hv, false⟩ k).again), (90, .sl .p (L.map acV)), (91, .int .i64 L.length), (92, .int .i64 k)])
      (fun k => reS d F (inAt F (passK L ⟨s.used, s.hv, false⟩ k).hv) [(965633, .arr 0 ((passK L ⟨s.used, s.hv, false⟩ k).used.map V.bool))]) (fun _ => True) trivial ft fun k hk _ => ?_
    by_cases hlt : k < L.length
    · obtain ⟨a, hx⟩ := get_some hlt
      have hpk := passK_succ L ⟨s.used, s.hv, false⟩ k
      have hpl := hpl k
      generalize hu : passK L ⟨s.used, s.hv, false⟩ (k + 1) = u at *
      generalize passK L ⟨s.used, s.hv, false⟩ k = t at *
      obtain ⟨b, hb⟩ := get_some (l := t.used) (k := k) (by omega)
      have hre := ready_eq (F := F) (hv := t.hv) (hpf a (mem_get hx))
      have hst : stepR L t k = if t.used[k]? = some false ∧ readyB a t.hv = true then ⟨t.used.set k true, t.hv ++ a.add, true⟩ else t := by unfold stepR; rw [hx]
      rw [hst] at hpk
      clear hst p1 p2 h3 ha h2
      have nl1 : (nums F a.pre).length ≤ F.length := selK_len _ _
      have nl2 : (nums F a.add).length ≤ F.length := selK_len _ _
      have hC0 := f_ContainsFunc_int (nums F a.pre) (fun p => !inAt F t.hv p.toNat) 45 [.cptr .p (.sl .p (flV F.length (inAt F t.hv))) 0] (by omega) (fun _ _ => rfl) rfl (fun p hp => by
        obtain ⟨q0, x, q1, _⟩ := nums_mem.1 hp
        have := get_lt q1
        exact f_Reach_1 F.length _ p q0 (by omega))
      rw [hre] at hC0
      have ed : (List.drop 0 (flV F.length (inAt F t.hv))).take F.length = flV F.length (inAt F t.hv) := by rw [List.drop_zero, List.take_of_length_le (by simp [flags_len])]
      rw [← ed] at hC0
      clear hre ed
      cases b with
      | true =>
        rw [if_neg (by rw [hb]; simp)] at hpk
        subst hpk
        clear hC0
        repeat (first | refine i_s rfl ?_ | refine sw ?_)
        refine c_t (by exact congrArg V.bool (by simp [hlt])) ?_
        repeat (first | refine i_s rfl ?_ | refine sw ?_)
        refine i_ima rfl rfl rfl rfl (by omega) (by omega) rfl ?_
        skip
        refine i_ldp (row := .bool true) rfl rfl rfl (by rw [Nat.zero_add, List.getElem?_map, Int.toNat_natCast, hb]; rfl) rfl ?_
        repeat' (first | refine i_s rfl ?_ | refine sw ?_ | refine i_gf rfl ?_ | refine c_f rfl ?_ | refine ja rfl rfl ?_ | fail)
        all_goals first
          | (exfalso; simp at *; done)
          | (exfalso; simp at *; omega)
          | (refine e_for hlt trivial ⟨⟨rfl, rfl, rfl, rfl, rfl, rfl, rfl, rfl, rfl, rfl, ?_, rfl, rfl, rfl, trivial⟩, ⟨rfl, rfl, rfl, rfl, ?_, ?_, trivial⟩, rfl⟩ <;> (rw [hu]; first | done | rfl))
      | false =>
        cases hr : readyB a t.hv with
        | false =>
          rw [if_neg (by rw [hr]; simp)] at hpk
          subst hpk
          rw [hr] at hC0
          repeat (first | refine i_s rfl ?_ | refine sw ?_)
          refine c_t (by exact congrArg V.bool (by simp [hlt])) ?_
          repeat (first | refine i_s rfl ?_ | refine sw ?_)
          refine i_ima rfl rfl rfl rfl (by omega) (by omega) rfl ?_
          skip
          refine i_ldp (row := .bool false) rfl rfl rfl (by rw [Nat.zero_add, List.getElem?_map, Int.toNat_natCast, hb]; rfl) rfl ?_
          repeat' (first | refine i_s rfl ?_ | refine sw ?_ | refine i_gt rfl ?_ | refine c_f rfl ?_ | refine ja rfl rfl ?_ | refine jd rfl rfl ?_ | refine sf rfl rfl hC0 ?_ | fail)
          all_goals first
            | (exfalso; clear hC0; simp at *; done)
            | (exfalso; clear hC0; simp at *; omega)
            | (refine e_for hlt trivial ⟨⟨rfl, rfl, rfl, rfl, rfl, rfl, rfl, rfl, rfl, rfl, ?_, rfl, rfl, rfl, trivial⟩, ⟨rfl, rfl, rfl, rfl, ?_, ?_, trivial⟩, rfl⟩ <;> (rw [hu]; first | done | rfl))
        | true =>
          rw [if_pos ⟨hb, hr⟩] at hpk
          rw [hr] at hC0
          repeat (first | refine i_s rfl ?_ | refine sw ?_)
          refine c_t (by exact congrArg V.bool (by simp [hlt])) ?_
          repeat (first | refine i_s rfl ?_ | refine sw ?_)
          refine i_ima rfl rfl rfl rfl (by omega) (by omega) rfl ?_
          skip
          refine i_ldp (row := .bool false) rfl rfl rfl (by rw [Nat.zero_add, List.getElem?_map, Int.toNat_natCast, hb]; rfl) rfl ?_
          repeat' (first | refine i_s rfl ?_ | refine sw ?_ | refine i_gt rfl ?_ | refine c_t rfl ?_ | refine jd rfl rfl ?_ | refine sf rfl rfl hC0 ?_ | fail)
          all_goals first
            | (exfalso; clear hC0; simp at *; done)
            | (exfalso; clear hC0; simp at *; omega)
            | skip
          refine i_ima rfl rfl rfl rfl (by omega) (by omega) rfl ?_
          skip
          refine i_stp (row := .bool false) rfl rfl rfl (by rw [Nat.zero_add, List.getElem?_map, Int.toNat_natCast, hb]; rfl) rfl rfl ?_
          clear hC0
          repeat' (first | refine i_len rfl ?_ | refine i_s rfl ?_ | refine sw ?_ | refine jd rfl rfl ?_ | fail)
          refine c_for (nums F a.add).length (fun j => reE d F L [(11, prR F L), (12, adR F L), (15, .msl 965633 0 0 L.length), (16, .bool true), (90, .sl .p (L.map acV)), (91, .int .i64 L.length), (92, .int .i64 k), (115, nuV F a.add), (116, .int .i64 (nums F a.add).length), (117, .int .i64 j)])
            (fun j => reS d F (fun p => inAt F t.hv p || decide ((p : Int) ∈ (nums F a.add).take j)) [(965633, .arr 0 ((t.used.set k true).map V.bool))]) (fun _ => True) trivial ⟨⟨rfl, rfl, rfl, rfl, rfl, rfl, rfl, rfl, rfl, rfl, rfl, rfl, rfl, rfl, rfl, rfl, rfl, trivial⟩, ⟨rfl, rfl, rfl, rfl, ?_, ?_, trivial⟩, rfl⟩ fun j hj _ => ?_
          · refine congrArg (fun q => Blk.arr 0 (flV F.length q)) (funext fun p => ?_)
            simp
          · show Blk.arr 0 _ = Blk.arr 0 _
            rw [Nat.zero_add, Int.toNat_natCast, List.map_set]
          by_cases hlj : j < (nums F a.add).length
          · obtain ⟨p, hp⟩ := get_some hlj
            obtain ⟨q0, x, q1, _⟩ := nums_mem.1 (mem_get hp)
            have q2 := get_lt q1
            have hfl := flags_or (n := F.length) (q := fun p => inAt F t.hv p || decide ((p : Int) ∈ (nums F a.add).take j)) (q' := fun p => inAt F t.hv p || decide ((p : Int) ∈ (nums F a.add).take (j + 1))) (c := p) (b := true) q0 (by omega) fun i _ => by
              rw [take_succ_get hp, Bool.true_and, Bool.or_assoc]
              congr 1
              rw [Bool.eq_iff_iff, Bool.or_eq_true, decide_eq_true_eq, decide_eq_true_eq, decide_eq_true_eq, List.mem_append, List.mem_singleton]
              exact ⟨fun h => h.imp id fun h => h.symm, fun h => h.imp id fun h => h.symm⟩
            rw [Bool.or_true] at hfl
            repeat' (first | refine i_s rfl ?_ | refine sw ?_ | refine ja rfl rfl ?_ | refine jd rfl rfl ?_ | refine c_cond rfl (fun h => ?_) (fun h => ?_))
            all_goals first
              | (exfalso; simp at *; done)
              | (exfalso; simp at *; omega)
              | skip
            refine i_ima rfl rfl rfl rfl (by omega) (by omega) rfl ?_
            skip
            refine i_stp (row := .bool (inAt F t.hv p.toNat || decide ((p.toNat : Int) ∈ (nums F a.add).take j))) rfl rfl rfl (by rw [Nat.zero_add, List.getElem?_map, flags_get (by omega)]; rfl) rfl rfl ?_
            repeat (first | refine i_s rfl ?_ | refine sw ?_ | refine ja rfl rfl ?_)
            refine e_for hlj trivial ⟨⟨rfl, rfl, rfl, rfl, rfl, rfl, rfl, rfl, rfl, rfl, rfl, rfl, rfl, rfl, rfl, rfl, rfl, trivial⟩, ⟨rfl, rfl, rfl, rfl, ?_, rfl, trivial⟩, rfl⟩
            show Blk.arr 0 _ = Blk.arr 0 _
            rw [Nat.zero_add]
            exact congrArg (Blk.arr 0) hfl
          have hge : j = (nums F a.add).length := by omega
          subst hge
          rw [List.take_length]
          have hfin : flV F.length (fun p => inAt F t.hv p || decide ((p : Int) ∈ nums F a.add)) = flV F.length (inAt F (t.hv ++ a.add)) := by
            exact congrArg (List.map V.bool) (flags_congr fun p hp => by
              obtain ⟨x, hx⟩ := get_some hp
              have h5 := nums_at (l := a.add) hx
              unfold inAt
              rw [hx]
              simp only
              rw [Bool.eq_iff_iff, Bool.or_eq_true, decide_eq_true_eq, decide_eq_true_eq, decide_eq_true_eq, List.mem_append, h5])
          repeat' (first | refine i_s rfl ?_ | refine sw ?_ | refine ja rfl rfl ?_ | refine c_cond rfl (fun h => ?_) (fun h => ?_))
          all_goals first
            | (exfalso; simp at *; done)
            | (exfalso; simp at *; omega)
            | skip
          refine e_for hlt trivial ⟨⟨rfl, rfl, rfl, rfl, rfl, rfl, rfl, rfl, rfl, rfl, ?_, rfl, rfl, rfl, trivial⟩, ⟨rfl, rfl, rfl, rfl, ?_, ?_, trivial⟩, rfl⟩
          · rw [hu, hpk]; rfl
          · rw [hu, hpk]; exact congrArg (Blk.arr 0) hfin
          · rw [hu, hpk]; first | done | rfl
    have hge : k = L.length := by omega
    subst hge
    repeat' (first | refine i_s rfl ?_ | refine sw ?_ | refine c_cond rfl (fun h => ?_) (fun h => ?_))
    all_goals first
      | (exfalso; simp at *; done)
      | (exfalso; simp at *; omega)
      | skip
    refine e_lp (pass L s) ⟨hpl _, h3.symm⟩ ?_ ft
    rw [ha]
    cases hpa : (pass L s).again with
    | true => have := p2 hpa; simp; omega
    | false => simp; omega
  have h3 := reachF_end (acts := L) ha
  rw [h2] at h3
  subst h3
  clear h2
  have hpr : ∃ pr : Lit → Bool, pr = fun x => decide (x ∈ R.hv) || decide (x ∈ d.goal) := ⟨_, rfl⟩
  obtain ⟨pr, hpr⟩ := hpr
  rw [← hpr] at hB ⊢
  repeat (first | refine i_len rfl ?_ | refine i_s rfl ?_ | refine sw ?_ | refine i_nv rfl ?_)
  refine c_for F.length (fun k => reE d F L [(15, .msl 965633 0 0 L.length), (20, .sl (.own 961283) (((F.take k).filter pr).map litV)), (126, .sl .p (F.map litV)), (127, .int .i64 F.length), (128, .int .i64 k)])
    (fun k => reS d F (inAt F R.hv) [(965633, .arr 0 (R.used.map V.bool)), (961283, .vec ((F.take k).filter pr).length)]) (fun _ => True) trivial ft fun k hk _ => ?_
  by_cases hlt : k < F.length
  · obtain ⟨x, hx⟩ := get_some hlt
    have hH := f_hasLiteral d.goal x (by omega) hdg.2 (hFo.ok x (mem_get hx))
    have hin : inAt F R.hv k = decide (x ∈ R.hv) := by unfold inAt; rw [hx]
    have hpx : pr x = (decide (x ∈ R.hv) || decide (x ∈ d.goal)) := by rw [hpr]
    have e1 := filter_take_succ hx pr
    have l1 := List.length_filter_le pr (F.take k)
    have l2 : (F.take k).length ≤ k := by simp; omega
    generalize hb1 : decide (x ∈ R.hv) = b1 at *
    generalize hb2 : decide (x ∈ d.goal) = b2 at *
    clear hb1 hb2
    cases b1 with
    | true =>
      rw [hpx, Bool.true_or, if_pos rfl] at e1
      clear hH
      repeat (first | refine i_s rfl ?_ | refine sw ?_)
      refine c_t (by exact congrArg V.bool (by simp [hlt])) ?_
      repeat (first | refine i_s rfl ?_ | refine sw ?_ | refine jd rfl rfl ?_ | refine i_stb rfl ?_ | refine i_alloc rfl ?_)
      refine i_ima rfl rfl rfl rfl (by omega) (by omega) rfl ?_
      skip
      refine i_ldp (row := .bool true) rfl rfl rfl (by rw [Nat.zero_add, List.getElem?_map, Int.toNat_natCast, flags_get hlt, hin]; rfl) rfl ?_
      repeat' (first | refine i_s rfl ?_ | refine sw ?_ | refine i_gf rfl ?_ | refine c_t rfl ?_)
      all_goals first
        | (exfalso; simp at *; done)
        | (exfalso; simp at *; omega)
        | skip
      refine i_appM (c := x) rfl rfl rfl rfl rfl (by omega) (by omega) ?_
      repeat' (first | refine i_s rfl ?_ | refine sw ?_ | refine ja rfl rfl ?_ | fail)
      refine e_for hlt trivial ⟨⟨rfl, rfl, rfl, rfl, rfl, rfl, rfl, rfl, ?_, rfl, rfl, rfl, trivial⟩, ⟨rfl, rfl, rfl, rfl, rfl, rfl, ?_, trivial⟩, rfl⟩
      · rw [e1]; rfl
      · rw [e1]; simp; rfl
    | false =>
      rw [Bool.false_or] at hpx
      cases b2 with
      | true =>
        rw [hpx, if_pos rfl] at e1
        repeat (first | refine i_s rfl ?_ | refine sw ?_)
        refine c_t (by exact congrArg V.bool (by simp [hlt])) ?_
        repeat (first | refine i_s rfl ?_ | refine sw ?_ | refine jd rfl rfl ?_ | refine i_stb rfl ?_ | refine i_alloc rfl ?_)
        refine i_ima rfl rfl rfl rfl (by omega) (by omega) rfl ?_
        skip
        refine i_ldp (row := .bool false) rfl rfl rfl (by rw [Nat.zero_add, List.getElem?_map, Int.toNat_natCast, flags_get hlt, hin]; rfl) rfl ?_
        repeat' (first | refine i_s rfl ?_ | refine sw ?_ | refine i_gt rfl ?_ | refine c_t rfl ?_ | refine sf rfl rfl hH ?_ | fail)
        all_goals first
          | (exfalso; clear hH; simp at *; done)
          | (exfalso; clear hH; simp at *; omega)
          | skip
        refine i_appM (c := x) rfl rfl rfl rfl rfl (by omega) (by omega) ?_
        repeat' (first | refine i_s rfl ?_ | refine sw ?_ | refine ja rfl rfl ?_ | fail)
        refine e_for hlt trivial ⟨⟨rfl, rfl, rfl, rfl, rfl, rfl, rfl, rfl, ?_, rfl, rfl, rfl, trivial⟩, ⟨rfl, rfl, rfl, rfl, rfl, rfl, ?_, trivial⟩, rfl⟩
        · rw [e1]; rfl
        · rw [e1]; simp; rfl
      | false =>
        rw [hpx, if_neg (by simp), List.append_nil] at e1
        repeat (first | refine i_s rfl ?_ | refine sw ?_)
        refine c_t (by exact congrArg V.bool (by simp [hlt])) ?_
        repeat (first | refine i_s rfl ?_ | refine sw ?_ | refine jd rfl rfl ?_ | refine i_stb rfl ?_ | refine i_alloc rfl ?_)
        refine i_ima rfl rfl rfl rfl (by omega) (by omega) rfl ?_
        skip
        refine i_ldp (row := .bool false) rfl rfl rfl (by rw [Nat.zero_add, List.getElem?_map, Int.toNat_natCast, flags_get hlt, hin]; rfl) rfl ?_
        repeat' (first | refine i_s rfl ?_ | refine sw ?_ | refine i_gt rfl ?_ | refine c_f rfl ?_ | refine ja rfl rfl ?_ | refine sf rfl rfl hH ?_ | fail)
        all_goals first
          | (exfalso; clear hH; simp at *; done)
          | (exfalso; clear hH; simp at *; omega)
          | skip
        refine e_for hlt trivial ⟨⟨rfl, rfl, rfl, rfl, rfl, rfl, rfl, rfl, ?_, rfl, rfl, rfl, trivial⟩, ⟨rfl, rfl, rfl, rfl, rfl, rfl, ?_, trivial⟩, rfl⟩
        · rw [e1]; rfl
        · rw [e1]; rfl
  have hge : k = F.length := by omega
  subst hge
  rw [List.take_length]
  clear hk hlt
  generalize F.filter pr = A at *
  repeat (first | refine i_s rfl ?_ | refine sw ?_)
  refine c_f (by exact congrArg V.bool (by simp)) ?_
  repeat (first | refine i_len rfl ?_ | refine i_s rfl ?_ | refine sw ?_ | refine i_nv rfl ?_)
  refine c_for L.length (fun k => reE d F L [(15, .msl 965633 0 0 L.length), (20, .sl (.own 961283) (A.map litV)), (23, .sl (.own 961478) ((pickU L R.used k).map acV)), (148, .sl .p (L.map acV)), (149, .int .i64 L.length), (150, .int .i64 k)])
    (fun k => reS d F (inAt F R.hv) [(965633, .arr 0 (R.used.map V.bool)), (961283, .vec A.length), (961478, .vec (pickU L R.used k).length)]) (fun _ => True) trivial ft fun k hk _ => ?_
  by_cases hlt : k < L.length
  · obtain ⟨a, hx⟩ := get_some hlt
    obtain ⟨b, hb⟩ := get_some (l := R.used) (k := k) (by omega)
    have e1 := pickU_succ L R.used k
    rw [hb, hx] at e1
    have l1 : (pickU L R.used k).length ≤ k := by
      unfold pickU
      exact Nat.le_trans (List.length_filterMap_le _ _) (by simp)
    cases b with
    | true =>
      rw [if_pos rfl] at e1
      have e1 : pickU L R.used (k + 1) = pickU L R.used k ++ [a] := e1
      repeat (first | refine i_s rfl ?_ | refine sw ?_)
      refine c_t (by exact congrArg V.bool (by simp [hlt])) ?_
      repeat (first | refine i_s rfl ?_ | refine sw ?_ | refine jd rfl rfl ?_ | refine i_stb rfl ?_ | refine i_alloc rfl ?_)
      refine i_ima rfl rfl rfl rfl (by omega) (by omega) rfl ?_
      skip
      refine i_ldp (row := .bool true) rfl rfl rfl (by rw [Nat.zero_add, List.getElem?_map, Int.toNat_natCast, hb]; rfl) rfl ?_
      repeat' (first | refine i_s rfl ?_ | refine sw ?_ | refine c_t rfl ?_)
      all_goals first
        | (exfalso; simp at *; done)
        | (exfalso; simp at *; omega)
        | skip
      refine i_appM (c := a) rfl rfl rfl rfl rfl (by omega) (by omega) ?_
      repeat' (first | refine i_s rfl ?_ | refine sw ?_ | refine ja rfl rfl ?_ | fail)
      refine e_for hlt trivial ⟨⟨rfl, rfl, rfl, rfl, rfl, rfl, rfl, rfl, rfl, ?_, rfl, rfl, rfl, trivial⟩, ⟨rfl, rfl, rfl, rfl, rfl, rfl, rfl, ?_, trivial⟩, rfl⟩
      · rw [e1]; rfl
      · rw [e1]; simp; rfl
    | false =>
      rw [if_neg (by simp)] at e1
      have e1 : pickU L R.used (k + 1) = pickU L R.used k := by rw [e1]; simp
      repeat (first | refine i_s rfl ?_ | refine sw ?_)
      refine c_t (by exact congrArg V.bool (by simp [hlt])) ?_
      repeat (first | refine i_s rfl ?_ | refine sw ?_ | refine jd rfl rfl ?_ | refine i_stb rfl ?_ | refine i_alloc rfl ?_)
      refine i_ima rfl rfl rfl rfl (by omega) (by omega) rfl ?_
      skip
      refine i_ldp (row := .bool false) rfl rfl rfl (by rw [Nat.zero_add, List.getElem?_map, Int.toNat_natCast, hb]; rfl) rfl ?_
      repeat' (first | refine i_s rfl ?_ | refine sw ?_ | refine c_f rfl ?_ | refine ja rfl rfl ?_ | fail)
      all_goals first
        | (exfalso; simp at *; done)
        | (exfalso; simp at *; omega)
        | skip
      refine e_for hlt trivial ⟨⟨rfl, rfl, rfl, rfl, rfl, rfl, rfl, rfl, rfl, ?_, rfl, rfl, rfl, trivial⟩, ⟨rfl, rfl, rfl, rfl, rfl, rfl, rfl, ?_, trivial⟩, rfl⟩
      · rw [e1]; rfl
      · rw [e1]; rfl
  have hge : k = L.length := by omega
  subst hge
  repeat (first | refine i_s rfl ?_ | refine sw ?_)
  refine c_f (by exact congrArg V.bool (by simp)) ?_
  repeat refine sw ?_
  refine c_frzv rfl rfl ?_
  repeat refine sw ?_
  refine c_frzv rfl rfl ?_
  repeat' (first | refine i_s rfl ?_ | refine sw ?_ | refine i_stb rfl ?_ | refine sf rfl rfl hB ?_ | fail)
  all_goals exact e_ret ⟨rfl, _, rfl, rfl⟩
theorem f_Reach (d : Dom) (ho : DoOk d) : Fc Go.Proofs.Tryz.prog 15 [domV d] (.tup [grdV (reG d), ftV (reF d)]) := by
  by_cases h : atF d = okF
  · exact f_Reach_ok d ho h
  · have hS := f_start_bad d ho h
    have e1 : reG d = grZ := by unfold reG; rw [if_neg h]
    have e2 : reF d = atF d := by unfold reF; rw [if_neg h]
    rw [e1, e2]
    refine Fn.step mixed k_ground_Reach ?_
    repeat' (first | refine i_s rfl ?_ | refine sw ?_ | refine i_stb rfl ?_ | refine i_alloc rfl ?_ | refine i_box rfl rfl ?_ | (refine sp ?_ ?_ <;> try intro h) | refine sf rfl rfl hS ?_ | fail)
    all_goals first
      | exact e_ret ⟨rfl, _, rfl, rfl⟩
      | exact absurd (eq_ok h) (by assumption)
def c_R1_SameTask : Cmd :=
 (qS [qx 2 1984132 4 0, qx 3 1984196 4 1, qb 4 false]
 (qT (qS [qf 8 0 2, ql 9 1 8, qf 10 0 3, ql 11 1 10, qu 12 .neq [.i] 9 11, qm 13 12, qg 14 13 false (.faddr 1 (.t 2)), qg 15 13 false (.load false 1 (.t 14)), qg 16 13 false (.faddr 1 (.t 3)), qg 17 13 false (.load false 1 (.t 16)), qg 18 13 false (.call .f (.c (.fn 50 [])) [.t 15, .t 17]), qg 19 13 false (.not (.t 18)), qq 20 (.pick (.t 13) (.c (.bool true)) (.t 19)), qm 21 20, qg 22 21 false (.faddr 2 (.t 2)), qg 23 21 false (.load false 1 (.t 22)), qg 24 21 false (.faddr 2 (.t 3)), qg 25 21 false (.load false 1 (.t 24)), qg 26 21 false (.call .f (.c (.fn 50 [])) [.t 23, .t 25]), qg 27 21 false (.not (.t 26)), qq 28 (.pick (.t 21) (.c (.bool true)) (.t 27)), qm 29 28, qg 30 29 false (.faddr 3 (.t 2)), qg 31 29 false (.load false 1 (.t 30)), qg 32 29 false (.len false (.t 31)), qg 33 29 false (.faddr 3 (.t 3)), qg 34 29 false (.load false 1 (.t 33)), qg 35 29 false (.len false (.t 34)), qg 36 29 false (.bin .neq false [.i] (.t 32) (.t 35)), qq 37 (.pick (.t 29) (.c (.bool true)) (.t 36))]
 (.cond (.t 37) (.seq (.ops [qb 4 false]) .ret) .skip))
 (qT (qS [qc 5 0]
 (.block 0 (.loop (qT (qS [qm 38 5, qf 39 3 2, ql 40 1 39, qn 41 40, qu 42 .lss [] 38 41]
 (.cond (.t 42) .skip (.exit 0)))
 (qT (.block 1 (qS [qf 45 3 2, ql 46 1 45, qm 47 5, qi 48 4 46 47, qL 49 4 48, qq 6 (.alloc 1984388 (.agg [.sl .nil [], .sl .nil [], .sl .nil [], .int .i64 0])), qs 4 6 49]
 (qS [qf 50 3 3, ql 51 1 50, qm 52 5, qi 53 4 51 52, qL 54 4 53, qq 7 (.alloc 1984452 (.agg [.sl .nil [], .sl .nil [], .sl .nil [], .int .i64 0])), qs 4 7 54]
 (qS [qf 55 3 6, ql 56 1 55, qf 57 3 7, ql 58 1 57, qu 59 .neq [.i] 56 58, qm 60 59, qg 61 60 false (.faddr 0 (.t 6)), qg 62 60 false (.load false 1 (.t 61)), qg 63 60 false (.faddr 0 (.t 7)), qg 64 60 false (.load false 1 (.t 63)), qg 65 60 false (.call .f (.c (.fn 50 [])) [.t 62, .t 64]), qg 66 60 false (.not (.t 65)), qq 67 (.pick (.t 60) (.c (.bool true)) (.t 66)), qm 68 67, qg 69 68 false (.faddr 1 (.t 6)), qg 70 68 false (.load false 1 (.t 69)), qg 71 68 false (.faddr 1 (.t 7)), qg 72 68 false (.load false 1 (.t 71)), qg 73 68 false (.call .f (.c (.fn 50 [])) [.t 70, .t 72]), qg 74 68 false (.not (.t 73)), qq 75 (.pick (.t 68) (.c (.bool true)) (.t 74)), qm 76 75, qg 77 76 false (.faddr 2 (.t 6)), qg 78 76 false (.load false 1 (.t 77)), qg 79 76 false (.faddr 2 (.t 7)), qg 80 76 false (.load false 1 (.t 79)), qg 81 76 false (.call .f (.c (.fn 50 [])) [.t 78, .t 80]), qg 82 76 false (.not (.t 81)), qq 83 (.pick (.t 76) (.c (.bool true)) (.t 82))]
 (.cond (.t 83) (.seq (.ops [qb 4 false]) .ret) .skip)))))
 (.ops [qm 43 5, qv 44 .add [] 43 1, qm 5 44]))))))
 (.seq (.ops [qb 4 true]) .ret))))
def r_R1_SameTask : List RVar := [.tmp 4]
def n_R1_SameTask : Nat := 84
theorem k_R1_SameTask : chkFn Go.Proofs.Tryz.prog 31 n_R1_SameTask r_R1_SameTask c_R1_SameTask = true := by kernel_rfl
theorem f_R1_SameTask (s : STask) (ho : SkOk s) : Fc Go.Proofs.Tryz.prog 31 [skV s, skV s] (.bool true) := by
  have h1 := f_Ints_eq s.init ho.i
  have h2 := f_Ints_eq s.goal ho.g
  have h3 := ho.o
  refine Fn.step mixed k_R1_SameTask ?_
  repeat' (first | refine i_len rfl ?_ | refine i_s rfl ?_ | refine sw ?_ | refine i_gt rfl ?_ | refine i_gf rfl ?_ | refine c_t rfl ?_ | refine i_box rfl rfl ?_ | (refine sp ?_ ?_ <;> try intro h) | refine sf rfl rfl h1 ?_ | refine sf rfl rfl h2 ?_ | fail)
  all_goals first | (exfalso; clear h1 h2 ho; grind) | skip
  refine c_for s.ops.length (fun k => [(2, .bptr 1984132 0), (3, .bptr 1984196 0), (5, .int .i64 k)]) (fun _ => [(1984132, .box (skV s)), (1984196, .box (skV s))]) (fun _ => True) trivial ft fun k hk _ => ?_
  repeat (first | refine i_len rfl ?_ | refine i_s rfl ?_ | refine sw ?_)
  refine c_cond rfl (fun h => ?_) (fun h => ?_)
  · have hlt : k < s.ops.length := by simpa using h
    obtain ⟨o, hx⟩ := get_some hlt
    obtain ⟨q1, q2, q3⟩ := ho.e o (mem_get hx)
    have p1 := f_Ints_eq o.pre q1
    have p2 := f_Ints_eq o.add q2
    have p3 := f_Ints_eq o.del q3
    clear h h1 h2
    repeat' (first | refine i_s rfl ?_ | refine sw ?_ | refine i_gt rfl ?_ | refine i_gf rfl ?_ | refine c_t rfl ?_ | refine c_f rfl ?_ | refine ja rfl rfl ?_ | refine jd rfl rfl ?_ | refine i_stb rfl ?_ | refine i_alloc rfl ?_ | refine i_g rfl (fun h => ?_) (fun h => ?_) | refine sf rfl rfl p1 ?_ | refine sf rfl rfl p2 ?_ | refine sf rfl rfl p3 ?_ | fail)
    all_goals first
      | exact e_for hlt trivial ft
      | (exfalso; clear p1 p2 p3 ho; grind)
  · repeat (first | refine i_s rfl ?_ | refine sw ?_)
    exact e_ret ⟨rfl, _, rfl, rfl⟩
def c_L1_lamp : Cmd :=
 (qS [qq 0 (.alloc 1920006 (.agg [.sl .nil [], .sl .nil [], .sl .nil [], .sl .nil [], .sl .nil [], .sl .nil []]))]
 (qS [qq 2 (.bsl 1 [.c (.int .i64 (-1))]), qq 3 (.build [.int .i64 0, .sl .nil []] [(0 , 1 , .c (.int .i64 0)), (1 , 1 , .t 2)]), qq 4 (.build [.bool false, .int .i64 0, .sl .nil []] [(0 , 1 , .c (.bool true)), (1 , 2 , .t 3)]), qq 1 (.alloc 1920067 (.agg [.bool false, .int .i64 0, .sl .nil []])), qs 3 1 4]
 (.seq (.ops [qq 5 (.build [.str [], .int .i64 0] [(0 , 1 , .c (.str [108, 97, 109, 112])), (1 , 1 , .c (.int .i64 (-1)))]), qq 6 (.bsl 2 [.t 5]), qq 7 (.build [.str [], .int .i64 0] [(0 , 1 , .c (.str [120])), (1 , 1 , .c (.int .i64 0))]), qq 8 (.bsl 2 [.t 7]), qq 9 (.bsl 1 [.c (.int .i64 0)]), qq 10 (.build [.str [], .sl .nil []] [(0 , 1 , .c (.str [111, 110])), (1 , 1 , .t 9)]), qq 11 (.bsl 2 [.t 10]), qq 12 (.bsl 1 [.c (.int .i64 0)]), qL 13 3 1, qq 14 (.bsl 3 [.t 13]), qq 15 (.bsl 1 [.c (.int .i64 (-1))]), qq 16 (.build [.int .i64 0, .sl .nil []] [(0 , 1 , .c (.int .i64 0)), (1 , 1 , .t 15)]), qq 17 (.bsl 2 [.t 16]), qq 18 (.build [.str [], .sl .p [], .sl .p [], .sl .p [], .sl .p [], .sl .p [], .int .i64 0] [(0 , 1 , .c (.str [115, 119, 105, 116, 99, 104])), (1 , 1 , .t 12), (3 , 1 , .t 14), (4 , 1 , .t 17), (6 , 1 , .c (.int .i64 2))]), qq 19 (.bsl 7 [.t 18]), qq 20 (.bsl 1 [.c (.int .i64 0)]), qq 21 (.build [.int .i64 0, .sl .nil []] [(0 , 1 , .c (.int .i64 0)), (1 , 1 , .t 20)]), qq 22 (.build [.bool false, .int .i64 0, .sl .nil []] [(1 , 2 , .t 21)]), qq 23 (.bsl 3 [.t 22]), qq 24 (.build [.sl .p [], .sl .p [], .sl .p [], .sl .p [], .sl .p [], .sl .p []] [(0 , 1 , .t 6), (1 , 1 , .t 8), (2 , 1 , .t 11), (3 , 1 , .t 19), (5 , 1 , .t 23)]), qs 6 0 24]) .ret)))
def r_L1_lamp : List RVar := [.cell true 6 0]
def n_L1_lamp : Nat := 25
theorem k_L1_lamp : chkFn Go.Proofs.Tryz.prog 30 n_L1_lamp r_L1_lamp c_L1_lamp = true := by kernel_rfl
theorem f_L1_lamp : Fc Go.Proofs.Tryz.prog 30 [] (domV lampD) := by
  refine Fn.step mixed k_L1_lamp ?_
  repeat' (first | refine i_s rfl ?_ | refine sw ?_ | refine i_stb rfl ?_ | refine i_alloc rfl ?_)
  exact e_ret ⟨rfl, _, rfl, rfl⟩
theorem atm_ok : AtOk ⟨0, [-1]⟩ := ⟨by simp, by simp [InR], by simp [InR]⟩
theorem on0_ok : AtOk ⟨0, [0]⟩ := ⟨by simp, by simp [InR], by simp [InR]⟩
theorem lamp_do : DoOk lampD := by
  refine ⟨⟨by simp [lampD], fun x hx => ?_⟩, ⟨by simp [lampD], fun x hx => ?_⟩, ⟨by simp [lampD], fun x hx => ?_⟩, ⟨by simp [lampD], fun x hx => ?_⟩, ⟨by simp [lampD], fun x hx => ?_⟩, ⟨by simp [lampD], fun x hx => ?_⟩⟩
  all_goals simp only [lampD, List.mem_singleton, List.not_mem_nil] at hx
  all_goals subst hx
  · simp
  · simp
  · simp
  · exact ⟨by simp, by simp, by simp, by simp, by simp, by simp, fun x hx => by rw [List.mem_singleton.1 hx]; exact atm_ok, fun x hx => by rw [List.mem_singleton.1 hx]; exact atm_ok, fun x hx => by simp at hx⟩
  · exact on0_ok
def lampT : STask := ⟨2, [1], [0], [⟨[1], [0], [1], 2⟩]⟩
def lampG : Grd := ⟨lampT, [⟨false, on0⟩, ⟨true, on0⟩], [(0, [0])]⟩
theorem lamp_aF : atF lampD = okF := by decide +kernel
theorem lamp_aR : atR lampD = [on0] := by decide +kernel
theorem lamp_fG : fuG lampD = lampG := by kernel_rfl
theorem lamp_fF : fuF lampD = okF := by decide +kernel
theorem lamp_rG : reG lampD = lampG := by kernel_rfl
theorem lamp_rF : reF lampD = okF := by decide +kernel
theorem lampT_ok : SkOk lampT := by
  refine ⟨by simp [lampT], by simp [lampT], by simp [lampT], fun o ho => ?_⟩
  rw [show o = ⟨[1], [0], [1], 2⟩ from by simpa [lampT] using ho]
  exact ⟨by simp, by simp, by simp⟩
def c_L1_grounds : Cmd :=
 (qS [qb 0 false]
 (qS [qk 9 30 [], qk 10 9 [9], qm 8 10, qq 11 (.extract (.t 8) 0), qq 12 (.extract (.t 8) 1), qq 2 (.alloc 640130 (.agg [.int .i64 0, .int .i64 0])), qm 1 11, qs 2 2 12]
 (qS [qk 14 30 [], qk 15 13 [14], qm 13 15, qq 16 (.extract (.t 13) 0), qq 17 (.extract (.t 13) 1), qq 3 (.alloc 640198 (.agg [.int .i64 0, .sl .nil [], .sl .nil [], .sl .nil [], .sl .nil [], .sl .nil []])), qq 4 (.alloc 640258 (.agg [.int .i64 0, .int .i64 0])), qs 6 3 16, qs 2 4 17]
 (qS [qk 19 30 [], qk 20 15 [19], qm 18 20, qq 21 (.extract (.t 18) 0), qq 22 (.extract (.t 18) 1), qq 5 (.alloc 640326 (.agg [.int .i64 0, .sl .nil [], .sl .nil [], .sl .nil [], .sl .nil [], .sl .nil []])), qq 6 (.alloc 640386 (.agg [.int .i64 0, .int .i64 0])), qs 6 5 21, qs 2 6 22]
 (qS [qf 23 0 2, ql 24 1 23, qv 25 .eql [.i] 24 0, qm 26 25, qg 27 26 true (.faddr 0 (.t 4)), qg 28 26 true (.load false 1 (.t 27)), qg 29 26 true (.bin .eql false [.i] (.t 28) (.c (.int .i64 0))), qq 30 (.pick (.t 26) (.t 29) (.c (.bool false))), qm 31 30, qg 32 31 true (.faddr 0 (.t 6)), qg 33 31 true (.load false 1 (.t 32)), qg 34 31 true (.bin .eql false [.i] (.t 33) (.c (.int .i64 0))), qq 35 (.pick (.t 31) (.t 34) (.c (.bool false))), qm 36 35, qg 37 36 true (.mov (.t 1)), qg 38 36 true (.len false (.t 37)), qg 39 36 true (.bin .eql false [.i] (.t 38) (.c (.int .i64 1))), qq 40 (.pick (.t 36) (.t 39) (.c (.bool false))), qm 41 40, qg 42 41 true (.faddr 4 (.t 3)), qg 43 41 true (.load false 1 (.t 42)), qg 44 41 true (.len false (.t 43)), qg 45 41 true (.bin .eql false [.i] (.t 44) (.c (.int .i64 2))), qq 46 (.pick (.t 41) (.t 45) (.c (.bool false))), qm 47 46, qg 48 47 true (.faddr 5 (.t 3)), qg 49 47 true (.load false 1 (.t 48)), qg 50 47 true (.len false (.t 49)), qg 51 47 true (.bin .eql false [.i] (.t 50) (.c (.int .i64 1))), qq 52 (.pick (.t 47) (.t 51) (.c (.bool false))), qm 53 52, qg 54 53 true (.faddr 4 (.t 5)), qg 55 53 true (.load false 1 (.t 54)), qg 56 53 true (.len false (.t 55)), qg 57 53 true (.bin .eql false [.i] (.t 56) (.c (.int .i64 2))), qq 58 (.pick (.t 53) (.t 57) (.c (.bool false))), qm 7 58]
 (.seq (.ops [qm 59 7, qm 60 59, qg 61 60 true (.faddr 0 (.t 3)), qg 62 60 true (.load true 4 (.t 61)), qg 63 60 true (.bsl 1 [.c (.int .i64 1)]), qg 64 60 true (.bsl 1 [.c (.int .i64 0)]), qg 65 60 true (.bsl 1 [.c (.int .i64 1)]), qg 66 60 true (.bsl 1 [.c (.int .i64 0)]), qg 67 60 true (.bsl 1 [.c (.int .i64 1)]), qg 68 60 true (.build [.sl .nil [], .sl .nil [], .sl .nil [], .int .i64 0] [(0 , 1 , .t 65), (1 , 1 , .t 66), (2 , 1 , .t 67), (3 , 1 , .c (.int .i64 2))]), qg 69 60 true (.bsl 4 [.t 68]), qg 70 60 true (.build [.int .i64 0, .sl .nil [], .sl .nil [], .sl .nil []] [(0 , 1 , .c (.int .i64 2)), (1 , 1 , .t 63), (2 , 1 , .t 64), (3 , 1 , .t 69)]), qg 71 60 true (.call .f (.c (.fn 31 [])) [.t 62, .t 70]), qq 72 (.pick (.t 60) (.t 71) (.c (.bool false))), qm 0 72]) .ret))))))
def r_L1_grounds : List RVar := [.tmp 0]
def n_L1_grounds : Nat := 73
theorem k_L1_grounds : chkFn Go.Proofs.Tryz.prog 10 n_L1_grounds r_L1_grounds c_L1_grounds = true := by kernel_rfl
theorem f_L1_grounds : Fc Go.Proofs.Tryz.prog 10 [] (.bool true) := by
  have hL := f_L1_lamp
  have hA := f_Atoms lampD lamp_do
  rw [lamp_aF, lamp_aR] at hA
  have hF := f_Full lampD lamp_do
  rw [lamp_fG, lamp_fF] at hF
  have hR := f_Reach lampD lamp_do
  rw [lamp_rG, lamp_rF] at hR
  have hT := f_R1_SameTask lampT lampT_ok
  refine Fn.step mixed k_L1_grounds ?_
  repeat' (first | refine i_len rfl ?_ | refine i_s rfl ?_ | refine sw ?_ | refine i_gt rfl ?_ | refine i_stb rfl ?_ | refine i_alloc rfl ?_ | refine sf rfl rfl hL ?_ | refine sf rfl rfl hA ?_ | refine sf rfl rfl hF ?_ | refine sf rfl rfl hR ?_ | refine sf rfl rfl hT ?_ | fail)
  all_goals first
    | exact e_ret ⟨rfl, _, rfl, rfl⟩
    | (exfalso; clear hL hA hF hR hT; simp_all [okF]; done)
    | skip
end Hm
end
