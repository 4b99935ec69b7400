/- Part KHA of the proof. -/
import Derived.Test.YtojbakjdbodidaaKPB
import Derived.Shelf.SlSortCmp.Whole1
import Derived.Shelf.Sort.Plain
set_option linter.unusedVariables false
set_option linter.unusedSimpArgs false
section
namespace Hm
open Go
namespace W1
theorem ct_of_fn {G : Type} {P : Program} {H : HT G} {f : Nat} {args : List V} {r : V} {pn : List Nat} {σ : Store} {g : G} (h : Fn P f (args.map (er σ 6)) r) (hfl : flatB r = true) (hpn : ∀ nm, nm ∉ pn → σ nm = .unused) :
    CT P H f args pn σ g fun v σ' g' => v = r ∧ σ' = σ ∧ g' = g :=
  ⟨h.1, fun J l hst hM hH w S F θ xs hs hargs => by
    have hcall := h.2 w (All w) _ (fun b hb => hb) ((hst.1 _ _ _ _ hs.hJ).same (fun _ _ => rfl) hs.hS) (reps_map hargs (fun v x _ hr => hr.er hs 6))
    refine hcall.mono fun e w' he' => ?_
    obtain ⟨x', S', rfl, hr, hS1, hS2, hg⟩ := he'
    exact ⟨r, x', σ, g, _, F, θ, rfl, ⟨rfl, rfl, rfl⟩, St.grow hst hs hg (N := fun _ => False) (fun b hb => hb.elim) (fun b hb => hb.elim), .pure (hr.flat hfl), Fr.grow hs hg (fun b hb => hb.elim), hpn⟩⟩
theorem putRow_set {α : Type} [Inhabited α] (enc : α → Value) (w : World) (b : Nat) (c : Array Value) (e : TypeId) (fr : Nat × Nat) (d : Array α) (hb : w.heap[b]? = some (.cells c e fr)) :
    Sort.putRow enc w b 0 d = w.setRow b (Sort.putCells enc 0 d c) := by
  unfold Sort.putRow Sort.mapBlock World.setRow
  congr 1
  apply Array.ext_getElem?
  intro k
  simp only [Array.getElem?_modify]
  by_cases hk : b = k
  · subst hk
    simp [hb, Sort.onCells]
  · simp [hk]
theorem putCells_get {α : Type} [Inhabited α] (enc : α → Value) (d : Array α) (c : Array Value) (j : Nat) : (Sort.putCells enc 0 d c)[j]? = (c[j]?).map fun x => if j < d.size then enc d[j]! else x := by
  unfold Sort.putCells
  rw [Array.getElem?_mapIdx]
  simp
theorem ups_same {σ : Store} {nm : Nat} {b : Blk} (h : σ nm = b) : ups σ nm b = σ := by
  funext k
  unfold ups
  cases hb : Nat.beq k nm with
  | true => have := Nat.eq_of_beq_eq_true hb; subst this; exact h.symm
  | false => rfl
theorem grow_eq {w w' : World} (h : Grow w w') : ∃ q os', w' = Sort.grow (w.drewN q) os' := by
  refine ⟨w'.drawn - w.drawn, w'.heap.extract w.heap.size w'.heap.size, ?_⟩
  obtain ⟨heap', tape', drawn', os', output'⟩ := w'
  obtain ⟨hs, e1, e2, e3, hb⟩ := h
  have e1 : os' = w.os := e1
  have e2 : tape' = w.tape := e2
  obtain ⟨e3, e4⟩ := e3
  have e3 : output' = w.output := e3
  have e4 : w.drawn ≤ drawn' := e4 (by first | rfl | trivial)
  have hs : w.heap.size ≤ heap'.size := hs
  have hb : ∀ k, k < w.heap.size → heap'[k]? = w.heap[k]? := hb
  subst e1 e2 e3
  have eh : heap' = w.heap ++ heap'.extract w.heap.size heap'.size := by
    apply Array.ext_getElem?
    intro k
    by_cases hk : k < w.heap.size
    · rw [Array.getElem?_append_left hk]; exact hb k hk
    · rw [Array.getElem?_append_right (by omega), Array.getElem?_extract]
      by_cases hk2 : k < heap'.size
      · rw [if_pos (by omega)]; congr 1; omega
      · rw [if_neg (by omega), Array.getElem?_eq_none (by omega)]
  simp only [Sort.grow, World.drewN]
  congr 1
  omega
theorem rep_one {w : World} {S : Nat → Prop} {u : V} {v : Value} (h : RepP w S u v) (hl : leafB u = true) : v.oneCell' = true := by
  cases h <;> first
    | rfl
    | (exact absurd hl (by simp [leafB]))
structure E1 {α : Type} (f : α → V) (ok : α → Prop) (w : World) (S : Nat → Prop) where
  e : α
  v : Value
  h1 : v.oneCell' = true
  ok : ok e
  rep : RepP w S (f e) v
theorem ct_sort {G : Type} {P : Program} {H : HT G} {ρ : Shelf.Ren} (Ly : Go.Proofs.SlLaysF.n6 P ρ) {α : Type} (f : α → V) (ok : α → Prop) (hf : ∀ x, leafB (f x) = true ∧ (f x).cells = [f x])
    (cf : α → α → Int) (hO : Sort.SWO (Go.Proofs.ltOf cf)) (g0 : Nat) (eg : ∀ args w, (callFunc g0 args).run P w = .ok (.enter g0 args) w) (hcmp : ∀ a b, ok a → ok b → Fn P g0 [f a, f b] (.int .i64 (cf a b)))
    (nm gen : Nat) (l : List α) (hok : ∀ x ∈ l, ok x) {pn : List Nat} {σ : Store} {g : G} (hw : wd nm = 1) (hσ : σ nm = .arr gen (l.map f)) (hpn : ∀ nm', nm' ∉ pn → σ nm' = .unused)
    (h0 : Fn P (ρ.f 6) [.sl .p [], .fn g0 []] (.tup [])) (hsz : l.length < 4611686018427387904) :
    CT P H (ρ.f 6) [.msl nm gen 0 l.length, .fn g0 []] pn σ g fun v σ' g' => v = .tup [] ∧ (∃ l' : List α, l'.Perm l ∧ (l'.Pairwise fun x y => ¬ cf y x < 0) ∧ σ' = ups σ nm (.arr gen (l'.map f))) ∧ g' = g := by
  by_cases hl : l = []
  · subst hl
    have := ct_of_fn (G := G) (H := H) (P := P) (f := ρ.f 6) (args := [.msl nm gen 0 0, .fn g0 []]) (r := .tup []) (pn := pn) (σ := σ) (g := g) (by simpa [er, hσ] using h0) rfl hpn
    refine CT_mono (fun v σ' g' h => ?_) this
    refine ⟨h.1, ⟨[], List.Perm.refl _, List.Pairwise.nil, ?_⟩, h.2.2⟩
    rw [h.2.1]
    exact (ups_same (by simpa using hσ)).symm
  refine ⟨h0.1, fun J lc hst hM hH w S F θ xs hs hargs => ?_⟩
  obtain ⟨hlen, hrep⟩ := hargs
  match xs, hlen with
  | [x, y], _ =>
  have hx := hrep 0 _ x rfl rfl
  have hy := hrep 1 _ y rfl rfl
  have hy0 : y = .func (.func g0) #[] #[] := by
    cases hy with
    | pure h =>
      cases h with
      | fn _ _ xs hl _ => match xs, hl with
        | [], _ => rfl
    | fn _ _ xs hl _ => match xs, hl with
      | [], _ => rfl
  subst hy0
  have hlen0 : 0 < l.length := List.length_pos_iff.2 hl
  obtain ⟨b, m, cap, hθ, hcap, rfl, hck, hle⟩ : ∃ b m cap, θ nm = some (b, m) ∧ l.length ≤ cap ∧ x = .slice (some ⟨b, 0 * m, none⟩) l.length cap ∧ CapOk w b ((0 + cap) * m) ∧ 0 + l.length ≤ (l.map f).length := by
    cases hx with
    | pure h => cases h
    | msl _ _ _ _ _ _ _ _ h =>
      rcases h _ hσ with h | ⟨h, _⟩
      · exact h
      · omega
  have hlv : (σ nm).live := live_arr hσ
  have hblk := hs.hblk nm
  rw [hσ] at hblk
  simp only [BlkOk] at hblk
  rcases hblk with ⟨hn, _⟩ | ⟨b', m', c, e, hθ', hb, hrows, ⟨hm, hsz'⟩, hcells⟩
  · rw [hθ] at hn; cases hn
  rw [hθ] at hθ'
  injection hθ' with hθ'
  injection hθ' with e1 e2
  subst e1 e2
  rw [hw] at hm
  subst hm
  have hgl : b < w.heap.size := (Array.getElem?_eq_some_iff.1 hb).1
  have hcs : l.length ≤ c.size := by simpa using hsz'
  have hnS : ∀ b', S b' → b' ≠ b := fun b' hb' e => hs.hliveS b' ⟨nm, 1, hlv, by rw [e]; exact hθ⟩ hb'
  have hex : ∀ i (hi : i < l.length), ∃ E : E1 f ok w S, E.e = l[i] ∧ c[i]? = some E.v := fun i hi => by
    obtain ⟨q1, q2⟩ := hf l[i]
    obtain ⟨y, h1, h2⟩ := hcells i 0 (f l[i]) (f l[i]) (by rw [List.getElem?_map, List.getElem?_eq_getElem hi]; rfl) (by rw [q2]; rfl)
    rw [Nat.mul_one, Nat.add_zero] at h1
    exact ⟨⟨l[i], y, rep_one h2 q1, hok _ (List.getElem_mem hi), h2⟩, rfl, h1⟩
  obtain ⟨el, hel⟩ : ∃ el : Fin l.length → E1 f ok w S, ∀ i, (el i).e = l[i.1] ∧ c[i.1]? = some (el i).v :=
    ⟨fun i => (hex i.1 i.2).choose, fun i => (hex i.1 i.2).choose_spec⟩
  haveI : Inhabited (E1 f ok w S) := ⟨el ⟨0, hlen0⟩⟩
  obtain ⟨d, hd⟩ : ∃ d : Array (E1 f ok w S), d = Array.ofFn el := ⟨_, rfl⟩
  have hds : d.size = l.length := by rw [hd]; simp
  have hdg : ∀ i (hi : i < l.length), d[i]! = el ⟨i, hi⟩ := fun i hi => by
    rw [getElem!_pos d i (by omega)]
    simp [hd]
  have hH : Sort.Holds (fun E : E1 f ok w S => E.v) w b 0 d := by
    intro t ht
    rw [hds] at ht
    refine ⟨?_, ?_⟩
    · rw [Nat.zero_add, cell_of_row w b t c e (0, 0) hb, hdg t ht]
      exact (hel ⟨t, ht⟩).2
    · simp [World.frozen?, hb]
  have hheap : ∀ (mm : Nat) (dk : Array (E1 f ok w S)) (os : Array Go.Obj) (b' : Nat), b' ≠ b → b' < w.heap.size → (Go.Proofs.sortWorld (fun E : E1 f ok w S => E.v) w b 0 mm dk os).heap[b']? = w.heap[b']? := fun mm dk os b' hne hlt => by
    unfold Go.Proofs.sortWorld
    rw [putRow_set _ (Sort.ahead w mm) b c e (0, 0) _ hb]
    show ((World.setRow _ b _).heap ++ os)[b']? = _
    rw [Array.getElem?_append_left (by rw [setRow_size]; exact hlt), setRow_old _ _ _ hne]
    rfl
  have hcmp' : Go.Proofs.CmpLays1 P g0 #[] (fun E : E1 f ok w S => E.v) (fun x y => cf x.e y.e) b 0 d.size w := by
    intro mm os dk hdk x y
    have hc := (hcmp x.e y.e x.ok y.ok).2 (Go.Proofs.sortWorld (fun E : E1 f ok w S => E.v) w b 0 mm dk os) S [x.v, y.v] (fun b' hb' => by
        have h1 := hs.hS b' hb'
        unfold Go.Proofs.sortWorld
        rw [putRow_set _ (Sort.ahead w mm) b c e (0, 0) _ hb]
        show b' < ((World.setRow _ b _).heap ++ os).size
        rw [Array.size_append, setRow_size]
        show b' < w.heap.size + _
        omega)
      ((hst.1 _ _ _ _ hs.hJ).same (fun b' hb' => hheap mm dk os b' (hnS b' hb') (hs.hS b' hb')) fun _ h => h)
      ⟨rfl, fun i v z h1 h2 => by
        match i with
        | 0 => cases h1; cases h2; exact x.rep.mono (fun b' hb' => hheap mm dk os b' (hnS b' hb') (hs.hS b' hb')) fun _ h => h
        | 1 => cases h1; cases h2; exact y.rep.mono (fun b' hb' => hheap mm dk os b' (hnS b' hb') (hs.hS b' hb')) fun _ h => h
        | i + 2 => cases h1⟩
    refine ((callsIn_wide (n := 0)).1 hc).mono fun en w' he' => ?_
    obtain ⟨x', S', rfl, hr, _, _, hgw⟩ := he'
    cases hr
    exact ⟨rfl, grow_eq hgw⟩
  have hO' : Sort.SWO (Go.Proofs.ltOf fun x y : E1 f ok w S => cf x.e y.e) := ⟨fun x => hO.irrefl x.e, fun x y z => hO.trans x.e y.e z.e, fun x y z => hO.ntrans x.e y.e z.e⟩
  have hcall := (callsIn_wide (n := 0)).2 (Go.Proofs.Any.slices_SortFunc Ly (fun E : E1 f ok w S => E.v) (fun x => x.h1) (fun x y => cf x.e y.e) hO' g0 #[] b 0 cap d w eg hcmp' hH hgl (by rw [hds]; exact hsz))
  rw [hds] at hcall
  simp only [Nat.zero_mul]
  refine hcall.mono fun en w' he' => ?_
  obtain ⟨rfl, d', n, os, hperm, hsorted, rfl⟩ := he'
  have hd's : d'.size = l.length := hperm.1.trans hds
  obtain ⟨l', hl'⟩ : ∃ l' : List α, l' = d'.toList.map E1.e := ⟨_, rfl⟩
  have hll : l'.length = l.length := by rw [hl']; simp [hd's]
  have hpl : l'.Perm l := by
    have h1 := hperm.2.2
    rw [← hds] at h1
    rw [show d'.extract 0 d.size = d' from by rw [show d.size = d'.size by omega]; simp, show d.extract 0 d.size = d by simp] at h1
    have h2 := h1.map E1.e
    rw [hl']
    refine h2.trans ?_
    have : d.toList.map E1.e = l := by
      apply List.ext_getElem
      · simp [hds]
      · intro i h3 h4
        simp only [List.getElem_map, Array.getElem_toList]
        have := hdg i h4
        rw [getElem!_pos d i (by omega)] at this
        rw [this]
        exact (hel ⟨i, h4⟩).1
    rw [this]
  have hsl : l'.Pairwise fun x y => ¬ cf y x < 0 := by
    rw [hl', List.pairwise_iff_getElem]
    intro i j hi hj hij
    have hi' : i < d'.size := by simpa using hi
    have hj' : j < d'.size := by simpa using hj
    have := hsorted i j (Nat.zero_le _) hij (by omega)
    rw [getElem!_pos d' i hi', getElem!_pos d' j hj'] at this
    simp only [List.getElem_map, Array.getElem_toList]
    simpa [Go.Proofs.ltOf] using this
  have hg1 : Grow w (Sort.ahead w n) := ⟨Nat.le_refl _, rfl, rfl, ⟨rfl, by simp⟩, fun _ _ => rfl⟩
  have hs1 := St.grow hst hs hg1 (N := fun _ => False) (fun b hb => hb.elim) (fun b hb => hb.elim)
  have hf1 := Fr.grow hs hg1 (N := fun _ => False) (fun b hb => hb.elim)
  have hb1 : (Sort.ahead w n).heap[b]? = some (.cells c e (0, 0)) := hb
  unfold Go.Proofs.sortWorld
  rw [putRow_set _ _ b c e (0, 0) _ hb1]
  obtain ⟨c', hc'⟩ : ∃ c', c' = Sort.putCells (fun E : E1 f ok w S => E.v) 0 d' c := ⟨_, rfl⟩
  rw [← hc']
  have hcz : c'.size = c.size := by rw [hc']; simp [Sort.putCells]
  have hf2 : Fr (Sort.ahead w n) (fun b => S b ∨ False) F θ σ ((Sort.ahead w n).setRow b c') (fun b => S b ∨ False) F θ (ups σ nm (.arr gen (l'.map f))) := by
    refine Fr.write hs1 nm b 1 c c' e _ hlv hθ hb1 hcz ?_
    rw [hσ]
    exact ⟨l'.map f, .inl ⟨rfl, by simp [hll]⟩⟩
  have hk : BlkOk ((Sort.ahead w n).setRow b c') (fun b => S b ∨ False) θ (ups σ nm (.arr gen (l'.map f))) lc nm (.arr gen (l'.map f)) := by
    refine .inr ⟨b, 1, c', e, hθ, setRow_heap _ b c c' _ _ hb1, fun row hrow => ?_, ⟨hw.symm, by simp [hll, hcz]; exact hcs⟩, fun i j row v h1 h2 => ?_⟩
    · obtain ⟨z, _, rfl⟩ := List.mem_map.1 hrow
      rw [(hf z).2]
      rfl
    · rw [List.getElem?_map] at h1
      cases h3 : l'[i]? with
      | none => rw [h3] at h1; cases h1
      | some z =>
        rw [h3] at h1
        cases h1
        have hi : i < l'.length := (List.getElem?_eq_some_iff.1 h3).1
        have hid : i < d'.size := by omega
        obtain ⟨q1, q2⟩ := hf z
        rw [q2] at h2
        have hj0 : j = 0 := by have := (List.getElem?_eq_some_iff.1 h2).1; simpa using this
        subst hj0
        cases h2
        have hez : (d'[i]!).e = z := by
          have := (List.getElem?_eq_some_iff.1 h3).2
          simp only [hl', List.getElem_map, Array.getElem_toList] at this
          rw [getElem!_pos d' i hid]
          exact this
        have hrp := (d'[i]!).rep
        rw [hez] at hrp
        refine ⟨(d'[i]!).v, ?_, hrp.mono (fun b' hb' => ?_) fun _ h => .inl h⟩
        · rw [Nat.mul_one, Nat.add_zero, hc', putCells_get, Array.getElem?_eq_getElem (show i < c.size by omega)]
          simp only [Option.map_some, if_pos hid]
        · rw [setRow_old _ _ _ (hnS b' hb')]
          rfl
  have hs2 := St.write hst hs1 nm b 1 c' _ hlv hθ hf2 hk
  have hg3 : Grow ((Sort.ahead w n).setRow b c') (Sort.grow ((Sort.ahead w n).setRow b c') os) :=
    ⟨by simp [Sort.grow], rfl, rfl, Out.refl _, fun b' hb' => by simp [Sort.grow, Array.getElem?_append_left hb']⟩
  have hs3 := St.grow hst hs2 hg3 (N := fun _ => False) (fun b hb => hb.elim) (fun b hb => hb.elim)
  have hf3 := Fr.grow hs2 hg3 (N := fun _ => False) (fun b hb => hb.elim)
  refine ⟨.tup [], _, _, g, _, F, θ, rfl, ⟨rfl, ⟨l', hpl, hsl, rfl⟩, rfl⟩, hs3, .pure (.tup [] [] rfl fun i v x h1 h2 => by simp at h1), (hf1.trans hs1 hf2).trans hs2 hf3, fun nm' hnm => ?_⟩
  have h5 : nm' ≠ nm := fun h => by rw [h] at hnm; have := hpn nm hnm; rw [this] at hσ; cases hσ
  rw [upt_ne σ _ h5]
  exact hpn nm' hnm
end W1
end Hm
end
section
namespace Go.Proofs
open Go.Shelf
def Try.sortW_ren : Go.Shelf.Ren := ⟨fun | 6 => 31 | 14 => 48 | 15 => 49 | 20 => 60 | 21 => 61 | 22 => 62 | 23 => 63 | 24 => 64 | 25 => 65 | 26 => 66 | 27 => 67 | 28 => 68 | 29 => 69 | 46 => 78 | 47 => 79 | 48 => 80 | 49 => 81 | 50 => 82 | 57 => 92 | n => n, fun | 0 => 0 | 3 => 3 | 4 => 4 | 5 => 5 | 9 => 9 | 22 => 44 | 25 => 76 | 39 => 113 | 45 => 134 | 46 => 135 | 50 => 130 | 53 => 49 | 55 => 141 | 66 => 152 | 70 => 156 | 76 => 164 | 77 => 165 | 24 => 49 | n => n, fun n => n⟩
theorem Try.sortW_lays : SlLaysF.n6 Try.prog Try.sortW_ren :=
  {
    mixed := by kernel_rfl,
    f6 := ⟨Try.f31.name, by kernel_rfl, Try.func31.trans (congrArg some (by kernel_rfl))⟩,
    f14 := ⟨Try.f48.name, by kernel_rfl, Try.func48.trans (congrArg some (by kernel_rfl))⟩,
    f15 := Try.func49.trans (congrArg some (by kernel_rfl)),
    f20 := ⟨Try.f60.name, by kernel_rfl, Try.func60.trans (congrArg some (by kernel_rfl))⟩,
    f21 := ⟨Try.f61.name, by kernel_rfl, Try.func61.trans (congrArg some (by kernel_rfl))⟩,
    f22 := ⟨Try.f62.name, by kernel_rfl, Try.func62.trans (congrArg some (by kernel_rfl))⟩,
    f23 := ⟨Try.f63.name, by kernel_rfl, Try.func63.trans (congrArg some (by kernel_rfl))⟩,
    f24 := ⟨Try.f64.name, by kernel_rfl, Try.func64.trans (congrArg some (by kernel_rfl))⟩,
    f25 := ⟨Try.f65.name, by kernel_rfl, Try.func65.trans (congrArg some (by kernel_rfl))⟩,
    f26 := ⟨Try.f66.name, by kernel_rfl, Try.func66.trans (congrArg some (by kernel_rfl))⟩,
    f27 := ⟨Try.f67.name, by kernel_rfl, Try.func67.trans (congrArg some (by kernel_rfl))⟩,
    f28 := Try.func68.trans (congrArg some (by kernel_rfl)),
    f29 := Try.func69.trans (congrArg some (by kernel_rfl)),
    f46 := ⟨Try.f78.name, by kernel_rfl, Try.func78.trans (congrArg some (by kernel_rfl))⟩,
    f47 := Try.func79.trans (congrArg some (by kernel_rfl)),
    f48 := Try.func80.trans (congrArg some (by kernel_rfl)),
    f49 := ⟨Try.f81.name, by kernel_rfl, Try.func81.trans (congrArg some (by kernel_rfl))⟩,
    f50 := ⟨Try.f82.name, by kernel_rfl, Try.func82.trans (congrArg some (by kernel_rfl))⟩,
    f57 := ⟨Try.f92.name, by kernel_rfl, Try.func92.trans (congrArg some (by kernel_rfl))⟩,
    t0 := Try.underlying0,
    a0 := Try.isAgg0,
    z0 := Try.sizeOf0,
    v0 := Try.zeroValue0,
    t3 := Try.underlying3,
    a3 := Try.isAgg3,
    z3 := Try.sizeOf3,
    v3 := Try.zeroValue3,
    t4 := Try.underlying4,
    a4 := Try.isAgg4,
    z4 := Try.sizeOf4,
    v4 := Try.zeroValue4,
    t5 := Try.underlying5,
    a5 := Try.isAgg5,
    z5 := Try.sizeOf5,
    v5 := Try.zeroValue5,
    t9 := Try.underlying9,
    a9 := Try.isAgg9,
    z9 := Try.sizeOf9,
    v9 := Try.zeroValue9,
    t22 := Try.underlying44,
    a22 := Try.isAgg44,
    z22 := Try.sizeOf44,
    v22 := Try.zeroValue44,
    t25 := Try.underlying76,
    a25 := Try.isAgg76,
    z25 := Try.sizeOf76,
    v25 := Try.zeroValue76,
    t39 := Try.underlying113,
    a39 := Try.isAgg113,
    z39 := Try.sizeOf113,
    v39 := Try.zeroValue113,
    t45 := Try.underlying134,
    a45 := Try.isAgg134,
    z45 := Try.sizeOf134,
    v45 := Try.zeroValue134,
    t46 := Try.underlying135,
    a46 := Try.isAgg135,
    z46 := Try.sizeOf135,
    v46 := Try.zeroValue135,
    t50 := Try.underlying130,
    a50 := Try.isAgg130,
    z50 := Try.sizeOf130,
    v50 := Try.zeroValue130,
    t53 := Try.underlying49,
    a53 := Try.isAgg49,
    z53 := Try.sizeOf49,
    v53 := Try.zeroValue49,
    t55 := Try.underlying141,
    a55 := Try.isAgg141,
    z55 := Try.sizeOf141,
    v55 := Try.zeroValue141,
    t66 := Try.underlying152,
    a66 := Try.isAgg152,
    z66 := Try.sizeOf152,
    v66 := Try.zeroValue152,
    t70 := Try.underlying156,
    a70 := Try.isAgg156,
    z70 := Try.sizeOf156,
    v70 := Try.zeroValue156,
    t76 := Try.underlying164,
    a76 := Try.isAgg164,
    z76 := Try.sizeOf164,
    v76 := Try.zeroValue164,
    t77 := Try.underlying165,
    a77 := Try.isAgg165,
    z77 := Try.sizeOf165,
    v77 := Try.zeroValue165,
    a24 := Try.isAgg49,
    z24 := Try.sizeOf49 }
end Go.Proofs
end
section
namespace Hm
open Go
theorem ct_of_fn {G : Type} {P : Program} {H : HT G} {f : Nat} {args : List V} {r : V} {pn : List Nat} {σ : Store} {g : G} (h : Fn P f (args.map (er σ 6)) r) (hfl : flatB r = true) (hpn : ∀ nm, nm ∉ pn → σ nm = .unused) :
    CT P H f args pn σ g fun v σ' g' => v = r ∧ σ' = σ ∧ g' = g :=
  ⟨h.1, fun J l hst hM hH w S F θ xs hs hargs => by
    have hcall := h.2 w (All w) _ (fun b hb => hb) ((hst.1 _ _ _ _ hs.hJ).same (fun _ _ => rfl) hs.hS) (reps_map hargs (fun v x _ hr => hr.er hs 6))
    refine hcall.mono fun e w' he' => ?_
    obtain ⟨x', S', rfl, hr, hS1, hS2, hg⟩ := he'
    exact ⟨r, x', σ, g, _, F, θ, rfl, ⟨rfl, rfl, rfl⟩, St.grow hst hs hg (N := fun _ => False) (fun b hb => hb.elim) (fun b hb => hb.elim), .pure (hr.flat hfl), Fr.grow hs hg (fun b hb => hb.elim), hpn⟩⟩
theorem putRow_set (w : World) (b : Nat) (c : Array Value) (e : TypeId) (fr : Nat × Nat) (d : Array Int) (hb : w.heap[b]? = some (.cells c e fr)) :
    Sort.putRow (Value.int .i64) w b 0 d = w.setRow b (Sort.putCells (Value.int .i64) 0 d c) := by
  unfold Sort.putRow Sort.mapBlock World.setRow
  congr 1
  apply Array.ext_getElem?
  intro k
  simp only [Array.getElem?_modify]
  by_cases hk : b = k
  · subst hk
    simp [hb, Sort.onCells]
  · simp [hk]
theorem putCells_get (d : Array Int) (c : Array Value) (j : Nat) : (Sort.putCells (Value.int .i64) 0 d c)[j]? = (c[j]?).map fun x => if j < d.size then Value.int .i64 d[j]! else x := by
  unfold Sort.putCells
  rw [Array.getElem?_mapIdx]
  simp
theorem ups_same {σ : Store} {nm : Nat} {b : Blk} (h : σ nm = b) : ups σ nm b = σ := by
  funext k
  unfold ups
  cases hb : Nat.beq k nm with
  | true => have := Nat.eq_of_beq_eq_true hb; subst this; exact h.symm
  | false => rfl
theorem ct_sort {G : Type} {P : Program} {H : HT G} {ρ : Shelf.Ren} (Ly : Go.Proofs.Lays.n189 P ρ) (nm gen : Nat) (l : List Int) {pn : List Nat} {σ : Store} {g : G} (hw : wd nm = 1) (hσ : σ nm = .arr gen (l.map i64V)) (hpn : ∀ nm', nm' ∉ pn → σ nm' = .unused)
    (h0 : Fn P (ρ.f 189) [.sl .p []] (.tup [])) (hsz : l.length < 4611686018427387904) :
    CT P H (ρ.f 189) [.msl nm gen 0 l.length] pn σ g fun v σ' g' => v = .tup [] ∧ σ' = ups σ nm (.arr gen ((srtL l).map i64V)) ∧ g' = g := by
  by_cases hl : l = []
  · subst hl
    have := ct_of_fn (G := G) (H := H) (P := P) (f := ρ.f 189) (args := [.msl nm gen 0 0]) (r := .tup []) (pn := pn) (σ := σ) (g := g) (by simpa [er, hσ] using h0) rfl hpn
    refine CT_mono (fun v σ' g' h => ?_) this
    refine ⟨h.1, ?_, h.2.2⟩
    rw [h.2.1]
    exact (ups_same (by simpa [srtL] using hσ)).symm
  refine ⟨h0.1, fun J lc hst hM hH w S F θ xs hs hargs => ?_⟩
  obtain ⟨hlen, hrep⟩ := hargs
  match xs, hlen with
  | [x], _ =>
  have hx := hrep 0 _ x rfl rfl
  have hlen0 : 0 < l.length := List.length_pos_iff.2 hl
  obtain ⟨b, m, cap, hθ, hcap, rfl, hck, hle⟩ : ∃ b m cap, θ nm = some (b, m) ∧ l.length ≤ cap ∧ x = .slice (some ⟨b, 0 * m, none⟩) l.length cap ∧ CapOk w b ((0 + cap) * m) ∧ 0 + l.length ≤ (l.map i64V).length := by
    cases hx with
    | pure h => cases h
    | msl _ _ _ _ _ _ _ _ h =>
      rcases h _ hσ with h | ⟨h, _⟩
      · exact h
      · omega
  have hlv : (σ nm).live := live_arr hσ
  have hblk := hs.hblk nm
  rw [hσ] at hblk
  simp only [BlkOk] at hblk
  rcases hblk with ⟨hn, _⟩ | ⟨b', m', c, e, hθ', hb, hrows, ⟨hm, hsz'⟩, hcells⟩
  · rw [hθ] at hn; cases hn
  rw [hθ] at hθ'
  injection hθ' with hθ'
  injection hθ' with e1 e2
  subst e1 e2
  rw [hw] at hm
  subst hm
  have hgl : b < w.heap.size := (Array.getElem?_eq_some_iff.1 hb).1
  have hcs : l.length ≤ c.size := by simpa using hsz'
  have hcell : ∀ j (hj : j < l.length), c[j]? = some (.int .i64 l[j]) := by
    intro j hj
    obtain ⟨y, h1, h2⟩ := hcells j 0 (i64V l[j]) (i64V l[j]) (by rw [List.getElem?_map, List.getElem?_eq_getElem hj]; rfl) rfl
    cases h2
    simpa using h1
  have hH : Sort.Holds (Value.int .i64) w b 0 l.toArray := by
    intro j hj
    have hj' : j < l.length := by simpa using hj
    refine ⟨?_, ?_⟩
    · rw [Nat.zero_add, cell_of_row w b j c e (0, 0) hb, hcell j hj']
      simp [hj']
    · simp [World.frozen?, hb]
  have hcall := (callsIn_wide (n := 0)).2 (Go.Proofs.Any.slices_Sort_int Ly b 0 cap l w hH hgl hsz)
  simp only [Nat.zero_mul]
  refine hcall.mono fun en w' he' => ?_
  obtain ⟨rfl, n, os, rfl⟩ := he'
  have hg1 : Grow w (Sort.ahead w n) := ⟨Nat.le_refl _, rfl, rfl, ⟨rfl, by first | exact Nat.le_refl _ | exact Nat.le_add_right _ _ | (unfold Sort.ahead; simp)⟩, fun _ _ => rfl⟩
  have hs1 := St.grow hst hs hg1 (N := fun _ => False) (fun b hb => hb.elim) (fun b hb => hb.elim)
  have hf1 := Fr.grow hs hg1 (N := fun _ => False) (fun b hb => hb.elim)
  have hb1 : (Sort.ahead w n).heap[b]? = some (.cells c e (0, 0)) := hb
  have hsl : (srtL l).length = l.length := srtL_len l
  rw [show (l.mergeSort fun x y => decide (x ≤ y)) = srtL l from rfl, putRow_set _ b c e (0, 0) _ hb1]
  generalize hc' : Sort.putCells (Value.int .i64) 0 (srtL l).toArray c = c'
  have hcz : c'.size = c.size := by rw [← hc']; simp [Sort.putCells]
  have hf2 : Fr (Sort.ahead w n) (fun b => S b ∨ False) F θ σ ((Sort.ahead w n).setRow b c') (fun b => S b ∨ False) F θ (ups σ nm (.arr gen ((srtL l).map i64V))) := by
    refine Fr.write hs1 nm b 1 c c' e _ hlv hθ hb1 hcz ?_
    rw [hσ]
    exact ⟨(srtL l).map i64V, .inl ⟨rfl, by simp [hsl]⟩⟩
  have hk : BlkOk ((Sort.ahead w n).setRow b c') (fun b => S b ∨ False) θ (ups σ nm (.arr gen ((srtL l).map i64V))) lc nm (.arr gen ((srtL l).map i64V)) := by
    refine .inr ⟨b, 1, c', e, hθ, setRow_heap _ b c c' _ _ hb1, fun row hrow => ?_, ⟨hw.symm, by simp [hsl, hcz]; exact hcs⟩, fun i j row v h1 h2 => ?_⟩
    · obtain ⟨_, _, rfl⟩ := List.mem_map.1 hrow; rfl
    · rw [List.getElem?_map] at h1
      cases h3 : (srtL l)[i]? with
      | none => rw [h3] at h1; cases h1
      | some z =>
        rw [h3] at h1
        cases h1
        have hi : i < (srtL l).length := get_lt h3
        cases j with
        | succ j => cases h2
        | zero =>
          cases h2
          refine ⟨.int .i64 z, ?_, .int _ _⟩
          rw [Nat.mul_one, Nat.add_zero, ← hc', putCells_get, hcell i (by omega)]
          have h4 : i < l.length := by omega
          simp only [Option.map_some, List.size_toArray, hsl, if_pos h4]
          rw [getElem!_pos _ i (by simpa using hi)]
          simp [(List.getElem?_eq_some_iff.1 h3).2]
  have hs2 := St.write hst hs1 nm b 1 c' _ hlv hθ hf2 hk
  have hg3 : Grow ((Sort.ahead w n).setRow b c') (Sort.grow ((Sort.ahead w n).setRow b c') os) :=
    ⟨by simp [Sort.grow], rfl, rfl, ⟨rfl, by first | exact Nat.le_refl _ | (unfold Sort.grow; simp)⟩, fun b' hb' => by simp [Sort.grow, Array.getElem?_append_left hb']⟩
  have hs3 := St.grow hst hs2 hg3 (N := fun _ => False) (fun b hb => hb.elim) (fun b hb => hb.elim)
  have hf3 := Fr.grow hs2 hg3 (N := fun _ => False) (fun b hb => hb.elim)
  refine ⟨.tup [], _, _, g, _, F, θ, rfl, ⟨rfl, rfl, rfl⟩, hs3, .pure (.tup [] [] rfl fun i v x h1 h2 => by simp at h1), (hf1.trans hs1 hf2).trans hs2 hf3, fun nm' hnm => ?_⟩
  have h5 : nm' ≠ nm := fun h => by rw [h] at hnm; have := hpn nm hnm; rw [this] at hσ; cases hσ
  rw [upt_ne σ _ h5]
  exact hpn nm' hnm
end Hm
end
section
namespace Go.Proofs
open Go.Shelf
def Try.sort_ren : Go.Shelf.Ren := ⟨fun | 189 => 57 | 125 => 49 | 257 => 75 | 128 => 68 | 129 => 69 | 294 => 83 | 295 => 84 | 296 => 85 | 297 => 86 | 298 => 87 | 299 => 88 | 216 => 73 | 300 => 89 | 301 => 90 | 328 => 93 | 329 => 79 | 330 => 80 | 331 => 94 | 332 => 95 | 215 => 70 | 343 => 96 | n => n, fun | 28 => 22 | 3 => 3 | 46 => 113 | 0 => 0 | 51 => 49 | 53 => 141 | 4 => 4 | 183 => 135 | 182 => 134 | 131 => 130 | 5 => 5 | 9 => 9 | 218 => 152 | 222 => 156 | 228 => 164 | 229 => 165 | n => n, fun n => n⟩
theorem Try.sort_lays : Lays.n189 Try.prog Try.sort_ren :=
  {
    mixed := by kernel_rfl,
    f125 := Try.func49.trans (congrArg some (by kernel_rfl)),
    f128 := Try.func68.trans (congrArg some (by kernel_rfl)),
    f129 := Try.func69.trans (congrArg some (by kernel_rfl)),
    f189 := Try.func57.trans (congrArg some (by kernel_rfl)),
    f215 := Try.func70.trans (congrArg some (by kernel_rfl)),
    f216 := Try.func73.trans (congrArg some (by kernel_rfl)),
    f257 := Try.func75.trans (congrArg some (by kernel_rfl)),
    f294 := Try.func83.trans (congrArg some (by kernel_rfl)),
    f295 := Try.func84.trans (congrArg some (by kernel_rfl)),
    f296 := Try.func85.trans (congrArg some (by kernel_rfl)),
    f297 := Try.func86.trans (congrArg some (by kernel_rfl)),
    f298 := Try.func87.trans (congrArg some (by kernel_rfl)),
    f299 := Try.func88.trans (congrArg some (by kernel_rfl)),
    f300 := Try.func89.trans (congrArg some (by kernel_rfl)),
    f301 := Try.func90.trans (congrArg some (by kernel_rfl)),
    f328 := Try.func93.trans (congrArg some (by kernel_rfl)),
    f329 := Try.func79.trans (congrArg some (by kernel_rfl)),
    f330 := Try.func80.trans (congrArg some (by kernel_rfl)),
    f331 := Try.func94.trans (congrArg some (by kernel_rfl)),
    f332 := Try.func95.trans (congrArg some (by kernel_rfl)),
    f343 := Try.func96.trans (congrArg some (by kernel_rfl)),
    t0 := Try.underlying0,
    a0 := Try.isAgg0,
    z0 := Try.sizeOf0,
    v0 := Try.zeroValue0,
    t3 := Try.underlying3,
    a3 := Try.isAgg3,
    z3 := Try.sizeOf3,
    v3 := Try.zeroValue3,
    t4 := Try.underlying4,
    a4 := Try.isAgg4,
    z4 := Try.sizeOf4,
    v4 := Try.zeroValue4,
    t5 := Try.underlying5,
    a5 := Try.isAgg5,
    z5 := Try.sizeOf5,
    v5 := Try.zeroValue5,
    t9 := Try.underlying9,
    a9 := Try.isAgg9,
    z9 := Try.sizeOf9,
    v9 := Try.zeroValue9,
    t28 := Try.underlying22,
    a28 := Try.isAgg22,
    z28 := Try.sizeOf22,
    v28 := Try.zeroValue22,
    t46 := Try.underlying113,
    a46 := Try.isAgg113,
    z46 := Try.sizeOf113,
    v46 := Try.zeroValue113,
    t51 := Try.underlying49,
    a51 := Try.isAgg49,
    z51 := Try.sizeOf49,
    v51 := Try.zeroValue49,
    t53 := Try.underlying141,
    a53 := Try.isAgg141,
    z53 := Try.sizeOf141,
    v53 := Try.zeroValue141,
    t131 := Try.underlying130,
    a131 := Try.isAgg130,
    z131 := Try.sizeOf130,
    v131 := Try.zeroValue130,
    t182 := Try.underlying134,
    a182 := Try.isAgg134,
    z182 := Try.sizeOf134,
    v182 := Try.zeroValue134,
    t183 := Try.underlying135,
    a183 := Try.isAgg135,
    z183 := Try.sizeOf135,
    v183 := Try.zeroValue135,
    t218 := Try.underlying152,
    a218 := Try.isAgg152,
    z218 := Try.sizeOf152,
    v218 := Try.zeroValue152,
    t222 := Try.underlying156,
    a222 := Try.isAgg156,
    z222 := Try.sizeOf156,
    v222 := Try.zeroValue156,
    t228 := Try.underlying164,
    a228 := Try.isAgg164,
    z228 := Try.sizeOf164,
    v228 := Try.zeroValue164,
    t229 := Try.underlying165,
    a229 := Try.isAgg165,
    z229 := Try.sizeOf165,
    v229 := Try.zeroValue165 }
end Go.Proofs
namespace Hm
open Go
set_option maxRecDepth 100000
set_option maxHeartbeats 1000000
def c_math_bits_Len64 : Cmd :=
 (qS [qc 2 0]
 (qT (qS [qm 3 0, qq 4 (.bin .geq false [] (.t 3) (.c (.int .u64 4294967296)))]
 (.cond (.t 4) (qS [qm 5 0, qq 6 (.bin .shr false [] (.t 5) (.c (.int .u64 32))), qm 0 6]
 (.ops [qc 2 32])) .skip))
 (qT (qS [qm 7 0, qq 8 (.bin .geq false [] (.t 7) (.c (.int .u64 65536)))]
 (.cond (.t 8) (qS [qm 9 0, qq 10 (.bin .shr false [] (.t 9) (.c (.int .u64 16))), qm 0 10]
 (.ops [qm 11 2, qv 12 .add [] 11 16, qm 2 12])) .skip))
 (qT (qS [qm 13 0, qq 14 (.bin .geq false [] (.t 13) (.c (.int .u64 256)))]
 (.cond (.t 14) (qS [qm 15 0, qq 16 (.bin .shr false [] (.t 15) (.c (.int .u64 8))), qm 0 16]
 (.ops [qm 17 2, qv 18 .add [] 17 8, qm 2 18])) .skip))
 (.seq (.ops [qm 19 2, qm 20 0, qq 21 (.conv .u8 (.t 20)), qq 22 (.index (.c (.str [0, 1, 2, 2, 3, 3, 3, 3, 4, 4, 4, 4, 4, 4, 4, 4, 5, 5, 5, 5, 5, 5, 5, 5, 5, 5, 5, 5, 5, 5, 5, 5, 6, 6, 6, 6, 6, 6, 6, 6, 6, 6, 6, 6, 6, 6, 6, 6, 6, 6, 6, 6, 6, 6, 6, 6, 6, 6, 6, 6, 6, 6, 6, 6, 7, 7, 7, 7, 7, 7, 7, 7, 7, 7, 7, 7, 7, 7, 7, 7, 7, 7, 7, 7, 7, 7, 7, 7, 7, 7, 7, 7, 7, 7, 7, 7, 7, 7, 7, 7, 7, 7, 7, 7, 7, 7, 7, 7, 7, 7, 7, 7, 7, 7, 7, 7, 7, 7, 7, 7, 7, 7, 7, 7, 7, 7, 7, 7, 8, 8, 8, 8, 8, 8, 8, 8, 8, 8, 8, 8, 8, 8, 8, 8, 8, 8, 8, 8, 8, 8, 8, 8, 8, 8, 8, 8, 8, 8, 8, 8, 8, 8, 8, 8, 8, 8, 8, 8, 8, 8, 8, 8, 8, 8, 8, 8, 8, 8, 8, 8, 8, 8, 8, 8, 8, 8, 8, 8, 8, 8, 8, 8, 8, 8, 8, 8, 8, 8, 8, 8, 8, 8, 8, 8, 8, 8, 8, 8, 8, 8, 8, 8, 8, 8, 8, 8, 8, 8, 8, 8, 8, 8, 8, 8, 8, 8, 8, 8, 8, 8, 8, 8, 8, 8, 8, 8, 8, 8, 8, 8, 8, 8, 8, 8, 8, 8, 8, 8, 8, 8, 8, 8, 8, 8, 8, 8])) (.t 21)), qq 23 (.conv .i64 (.t 22)), qu 24 .add [] 19 23, qm 2 24]) .ret)))))
def r_math_bits_Len64 : List RVar := [.tmp 2]
def n_math_bits_Len64 : Nat := 25
theorem k_math_bits_Len64 : chkFn Go.Proofs.Try.prog 69 n_math_bits_Len64 r_math_bits_Len64 c_math_bits_Len64 = true := by kernel_rfl
theorem f_bits_Len64_0 : Fc Go.Proofs.Try.prog 69 [.int .u64 0] (.int .i64 0) := by
  refine Fn.step mixed k_math_bits_Len64 ?_
  repeat' (first | refine i_len rfl ?_ | refine i_s rfl ?_ | refine i_lenm rfl rfl rfl ?_ | refine sw ?_ | refine i_s0 rfl ?_ | refine i_gt rfl ?_ | refine i_gf rfl ?_ | refine i_gd rfl ?_ | refine c_t rfl ?_ | refine c_f rfl ?_ | refine jc rfl ?_ | refine ja rfl rfl ?_ | refine jb rfl rfl ?_ | refine jg rfl rfl ?_ | refine jf rfl rfl ?_ | refine jd rfl rfl ?_ | refine je rfl rfl ?_ | refine jh rfl rfl ?_ | refine i_stb rfl ?_ | refine i_alloc rfl ?_ | refine i_box rfl rfl ?_ | refine i_nv rfl ?_ | (refine sp ?_ ?_ <;> try intro h) | fail)
  refine i_ix rfl rfl (by decide) (c := 0) (by decide +kernel) ?_
  repeat' (first | refine i_len rfl ?_ | refine i_s rfl ?_ | refine i_lenm rfl rfl rfl ?_ | refine sw ?_ | refine i_s0 rfl ?_ | refine i_gt rfl ?_ | refine i_gf rfl ?_ | refine i_gd rfl ?_ | refine c_t rfl ?_ | refine c_f rfl ?_ | refine jc rfl ?_ | refine ja rfl rfl ?_ | refine jb rfl rfl ?_ | refine jg rfl rfl ?_ | refine jf rfl rfl ?_ | refine jd rfl rfl ?_ | refine je rfl rfl ?_ | refine jh rfl rfl ?_ | refine i_stb rfl ?_ | refine i_alloc rfl ?_ | refine i_box rfl rfl ?_ | refine i_nv rfl ?_ | (refine sp ?_ ?_ <;> try intro h) | fail)
  refine i_conv (n := 0) rfl ⟨by decide, by decide⟩ ?_
  repeat' (first | refine i_len rfl ?_ | refine i_s rfl ?_ | refine i_lenm rfl rfl rfl ?_ | refine sw ?_ | refine i_s0 rfl ?_ | refine i_gt rfl ?_ | refine i_gf rfl ?_ | refine i_gd rfl ?_ | refine c_t rfl ?_ | refine c_f rfl ?_ | refine jc rfl ?_ | refine ja rfl rfl ?_ | refine jb rfl rfl ?_ | refine jg rfl rfl ?_ | refine jf rfl rfl ?_ | refine jd rfl rfl ?_ | refine je rfl rfl ?_ | refine jh rfl rfl ?_ | refine i_stb rfl ?_ | refine i_alloc rfl ?_ | refine i_box rfl rfl ?_ | refine i_nv rfl ?_ | (refine sp ?_ ?_ <;> try intro h) | fail)
  exact e_ret ⟨rfl, _, rfl, rfl⟩
def c_math_bits_Len : Cmd :=
 (qS [qc 2 0]
 (qT (.cond (.c (.bool false)) (.seq (.ops [qm 3 0, qq 4 (.conv .u32 (.t 3)), qk 5 68 [4], qm 2 5]) .ret) .skip)
 (.seq (.ops [qm 6 0, qk 7 69 [6], qm 2 7]) .ret)))
def r_math_bits_Len : List RVar := [.tmp 2]
def n_math_bits_Len : Nat := 8
theorem k_math_bits_Len : chkFn Go.Proofs.Try.prog 49 n_math_bits_Len r_math_bits_Len c_math_bits_Len = true := by kernel_rfl
theorem f_bits_Len_0 : Fc Go.Proofs.Try.prog 49 [.int .u64 0] (.int .i64 0) := by
  refine Fn.step mixed k_math_bits_Len ?_
  repeat' (first | refine i_len rfl ?_ | refine i_s rfl ?_ | refine i_lenm rfl rfl rfl ?_ | refine sw ?_ | refine i_s0 rfl ?_ | refine i_gt rfl ?_ | refine i_gf rfl ?_ | refine i_gd rfl ?_ | refine c_t rfl ?_ | refine c_f rfl ?_ | refine jc rfl ?_ | refine ja rfl rfl ?_ | refine jb rfl rfl ?_ | refine jg rfl rfl ?_ | refine jf rfl rfl ?_ | refine jd rfl rfl ?_ | refine je rfl rfl ?_ | refine jh rfl rfl ?_ | refine i_stb rfl ?_ | refine i_alloc rfl ?_ | refine i_box rfl rfl ?_ | refine i_nv rfl ?_ | (refine sp ?_ ?_ <;> try intro h) | refine sf rfl rfl f_bits_Len64_0 ?_ | fail)
  exact e_ret ⟨rfl, _, rfl, rfl⟩
def c_slices_insertionSortOrdered_int : Cmd :=
 (qS [qm 8 1, qv 9 .add [] 8 1, qm 6 9]
 (.block 0 (.loop (qT (qS [qm 10 6, qm 11 2, qu 12 .lss [] 10 11]
 (.cond (.t 12) .skip (.exit 0)))
 (qT (.block 1 (qS [qm 15 6, qm 7 15]
 (.block 2 (.loop (qT (qS [qm 16 7, qm 17 1, qu 18 .gtr [] 16 17, qm 19 18, qg 20 19 true (.mov (.t 0)), qg 21 19 true (.mov (.t 7)), qg 22 19 true (.iaddr 1 (.t 20) (.t 21)), qg 23 19 true (.load false 1 (.t 22)), qg 24 19 true (.mov (.t 0)), qg 25 19 true (.mov (.t 7)), qg 26 19 true (.bin .sub false [] (.t 25) (.c (.int .i64 1))), qg 27 19 true (.iaddr 1 (.t 24) (.t 26)), qg 28 19 true (.load false 1 (.t 27)), qg 29 19 true (.call .f (.c (.fn 73 [])) [.t 23, .t 28]), qq 30 (.pick (.t 19) (.t 29) (.c (.bool false)))]
 (.cond (.t 30) .skip (.exit 2)))
 (qT (.block 3 (.ops [qm 33 0, qm 34 7, qm 35 0, qm 36 7, qv 37 .sub [] 36 1, qm 38 0, qm 39 7, qv 40 .sub [] 39 1, qi 41 1 38 40, ql 42 1 41, qm 43 0, qm 44 7, qi 45 1 43 44, ql 46 1 45, qi 47 1 33 34, qs 1 47 42, qi 48 1 35 37, qs 1 48 46]))
 (.ops [qm 31 7, qv 32 .sub [] 31 1, qm 7 32])))))))
 (.ops [qm 13 6, qv 14 .add [] 13 1, qm 6 14]))))))
def r_slices_insertionSortOrdered_int : List RVar := []
def n_slices_insertionSortOrdered_int : Nat := 49
theorem k_slices_insertionSortOrdered_int : chkFn Go.Proofs.Try.prog 83 n_slices_insertionSortOrdered_int r_slices_insertionSortOrdered_int c_slices_insertionSortOrdered_int = true := by kernel_rfl
theorem f_insertionSort_0 : Fc Go.Proofs.Try.prog 83 [.sl .p [], .int .i64 0, .int .i64 0] (.tup []) := by
  refine Fn.step mixed k_slices_insertionSortOrdered_int ?_
  repeat' (first | refine i_len rfl ?_ | refine i_s rfl ?_ | refine i_lenm rfl rfl rfl ?_ | refine sw ?_ | refine i_s0 rfl ?_ | refine i_gt rfl ?_ | refine i_gf rfl ?_ | refine i_gd rfl ?_ | refine c_t rfl ?_ | refine c_f rfl ?_ | refine jc rfl ?_ | refine ja rfl rfl ?_ | refine jb rfl rfl ?_ | refine jg rfl rfl ?_ | refine jf rfl rfl ?_ | refine jd rfl rfl ?_ | refine je rfl rfl ?_ | refine jh rfl rfl ?_ | refine i_stb rfl ?_ | refine i_alloc rfl ?_ | refine i_box rfl rfl ?_ | refine i_nv rfl ?_ | (refine sp ?_ ?_ <;> try intro h) | fail)
  refine c_lp (ι := Unit) (fun _ => [(0, .sl .p []), (1, .int .i64 0), (2, .int .i64 0), (6, .int .i64 1)]) (fun _ => []) (fun _ => True) (fun _ => 0) () trivial ft fun _ _ => ?_
  repeat' (first | refine i_len rfl ?_ | refine i_s rfl ?_ | refine i_lenm rfl rfl rfl ?_ | refine sw ?_ | refine i_s0 rfl ?_ | refine i_gt rfl ?_ | refine i_gf rfl ?_ | refine i_gd rfl ?_ | refine c_t rfl ?_ | refine c_f rfl ?_ | refine jc rfl ?_ | refine ja rfl rfl ?_ | refine jb rfl rfl ?_ | refine jg rfl rfl ?_ | refine jf rfl rfl ?_ | refine jd rfl rfl ?_ | refine je rfl rfl ?_ | refine jh rfl rfl ?_ | refine i_stb rfl ?_ | refine i_alloc rfl ?_ | refine i_box rfl rfl ?_ | refine i_nv rfl ?_ | (refine sp ?_ ?_ <;> try intro h) | fail)
  refine e_end ⟨rfl, _, rfl, rfl⟩
def c_slices_pdqsortOrdered_int : Cmd :=
 (qS [qb 8 true]
 (qS [qb 9 true]
 (.block 0 (.loop (.block 1 (qS [qm 19 2, qm 20 1, qu 21 .sub [] 19 20, qm 10 21]
 (qT (qS [qm 22 10, qv 23 .leq [] 22 12]
 (.cond (.t 23) (.seq (.ops [qm 24 0, qm 25 1, qm 26 2, qk 27 83 [24, 25, 26]]) .ret) .skip))
 (qT (qS [qm 28 3, qv 29 .eql [.i] 28 0]
 (.cond (.t 29) (.seq (.ops [qm 30 0, qm 31 1, qm 32 2, qk 33 84 [30, 31, 32]]) .ret) .skip))
 (qT (qS [qm 34 8, qq 35 (.not (.t 34))]
 (.cond (.t 35) (qS [qm 36 0, qm 37 1, qm 38 2, qk 39 85 [36, 37, 38]]
 (.ops [qm 40 3, qv 41 .sub [] 40 1, qm 3 41])) .skip))
 (qS [qm 43 0, qm 44 1, qm 45 2, qk 46 86 [43, 44, 45], qm 42 46, qq 47 (.extract (.t 42) 0), qq 48 (.extract (.t 42) 1), qm 11 47, qm 12 48]
 (qT (qS [qm 49 12, qv 50 .eql [.i] 49 2]
 (.cond (.t 50) (qS [qm 51 0, qm 52 1, qm 53 2, qk 54 87 [51, 52, 53]]
 (qS [qm 55 2, qv 56 .sub [] 55 1, qm 57 11, qm 58 1, qu 59 .sub [] 57 58, qu 60 .sub [] 56 59, qm 11 60]
 (.ops [qc 12 1]))) .skip))
 (qT (qS [qm 61 8, qm 62 61, qg 63 62 true (.mov (.t 9)), qq 64 (.pick (.t 62) (.t 63) (.c (.bool false))), qm 65 64, qg 66 65 true (.mov (.t 12)), qg 67 65 true (.bin .eql false [.i] (.t 66) (.c (.int .i64 1))), qq 68 (.pick (.t 65) (.t 67) (.c (.bool false)))]
 (.cond (.t 68) (qS [qm 69 0, qm 70 1, qm 71 2, qk 72 88 [69, 70, 71]]
 (.cond (.t 72) .ret .skip)) .skip))
 (qT (qS [qm 73 1, qv 74 .gtr [] 73 0, qm 75 74, qg 76 75 true (.mov (.t 0)), qg 77 75 true (.mov (.t 1)), qg 78 75 true (.bin .sub false [] (.t 77) (.c (.int .i64 1))), qg 79 75 true (.iaddr 1 (.t 76) (.t 78)), qg 80 75 true (.load false 1 (.t 79)), qg 81 75 true (.mov (.t 0)), qg 82 75 true (.mov (.t 11)), qg 83 75 true (.iaddr 1 (.t 81) (.t 82)), qg 84 75 true (.load false 1 (.t 83)), qg 85 75 true (.call .f (.c (.fn 73 [])) [.t 80, .t 84]), qg 86 75 true (.not (.t 85)), qq 87 (.pick (.t 75) (.t 86) (.c (.bool false)))]
 (.cond (.t 87) (qS [qm 88 0, qm 89 1, qm 90 2, qm 91 11, qk 92 89 [88, 89, 90, 91], qm 13 92]
 (qS [qm 93 13, qm 1 93]
 (.exit 1))) .skip))
 (qS [qm 95 0, qm 96 1, qm 97 2, qm 98 11, qk 99 90 [95, 96, 97, 98], qm 94 99, qq 100 (.extract (.t 94) 0), qq 101 (.extract (.t 94) 1), qm 14 100, qm 15 101]
 (qS [qm 102 15, qm 9 102]
 (qS [qm 103 14, qm 104 1, qu 105 .sub [] 103 104, qm 106 2, qm 107 14, qu 108 .sub [] 106 107, qm 16 105, qm 17 108]
 (qS [qm 109 10, qv 110 .quo [] 109 8, qm 18 110]
 (qS [qm 111 16, qm 112 17, qu 113 .lss [] 111 112]
 (.cond (.t 113) (qS [qm 114 16, qm 115 18, qu 116 .geq [] 114 115, qm 8 116]
 (qS [qm 117 0, qm 118 1, qm 119 14, qm 120 3, qk 121 75 [117, 118, 119, 120]]
 (.ops [qm 122 14, qv 123 .add [] 122 1, qm 1 123]))) (qS [qm 124 17, qm 125 18, qu 126 .geq [] 124 125, qm 8 126]
 (qS [qm 127 0, qm 128 14, qv 129 .add [] 128 1, qm 130 2, qm 131 3, qk 132 75 [127, 129, 130, 131]]
 (.ops [qm 133 14, qm 2 133]))))))))))))))))))))))
def r_slices_pdqsortOrdered_int : List RVar := []
def n_slices_pdqsortOrdered_int : Nat := 134
theorem k_slices_pdqsortOrdered_int : chkFn Go.Proofs.Try.prog 75 n_slices_pdqsortOrdered_int r_slices_pdqsortOrdered_int c_slices_pdqsortOrdered_int = true := by kernel_rfl
theorem f_pdqsort_0 : Fc Go.Proofs.Try.prog 75 [.sl .p [], .int .i64 0, .int .i64 0, .int .i64 0] (.tup []) := by
  refine Fn.step mixed k_slices_pdqsortOrdered_int ?_
  repeat' (first | refine i_len rfl ?_ | refine i_s rfl ?_ | refine i_lenm rfl rfl rfl ?_ | refine sw ?_ | refine i_s0 rfl ?_ | refine i_gt rfl ?_ | refine i_gf rfl ?_ | refine i_gd rfl ?_ | refine c_t rfl ?_ | refine c_f rfl ?_ | refine jc rfl ?_ | refine ja rfl rfl ?_ | refine jb rfl rfl ?_ | refine jg rfl rfl ?_ | refine jf rfl rfl ?_ | refine jd rfl rfl ?_ | refine je rfl rfl ?_ | refine jh rfl rfl ?_ | refine i_stb rfl ?_ | refine i_alloc rfl ?_ | refine i_box rfl rfl ?_ | refine i_nv rfl ?_ | (refine sp ?_ ?_ <;> try intro h) | fail)
  refine c_lp (ι := Unit) (fun _ => [(0, .sl .p []), (1, .int .i64 0), (2, .int .i64 0), (3, .int .i64 0)]) (fun _ => []) (fun _ => True) (fun _ => 0) () trivial ft fun _ _ => ?_
  repeat' (first | refine i_len rfl ?_ | refine i_s rfl ?_ | refine i_lenm rfl rfl rfl ?_ | refine sw ?_ | refine i_s0 rfl ?_ | refine i_gt rfl ?_ | refine i_gf rfl ?_ | refine i_gd rfl ?_ | refine c_t rfl ?_ | refine c_f rfl ?_ | refine jc rfl ?_ | refine ja rfl rfl ?_ | refine jb rfl rfl ?_ | refine jg rfl rfl ?_ | refine jf rfl rfl ?_ | refine jd rfl rfl ?_ | refine je rfl rfl ?_ | refine jh rfl rfl ?_ | refine i_stb rfl ?_ | refine i_alloc rfl ?_ | refine i_box rfl rfl ?_ | refine i_nv rfl ?_ | (refine sp ?_ ?_ <;> try intro h) | refine sf rfl rfl f_insertionSort_0 ?_ | fail)
  exact e_ret ⟨rfl, _, rfl, rfl⟩
def c_slices_Sort_int : Cmd :=
 (qS [qm 3 0, qn 4 3, qm 2 4]
 (.ops [qm 5 0, qm 6 2, qm 7 2, qq 8 (.conv .u64 (.t 7)), qk 9 49 [8], qq 10 (.call .f (.c (.fn 75 [])) [.t 5, .c (.int .i64 0), .t 6, .t 9])]))
def r_slices_Sort_int : List RVar := []
def n_slices_Sort_int : Nat := 11
theorem k_slices_Sort_int : chkFn Go.Proofs.Try.prog 57 n_slices_Sort_int r_slices_Sort_int c_slices_Sort_int = true := by kernel_rfl
theorem f_Sort_0 : Fc Go.Proofs.Try.prog 57 [.sl .p []] (.tup []) := by
  refine Fn.step mixed k_slices_Sort_int ?_
  repeat' (first | refine i_len rfl ?_ | refine i_s rfl ?_ | refine i_lenm rfl rfl rfl ?_ | refine sw ?_ | refine i_s0 rfl ?_ | refine i_gt rfl ?_ | refine i_gf rfl ?_ | refine i_gd rfl ?_ | refine c_t rfl ?_ | refine c_f rfl ?_ | refine jc rfl ?_ | refine ja rfl rfl ?_ | refine jb rfl rfl ?_ | refine jg rfl rfl ?_ | refine jf rfl rfl ?_ | refine jd rfl rfl ?_ | refine je rfl rfl ?_ | refine jh rfl rfl ?_ | refine i_stb rfl ?_ | refine i_alloc rfl ?_ | refine i_box rfl rfl ?_ | refine i_nv rfl ?_ | (refine sp ?_ ?_ <;> try intro h) | fail)
  refine i_conv (n := 0) rfl ⟨by decide, by decide⟩ ?_
  repeat' (first | refine i_len rfl ?_ | refine i_s rfl ?_ | refine i_lenm rfl rfl rfl ?_ | refine sw ?_ | refine i_s0 rfl ?_ | refine i_gt rfl ?_ | refine i_gf rfl ?_ | refine i_gd rfl ?_ | refine c_t rfl ?_ | refine c_f rfl ?_ | refine jc rfl ?_ | refine ja rfl rfl ?_ | refine jb rfl rfl ?_ | refine jg rfl rfl ?_ | refine jf rfl rfl ?_ | refine jd rfl rfl ?_ | refine je rfl rfl ?_ | refine jh rfl rfl ?_ | refine i_stb rfl ?_ | refine i_alloc rfl ?_ | refine i_box rfl rfl ?_ | refine i_nv rfl ?_ | (refine sp ?_ ?_ <;> try intro h) | refine sf rfl rfl f_bits_Len_0 ?_ | refine sf rfl rfl f_pdqsort_0 ?_ | fail)
  refine e_end ⟨rfl, _, rfl, rfl⟩
theorem c_Sort {G : Type} {H : HT G} (nm gen : Nat) (l : List Int) {pn : List Nat} {σ : Store} {g : G} (hw : wd nm = 1) (hσ : σ nm = .arr gen (l.map i64V)) (hpn : ∀ nm', σ nm' ≠ .unused → nm' ∈ pn) (hsz : l.length < 4611686018427387904) :
    Cc Go.Proofs.Try.prog H 57 [.msl nm gen 0 l.length] pn σ g fun v σ' g' => v = .tup [] ∧ σ' = ups σ nm (.arr gen ((srtL l).map i64V)) ∧ g' = g :=
  ⟨ct_sort (ρ := Go.Proofs.Try.sort_ren) Go.Proofs.Try.sort_lays nm gen l hw hσ (fun nm' h => Classical.byContradiction fun h' => h (hpn nm' h')) f_Sort_0.out hsz⟩
end Hm
end
section
namespace Hm
open Go
set_option maxRecDepth 100000
set_option maxHeartbeats 4000000
def c_slices_insertionSortCmpFunc_uint32 : Cmd :=
 (qS [qm 10 1, qv 11 .add [] 10 1, qm 8 11]
 (.block 0 (.loop (qT (qS [qm 12 8, qm 13 2, qu 14 .lss [] 12 13]
 (.cond (.t 14) .skip (.exit 0)))
 (qT (.block 1 (qS [qm 17 8, qm 9 17]
 (.block 2 (.loop (qT (qS [qm 18 9, qm 19 1, qu 20 .gtr [] 18 19, qm 21 20, qg 22 21 true (.mov (.t 3)), qg 23 21 true (.mov (.t 0)), qg 24 21 true (.mov (.t 9)), qg 25 21 true (.iaddr 1 (.t 23) (.t 24)), qg 26 21 true (.load false 1 (.t 25)), qg 27 21 true (.mov (.t 0)), qg 28 21 true (.mov (.t 9)), qg 29 21 true (.bin .sub false [] (.t 28) (.c (.int .i64 1))), qg 30 21 true (.iaddr 1 (.t 27) (.t 29)), qg 31 21 true (.load false 1 (.t 30)), qg 32 21 true (.call .f (.t 22) [.t 26, .t 31]), qg 33 21 true (.bin .lss false [] (.t 32) (.c (.int .i64 0))), qq 34 (.pick (.t 21) (.t 33) (.c (.bool false)))]
 (.cond (.t 34) .skip (.exit 2)))
 (qT (.block 3 (.ops [qm 37 0, qm 38 9, qm 39 0, qm 40 9, qv 41 .sub [] 40 1, qm 42 0, qm 43 9, qv 44 .sub [] 43 1, qi 45 1 42 44, ql 46 1 45, qm 47 0, qm 48 9, qi 49 1 47 48, ql 50 1 49, qi 51 1 37 38, qs 1 51 46, qi 52 1 39 41, qs 1 52 50]))
 (.ops [qm 35 9, qv 36 .sub [] 35 1, qm 9 36])))))))
 (.ops [qm 15 8, qv 16 .add [] 15 1, qm 8 16]))))))
def r_slices_insertionSortCmpFunc_uint32 : List RVar := []
def n_slices_insertionSortCmpFunc_uint32 : Nat := 53
theorem k_slices_insertionSortCmpFunc_uint32 : chkFn Go.Proofs.Try.prog 60 n_slices_insertionSortCmpFunc_uint32 r_slices_insertionSortCmpFunc_uint32 c_slices_insertionSortCmpFunc_uint32 = true := by kernel_rfl
theorem f_insertionSortW_0 (v : V) (hv : closedB [] v = true) : Fc Go.Proofs.Try.prog 60 [.sl .p [], .int .i64 0, .int .i64 0, v] (.tup []) := by
  refine Fn.step mixed k_slices_insertionSortCmpFunc_uint32 ?_
  repeat' (first | refine i_s rfl ?_ | refine sw ?_ | refine ja rfl rfl ?_ | fail)
  refine c_lp (ι := Unit) (fun _ => [(0, .sl .p []), (1, .int .i64 0), (2, .int .i64 0), (8, .int .i64 1)]) (fun _ => []) (fun _ => True) (fun _ => 0) () trivial ft fun _ _ => ?_
  repeat' (first | refine i_s rfl ?_ | refine sw ?_ | refine c_f rfl ?_)
  refine e_end ⟨rfl, _, rfl, rfl⟩
def c_slices_pdqsortCmpFunc_uint32 : Cmd :=
 (qS [qb 10 true]
 (qS [qb 11 true]
 (.block 0 (.loop (.block 1 (qS [qm 21 2, qm 22 1, qu 23 .sub [] 21 22, qm 12 23]
 (qT (qS [qm 24 12, qv 25 .leq [] 24 12]
 (.cond (.t 25) (.seq (.ops [qm 26 0, qm 27 1, qm 28 2, qm 29 4, qk 30 60 [26, 27, 28, 29]]) .ret) .skip))
 (qT (qS [qm 31 3, qv 32 .eql [.i] 31 0]
 (.cond (.t 32) (.seq (.ops [qm 33 0, qm 34 1, qm 35 2, qm 36 4, qk 37 61 [33, 34, 35, 36]]) .ret) .skip))
 (qT (qS [qm 38 10, qq 39 (.not (.t 38))]
 (.cond (.t 39) (qS [qm 40 0, qm 41 1, qm 42 2, qm 43 4, qk 44 62 [40, 41, 42, 43]]
 (.ops [qm 45 3, qv 46 .sub [] 45 1, qm 3 46])) .skip))
 (qS [qm 48 0, qm 49 1, qm 50 2, qm 51 4, qk 52 63 [48, 49, 50, 51], qm 47 52, qq 53 (.extract (.t 47) 0), qq 54 (.extract (.t 47) 1), qm 13 53, qm 14 54]
 (qT (qS [qm 55 14, qv 56 .eql [.i] 55 2]
 (.cond (.t 56) (qS [qm 57 0, qm 58 1, qm 59 2, qm 60 4, qk 61 64 [57, 58, 59, 60]]
 (qS [qm 62 2, qv 63 .sub [] 62 1, qm 64 13, qm 65 1, qu 66 .sub [] 64 65, qu 67 .sub [] 63 66, qm 13 67]
 (.ops [qc 14 1]))) .skip))
 (qT (qS [qm 68 10, qm 69 68, qg 70 69 true (.mov (.t 11)), qq 71 (.pick (.t 69) (.t 70) (.c (.bool false))), qm 72 71, qg 73 72 true (.mov (.t 14)), qg 74 72 true (.bin .eql false [.i] (.t 73) (.c (.int .i64 1))), qq 75 (.pick (.t 72) (.t 74) (.c (.bool false)))]
 (.cond (.t 75) (qS [qm 76 0, qm 77 1, qm 78 2, qm 79 4, qk 80 65 [76, 77, 78, 79]]
 (.cond (.t 80) .ret .skip)) .skip))
 (qT (qS [qm 81 1, qv 82 .gtr [] 81 0, qm 83 82, qg 84 83 true (.mov (.t 4)), qg 85 83 true (.mov (.t 0)), qg 86 83 true (.mov (.t 1)), qg 87 83 true (.bin .sub false [] (.t 86) (.c (.int .i64 1))), qg 88 83 true (.iaddr 1 (.t 85) (.t 87)), qg 89 83 true (.load false 1 (.t 88)), qg 90 83 true (.mov (.t 0)), qg 91 83 true (.mov (.t 13)), qg 92 83 true (.iaddr 1 (.t 90) (.t 91)), qg 93 83 true (.load false 1 (.t 92)), qg 94 83 true (.call .f (.t 84) [.t 89, .t 93]), qg 95 83 true (.bin .lss false [] (.t 94) (.c (.int .i64 0))), qg 96 83 true (.not (.t 95)), qq 97 (.pick (.t 83) (.t 96) (.c (.bool false)))]
 (.cond (.t 97) (qS [qm 98 0, qm 99 1, qm 100 2, qm 101 13, qm 102 4, qk 103 66 [98, 99, 100, 101, 102], qm 15 103]
 (qS [qm 104 15, qm 1 104]
 (.exit 1))) .skip))
 (qS [qm 106 0, qm 107 1, qm 108 2, qm 109 13, qm 110 4, qk 111 67 [106, 107, 108, 109, 110], qm 105 111, qq 112 (.extract (.t 105) 0), qq 113 (.extract (.t 105) 1), qm 16 112, qm 17 113]
 (qS [qm 114 17, qm 11 114]
 (qS [qm 115 16, qm 116 1, qu 117 .sub [] 115 116, qm 118 2, qm 119 16, qu 120 .sub [] 118 119, qm 18 117, qm 19 120]
 (qS [qm 121 12, qv 122 .quo [] 121 8, qm 20 122]
 (qS [qm 123 18, qm 124 19, qu 125 .lss [] 123 124]
 (.cond (.t 125) (qS [qm 126 18, qm 127 20, qu 128 .geq [] 126 127, qm 10 128]
 (qS [qm 129 0, qm 130 1, qm 131 16, qm 132 3, qm 133 4, qk 134 48 [129, 130, 131, 132, 133]]
 (.ops [qm 135 16, qv 136 .add [] 135 1, qm 1 136]))) (qS [qm 137 19, qm 138 20, qu 139 .geq [] 137 138, qm 10 139]
 (qS [qm 140 0, qm 141 16, qv 142 .add [] 141 1, qm 143 2, qm 144 3, qm 145 4, qk 146 48 [140, 142, 143, 144, 145]]
 (.ops [qm 147 16, qm 2 147]))))))))))))))))))))))
def r_slices_pdqsortCmpFunc_uint32 : List RVar := []
def n_slices_pdqsortCmpFunc_uint32 : Nat := 148
theorem k_slices_pdqsortCmpFunc_uint32 : chkFn Go.Proofs.Try.prog 48 n_slices_pdqsortCmpFunc_uint32 r_slices_pdqsortCmpFunc_uint32 c_slices_pdqsortCmpFunc_uint32 = true := by kernel_rfl
theorem f_pdqsortW_0 : Fc Go.Proofs.Try.prog 48 [.sl .p [], .int .i64 0, .int .i64 0, .int .i64 0, .fn 32 []] (.tup []) := by
  refine Fn.step mixed k_slices_pdqsortCmpFunc_uint32 ?_
  repeat' (first | refine i_s rfl ?_ | refine sw ?_ | fail)
  refine c_lp (ι := Unit) (fun _ => [(0, .sl .p []), (1, .int .i64 0), (2, .int .i64 0), (3, .int .i64 0), (4, .fn 32 [])]) (fun _ => []) (fun _ => True) (fun _ => 0) () trivial ft fun _ _ => ?_
  repeat' (first | refine i_s rfl ?_ | refine sw ?_ | refine c_t rfl ?_ | refine jb rfl rfl ?_ | refine sf rfl rfl (f_insertionSortW_0 _ rfl) ?_ | fail)
  exact e_ret ⟨rfl, _, rfl, rfl⟩
def c_slices_SortFunc_uint32 : Cmd :=
 (qS [qm 5 0, qn 6 5, qm 4 6]
 (.ops [qm 7 0, qm 8 4, qm 9 4, qq 10 (.conv .u64 (.t 9)), qk 11 49 [10], qm 12 1, qq 13 (.call .f (.c (.fn 48 [])) [.t 7, .c (.int .i64 0), .t 8, .t 11, .t 12])]))
def r_slices_SortFunc_uint32 : List RVar := []
def n_slices_SortFunc_uint32 : Nat := 14
theorem k_slices_SortFunc_uint32 : chkFn Go.Proofs.Try.prog 31 n_slices_SortFunc_uint32 r_slices_SortFunc_uint32 c_slices_SortFunc_uint32 = true := by kernel_rfl
theorem f_SortW_0 : Fc Go.Proofs.Try.prog 31 [.sl .p [], .fn 32 []] (.tup []) := by
  refine Fn.step mixed k_slices_SortFunc_uint32 ?_
  repeat' (first | refine i_s rfl ?_ | refine sw ?_ | fail)
  refine i_conv (n := 0) rfl ⟨by decide, by decide⟩ ?_
  repeat' (first | refine i_s rfl ?_ | refine sw ?_ | refine sf rfl rfl f_bits_Len_0 ?_ | refine sf rfl rfl f_pdqsortW_0 ?_ | fail)
  refine e_end ⟨rfl, _, rfl, rfl⟩
theorem wSWO : Go.Sort.SWO (Go.Proofs.ltOf wOrd) := ⟨fun x => by
    unfold Go.Proofs.ltOf
    rw [wOrd_zero.2 rfl]
    rfl, fun x y z h1 h2 => by
    unfold Go.Proofs.ltOf at *
    simp only [decide_eq_true_eq] at *
    exact wOrd_trans h1 h2, fun x y z h1 h2 => by
    unfold Go.Proofs.ltOf at *
    simp only [decide_eq_false_iff_not] at *
    intro h3
    have e1 := wOrd_neg x y
    have e2 := wOrd_neg y z
    rcases Int.lt_or_eq_of_le (show wOrd y x ≤ 0 by omega) with a | a
    · exact h2 (wOrd_trans a h3)
    · have := wOrd_zero.1 a
      subst this
      exact h2 h3⟩
theorem c_SortW {G : Type} {H : HT G} (nm gen : Nat) (l : List W32) {pn : List Nat} {σ : Store} {g : G} (hw : wd nm = 1) (hσ : σ nm = .arr gen (l.map u32V)) (hpn : ∀ nm', σ nm' ≠ .unused → nm' ∈ pn) (hsz : l.length < 4611686018427387904) :
    Cc Go.Proofs.Try.prog H 31 [.msl nm gen 0 l.length, .fn 32 []] pn σ g fun v σ' g' => v = .tup [] ∧ (∃ l' : List W32, l'.Perm l ∧ (l'.Pairwise fun x y => ¬ wOrd y x < 0) ∧ σ' = ups σ nm (.arr gen (l'.map u32V))) ∧ g' = g :=
  ⟨W1.ct_sort (ρ := Go.Proofs.Try.sortW_ren) Go.Proofs.Try.sortW_lays u32V (fun _ => True) (fun x => ⟨rfl, rfl⟩) wOrd wSWO 32
    (Go.Proofs.enters_of Go.Proofs.Try.func32 (by kernel_rfl) rfl) (fun a b _ _ => (f_space_Checked_1 a b).out) nm gen l (fun _ _ => trivial) hw hσ (fun nm' h => Classical.byContradiction fun h' => h (hpn nm' h')) f_SortW_0.out hsz⟩
theorem wdT_of {t : STask} (h : SV t) : WdT t := by
  have key : ∀ l : List Int, IsSet t.facts l → InW l := fun l hl => by
    have h0 := h.f0
    have h1 := h.f1
    refine ⟨fun p hp => ?_, ?_⟩
    · have := hl.rng p hp
      omega
    · have := isSet_len hl h0
      omega
  refine ⟨key _ h.init, key _ h.goal, fun o ho => ?_, by have := h.opl; omega⟩
  have := h.op o ho
  exact ⟨key _ this.pre, key _ this.add, key _ this.del⟩
theorem restr_none {ns : List Nat} {σ : Store} (h : ∀ n ∈ ns, σ n = .unused) : restr ns σ = stOf [] := by
  funext n
  by_cases hn : n ∈ ns
  · rw [restr_at hn, h n hn]; rfl
  · rw [restr_off hn]; rfl
def c_space_Checked : Cmd :=
 (qS [qx 1 832068 4 0, qq 2 (.mov (.c (.nilptr))), qq 3 (.mov (.c (.sl .nil []))), qq 4 (.alloc 832258 (.agg [.int .i64 0, .int .i64 0]))]
 (qT (qS [qL 9 4 1, qk 10 28 [9], qq 5 (.alloc 832322 (.agg [.int .i64 0, .int .i64 0])), qs 2 5 10]
 (qS [qL 11 2 5, qq 12 (.build [.int .i64 0, .int .i64 0] []), qq 13 (.bin .neq true [.i, .i] (.t 11) (.t 12))]
 (.cond (.t 13) (.seq (.ops [qL 14 2 5, qq 2 (.mov (.c (.nilptr))), qq 3 (.mov (.c (.sl .nil []))), qs 2 4 14]) .ret) .skip)))
 (qS [qL 15 4 1, qk 16 29 [15], qm 6 16]
 (qS [qm 18 6, qq 19 (.mkifc 43 (.t 18)), qq 20 (.call .d (.c (.fn 30 [])) [.t 19]), qm 17 20, qq 21 (.extract (.t 17) 0), qq 22 (.extract (.t 17) 1), qm 7 21, qm 8 22]
 (qT (qS [qm 23 8, qq 24 (.not (.t 23))]
 (.cond (.t 24) (.seq (.ops [qq 25 (.build [.int .i64 0, .int .i64 0] [(0 , 1 , .c (.int .i64 10)), (1 , 1 , .c (.int .i64 (-7)))]), qq 2 (.mov (.c (.nilptr))), qq 3 (.mov (.c (.sl .nil []))), qs 2 4 25]) .ret) .skip))
 (.seq (.ops [qm 26 7, qq 27 (.call .d (.c (.fn 31 [])) [.t 26, .c (.fn 32 [])])]) (qT (.frz 7)
 (.seq (.ops [qm 28 6, qm 29 7, qq 30 (.build [.int .i64 0, .int .i64 0] []), qm 2 28, qm 3 29, qs 2 4 30]) .ret))))))))
def r_space_Checked : List RVar := [.tmp 2, .tmp 3, .cell true 2 4]
def n_space_Checked : Nat := 31
theorem k_space_Checked : chkFn Go.Proofs.Try.prog 13 n_space_Checked r_space_Checked c_space_Checked = true := by kernel_rfl
theorem f_space_Checked_bad (t : STask) (ho : SkOk t) (hb : sFault t ≠ okF) : Fc Go.Proofs.Try.prog 13 [skV t] (.tup [.nilptr, .sl .p [], ftV (sFault t)]) := by
  have hV := f_strips_Validate t ho
  refine Fn.step mixed k_space_Checked ?_
  repeat' (first | refine i_s rfl ?_ | refine sw ?_ | refine i_stb rfl ?_ | refine i_alloc rfl ?_ | refine i_box rfl rfl ?_ | refine c_cond rfl (fun h => ?_) (fun h => ?_) | refine sf rfl rfl hV ?_ | fail)
  · exact e_ret ⟨rfl, _, rfl, rfl⟩
  all_goals exact absurd (eq_ok (by assumption)) hb
theorem f_space_Checked_ok (t : STask) (ho : SkOk t) (hb : sFault t = okF) : Fc Go.Proofs.Try.prog 13 [skV t] (match statesF t with
    | some l => .tup [.cptr .p (wdR (wdOf t)) 0, .sl .p (l.map u32V), ftV okF]
    | none => .tup [.nilptr, .sl .p [], ftV ⟨10, -7⟩]) := by
  have hV := f_strips_Validate t ho
  rw [hb] at hV
  have hv := sFault_ok hb
  have hO := f_space_Of t (wdT_of hv)
  have hol : (wdOf t).ops.length ≤ 1000000 := by unfold wdOf; rw [List.length_map]; have := hv.opl; omega
  refine Fn.step mixed k_space_Checked ?_
  repeat' (first | refine i_s rfl ?_ | refine sw ?_ | refine c_f rfl ?_ | refine i_stb rfl ?_ | refine i_alloc rfl ?_ | refine i_box rfl rfl ?_ | refine sf rfl rfl hV ?_ | refine sf rfl rfl hO ?_ | refine i_ifc rfl ?_)
  refine i_cd [1920385] rfl rfl rfl (by rw [restr_none (fun n hn => by rw [List.mem_singleton.1 hn]; rfl)]; exact ct_All (wdOf t) hol) ?_
  rintro v σ' g' ⟨hP, rfl⟩
  unfold AllPost at hP
  unfold statesF
  cases hA : allF (wdOf t) with
  | none =>
    rw [hA] at hP
    subst hP
    repeat' (first | refine i_s rfl ?_ | refine sw ?_ | refine c_t rfl ?_ | refine i_stb rfl ?_)
    exact e_ret ⟨rfl, _, rfl, rfl⟩
  | some l =>
    rw [hA] at hP
    obtain ⟨g6, rfl, rfl⟩ := hP
    obtain ⟨_, hl2, _⟩ := (allF_spec (wdOf t)).1 l hA
    repeat' (first | refine i_s rfl ?_ | refine sw ?_ | refine c_f rfl ?_)
    refine i_cd [1920385] rfl rfl rfl (c_SortW 1920385 g6 l rfl rfl (fun nm h => restr_mem nm h) (by omega)) ?_
    rintro v σ' g' ⟨rfl, ⟨l', hp, hs, rfl⟩, rfl⟩
    have hll := hp.length_eq
    have el : l' = srtW l := w_sorted (hp.trans (List.mergeSort_perm l _).symm) hs (srtW_ok hA).2.2.2
    repeat refine sw ?_
    refine c_frza rfl rfl rfl ?_
    rw [List.drop_zero, List.take_of_length_le (by rw [List.length_map]; omega)]
    subst el
    repeat' (first | refine i_s rfl ?_ | refine sw ?_ | refine i_stb rfl ?_)
    exact e_ret ⟨rfl, _, rfl, rfl⟩
def c_space_Optimal : Cmd :=
 (qS [qx 1 1088068 4 0, qc 2 0, qq 3 (.alloc 1088194 (.agg [.int .i64 0, .int .i64 0]))]
 (qS [qL 8 4 1, qk 9 13 [8], qm 7 9, qq 10 (.extract (.t 7) 0), qq 11 (.extract (.t 7) 1), qq 12 (.extract (.t 7) 2), qq 6 (.alloc 1088386 (.agg [.int .i64 0, .int .i64 0])), qm 4 10, qm 5 11, qs 2 6 12]
 (qT (qS [qL 13 2 6, qq 14 (.build [.int .i64 0, .int .i64 0] []), qq 15 (.bin .neq true [.i, .i] (.t 13) (.t 14))]
 (.cond (.t 15) (.seq (.ops [qL 16 2 6, qc 2 0, qs 2 3 16]) .ret) .skip))
 (.seq (.ops [qm 17 4, qm 18 5, qk 19 14 [17, 18], qm 20 4, qk 21 16 [20], qq 22 (.mget false (.int .i64 0) (.t 19) (.t 21)), qq 23 (.build [.int .i64 0, .int .i64 0] []), qm 2 22, qs 2 3 23]) .ret))))
def r_space_Optimal : List RVar := [.tmp 2, .cell true 2 3]
def n_space_Optimal : Nat := 24
theorem k_space_Optimal : chkFn Go.Proofs.Try.prog 17 n_space_Optimal r_space_Optimal c_space_Optimal = true := by kernel_rfl
theorem f_space_Optimal_ok (t : STask) (ho : SkOk t) (hb : sFault t = okF) {l : List W32} (hl : statesF t = some l) {d : Int} (hd : Least (wdOf t) (wdOf t).start d) : Fc Go.Proofs.Try.prog 17 [skV t] (.tup [.int .i64 d, ftV okF]) := by
  have hV := f_space_Checked_ok t ho hb
  rw [hl] at hV
  simp only at hV
  have hv := sFault_ok hb
  have hol : (wdOf t).ops.length ≤ 1000000 := by unfold wdOf; rw [List.length_map]; have := hv.opl; omega
  have hI : IsStates (wdOf t) l := by
    unfold statesF at hl
    cases hA : allF (wdOf t) with
    | none => rw [hA] at hl; cases hl
    | some l0 => rw [hA] at hl; cases hl; exact srtW_ok hA
  obtain ⟨D, hD⟩ := least_all (wdOf_cost hv)
  have hC := f_space_Costs (wdOf t) (wdOf_cost hv) hol l hI.1 hI.2.1 hI.closed D hD
  have hS := f_space_Words_Start (wdOf t)
  have hst : (wdOf t).start ∈ l := (hI.2.2.1 _).2 .start
  have hg : mres false (.int .i64 0) (mgetv (l.map toI) (l.map fun s => i64V (D s)) ((wdOf t).start.toNat : Int)) = .int .i64 d := by
    have : mgetv (l.map toI) (l.map fun s => i64V (D s)) ((wdOf t).start.toNat : Int) = some (i64V (D (wdOf t).start)) := out_get hst
    rw [this, (hD _).uniq hd]
    rfl
  refine Fn.step mixed k_space_Optimal ?_
  repeat' (first | refine i_s rfl ?_ | refine sw ?_ | refine c_f rfl ?_ | refine i_stb rfl ?_ | refine i_alloc rfl ?_ | refine i_box rfl rfl ?_ | refine sf rfl rfl hV ?_ | refine sf rfl rfl hC ?_ | refine sf rfl rfl hS ?_ | refine i_mg rfl rfl rfl hg ?_)
  exact e_ret ⟨rfl, _, rfl, rfl⟩
end Hm
end
section
namespace Hm
open Go
set_option maxRecDepth 100000
set_option maxHeartbeats 2000000
theorem dd_get {l : List Int} {m i : Nat} (hi : (ddK l m).length ≤ i) : (ddK l m ++ l.drop (ddK l m).length)[i]? = l[i]? := by
  rw [List.getElem?_append_right hi, List.getElem?_drop]
  congr 1
  omega
theorem dd_set {l : List Int} {m : Nat} {x : Int} (hd : (ddK l m).length < l.length) : (ddK l m ++ l.drop (ddK l m).length).set (ddK l m).length x = (ddK l m ++ [x]) ++ l.drop (ddK l m ++ [x]).length := by
  rw [List.set_append_right _ _ (Nat.le_refl _), Nat.sub_self]
  have : l.drop (ddK l m).length = l[(ddK l m).length] :: l.drop ((ddK l m).length + 1) := List.drop_eq_getElem_cons hd
  rw [this, List.set_cons_zero]
  simp
def c_slices_Compact_int : Cmd :=
 (qS [qq 2 (.mov (.c (.sl .nil [])))]
 (qT (qS [qm 6 0, qn 7 6, qv 8 .lss [] 7 2]
 (.cond (.t 8) (.seq (.ops [qm 9 0, qm 2 9]) .ret) .skip))
 (qT (qS [qc 3 1]
 (.block 0 (.loop (qT (qS [qm 10 3, qm 11 0, qn 12 11, qu 13 .lss [] 10 12]
 (.cond (.t 13) .skip (.exit 0)))
 (qT (.block 1 (qS [qm 16 0, qm 17 3, qi 18 1 16 17, ql 19 1 18, qm 20 0, qm 21 3, qv 22 .sub [] 21 1, qi 23 1 20 22, ql 24 1 23, qu 25 .eql [.i] 19 24]
 (.cond (.t 25) (qS [qm 26 0, qm 27 3, qq 28 (.slice false 1 (.t 26) (some (.t 27)) none), qm 4 28]
 (qT (qS [qc 5 1]
 (.block 2 (.loop (qT (qS [qm 29 5, qm 30 4, qn 31 30, qu 32 .lss [] 29 31]
 (.cond (.t 32) .skip (.exit 2)))
 (qT (.block 3 (qS [qm 35 4, qm 36 5, qi 37 1 35 36, ql 38 1 37, qm 39 4, qm 40 5, qv 41 .sub [] 40 1, qi 42 1 39 41, ql 43 1 42, qu 44 .neq [.i] 38 43]
 (.cond (.t 44) (qS [qm 45 0, qm 46 3, qm 47 4, qm 48 5, qi 49 1 47 48, ql 50 1 49, qi 51 1 45 46, qs 1 51 50]
 (.ops [qm 52 3, qv 53 .add [] 52 1, qm 3 53])) .skip)))
 (.ops [qm 33 5, qv 34 .add [] 33 1, qm 5 34]))))))
 (qS [qm 54 0, qm 55 3, qq 56 (.slice false 1 (.t 54) (some (.t 55)) none), .op none none (.clear 1 8 (.int .i64 0) (.t 56))]
 (.seq (.ops [qm 57 0, qm 58 3, qq 59 (.slice false 1 (.t 57) none (some (.t 58))), qm 2 59]) .ret)))) .skip)))
 (.ops [qm 14 3, qv 15 .add [] 14 1, qm 3 15]))))))
 (.seq (.ops [qm 60 0, qm 2 60]) .ret))))
def r_slices_Compact_int : List RVar := [.tmp 2]
def n_slices_Compact_int : Nat := 61
theorem k_slices_Compact_int : chkFn Go.Proofs.Try.prog 58 n_slices_Compact_int r_slices_Compact_int c_slices_Compact_int = true := by kernel_rfl
theorem c_Compact {G : Type} {H : HT G} (gen : Nat) (l : List Int) (hl : l.length ≤ 17592186044416) (σ : Store) (g : G) (hσ : σ 2944449 = .arr gen (l.map i64V)) (hp : ∀ nm, σ nm ≠ .unused → nm ∈ [2944449]) :
    Cc Go.Proofs.Try.prog H 58 [.msl 2944449 gen 0 l.length] [2944449] σ g fun v σ' g' => (∃ rows, v = .msl 2944449 gen 0 (compL l).length ∧ σ' = stOf [(2944449, .arr gen rows)] ∧ rows.take (compL l).length = (compL l).map i64V) ∧ g' = g := by
  refine CT.step _ mixed k_slices_Compact_int hp fun hM => ?_
  refine c_seq ?_
  refine c_ops ?_
  refine i_s rfl ?_
  refine i_nil ?_
  refine e_seq ?_
  refine c_cut [(0, .msl 2944449 gen 0 l.length)] [(2944449, .arr gen (l.map i64V))] ⟨⟨rfl, trivial⟩, ⟨hσ, trivial⟩, rfl⟩ ?_
  have fin : compL l = l → ∃ rows, V.msl 2944449 gen 0 l.length = .msl 2944449 gen 0 (compL l).length ∧ stOf [(2944449, .arr gen (l.map i64V))] = stOf [(2944449, .arr gen rows)] ∧ rows.take (compL l).length = (compL l).map i64V := fun e => ⟨l.map i64V, by rw [e], rfl, by rw [e, List.take_of_length_le (by simp)]⟩
  repeat (first | refine i_len rfl ?_ | refine i_s rfl ?_ | refine i_lenm rfl rfl rfl ?_ | refine sw ?_ | refine i_s0 rfl ?_ | refine i_gt rfl ?_ | refine i_gf rfl ?_ | refine i_gd rfl ?_ | refine c_t rfl ?_ | refine c_f rfl ?_ | refine jc rfl ?_ | refine ja rfl rfl ?_ | refine jb rfl rfl ?_ | refine jg rfl rfl ?_ | refine jf rfl rfl ?_ | refine jd rfl rfl ?_ | refine je rfl rfl ?_ | refine jh rfl rfl ?_ | refine i_stb rfl ?_ | refine i_alloc rfl ?_ | refine i_box rfl rfl ?_ | refine i_nv rfl ?_)
  refine c_cond rfl (fun h => ?_) (fun h => ?_)
  · have h2 : l.length < 2 := by have : (l.length : Int) < 2 := by simpa using h
                                 omega
    repeat (first | refine i_len rfl ?_ | refine i_s rfl ?_ | refine i_lenm rfl rfl rfl ?_ | refine sw ?_ | refine i_s0 rfl ?_ | refine i_gt rfl ?_ | refine i_gf rfl ?_ | refine i_gd rfl ?_ | refine c_t rfl ?_ | refine c_f rfl ?_ | refine jc rfl ?_ | refine ja rfl rfl ?_ | refine jb rfl rfl ?_ | refine jg rfl rfl ?_ | refine jf rfl rfl ?_ | refine jd rfl rfl ?_ | refine je rfl rfl ?_ | refine jh rfl rfl ?_ | refine i_stb rfl ?_ | refine i_alloc rfl ?_ | refine i_box rfl rfl ?_ | refine i_nv rfl ?_)
    refine e_ret ⟨rfl, _, rfl, rfl, rfl, ?_, rfl⟩
    rw [restr_stOf]
    exact fin (by unfold compL; rw [ddK_all _ (Nat.le_refl _) fun j h1 h3 => by omega, List.take_length])
  have h2 : 2 ≤ l.length := by have : ¬ (l.length : Int) < 2 := by simpa using h
                               omega
  clear h
  repeat (first | refine i_len rfl ?_ | refine i_s rfl ?_ | refine i_lenm rfl rfl rfl ?_ | refine sw ?_ | refine i_s0 rfl ?_ | refine i_gt rfl ?_ | refine i_gf rfl ?_ | refine i_gd rfl ?_ | refine c_t rfl ?_ | refine c_f rfl ?_ | refine jc rfl ?_ | refine ja rfl rfl ?_ | refine jb rfl rfl ?_ | refine jg rfl rfl ?_ | refine jf rfl rfl ?_ | refine jd rfl rfl ?_ | refine je rfl rfl ?_ | refine jh rfl rfl ?_ | refine i_stb rfl ?_ | refine i_alloc rfl ?_ | refine i_box rfl rfl ?_ | refine i_nv rfl ?_)
  refine c_lp (ι := Nat) (fun k => [(0, .msl 2944449 gen 0 l.length), (3, .int .i64 k)]) (fun _ => [(2944449, .arr gen (l.map i64V))]) (fun k => 1 ≤ k ∧ k ≤ l.length ∧ ∀ j, 0 < j → j < k → l[j]? ≠ l[j - 1]?) (fun k => l.length - k) 1 ⟨Nat.le_refl _, by omega, fun j h1 h2 => by omega⟩ ft fun k hi => ?_
  obtain ⟨k1, k2, k3⟩ := hi
  repeat (first | refine i_len rfl ?_ | refine i_s rfl ?_ | refine i_lenm rfl rfl rfl ?_ | refine sw ?_ | refine i_s0 rfl ?_ | refine i_gt rfl ?_ | refine i_gf rfl ?_ | refine i_gd rfl ?_ | refine c_t rfl ?_ | refine c_f rfl ?_ | refine jc rfl ?_ | refine ja rfl rfl ?_ | refine jb rfl rfl ?_ | refine jg rfl rfl ?_ | refine jf rfl rfl ?_ | refine jd rfl rfl ?_ | refine je rfl rfl ?_ | refine jh rfl rfl ?_ | refine i_stb rfl ?_ | refine i_alloc rfl ?_ | refine i_box rfl rfl ?_ | refine i_nv rfl ?_)
  refine c_cond rfl (fun h => ?_) (fun h => ?_)
  · have hlt : k < l.length := by have : (k : Int) < l.length := by simpa using h
                                  omega
    obtain ⟨x, hx⟩ := get_some hlt
    obtain ⟨y, hy⟩ := get_some (l := l) (k := k - 1) (by omega)
    clear h
    repeat (first | refine i_len rfl ?_ | refine i_s rfl ?_ | refine i_lenm rfl rfl rfl ?_ | refine sw ?_ | refine i_s0 rfl ?_ | refine i_gt rfl ?_ | refine i_gf rfl ?_ | refine i_gd rfl ?_ | refine c_t rfl ?_ | refine c_f rfl ?_ | refine jc rfl ?_ | refine ja rfl rfl ?_ | refine jb rfl rfl ?_ | refine jg rfl rfl ?_ | refine jf rfl rfl ?_ | refine jd rfl rfl ?_ | refine je rfl rfl ?_ | refine jh rfl rfl ?_ | refine i_stb rfl ?_ | refine i_alloc rfl ?_ | refine i_box rfl rfl ?_ | refine i_nv rfl ?_)
    refine i_ima rfl rfl rfl rfl (by omega) (by omega) rfl ?_
    refine i_ldp (row := i64V x) rfl rfl rfl (by simp [hx]) rfl ?_
    repeat (first | refine i_len rfl ?_ | refine i_s rfl ?_ | refine i_lenm rfl rfl rfl ?_ | refine sw ?_ | refine i_s0 rfl ?_ | refine i_gt rfl ?_ | refine i_gf rfl ?_ | refine i_gd rfl ?_ | refine c_t rfl ?_ | refine c_f rfl ?_ | refine jc rfl ?_ | refine ja rfl rfl ?_ | refine jb rfl rfl ?_ | refine jg rfl rfl ?_ | refine jf rfl rfl ?_ | refine jd rfl rfl ?_ | refine je rfl rfl ?_ | refine jh rfl rfl ?_ | refine i_stb rfl ?_ | refine i_alloc rfl ?_ | refine i_box rfl rfl ?_ | refine i_nv rfl ?_)
    refine i_ima rfl rfl rfl rfl (by omega) (by omega) rfl ?_
    refine i_ldp (row := i64V y) rfl rfl rfl (by rw [show 0 + ((k : Int) - 1).toNat = k - 1 from by omega]; simp [hy]) rfl ?_
    repeat (first | refine i_len rfl ?_ | refine i_s rfl ?_ | refine i_lenm rfl rfl rfl ?_ | refine sw ?_ | refine i_s0 rfl ?_ | refine i_gt rfl ?_ | refine i_gf rfl ?_ | refine i_gd rfl ?_ | refine c_t rfl ?_ | refine c_f rfl ?_ | refine jc rfl ?_ | refine ja rfl rfl ?_ | refine jb rfl rfl ?_ | refine jg rfl rfl ?_ | refine jf rfl rfl ?_ | refine jd rfl rfl ?_ | refine je rfl rfl ?_ | refine jh rfl rfl ?_ | refine i_stb rfl ?_ | refine i_alloc rfl ?_ | refine i_box rfl rfl ?_ | refine i_nv rfl ?_)
    refine c_cond rfl (fun h => ?_) (fun h => ?_)
    · have e : x = y := by simpa using h
      subst e
      clear h
      repeat (first | refine i_len rfl ?_ | refine i_s rfl ?_ | refine i_lenm rfl rfl rfl ?_ | refine sw ?_ | refine i_s0 rfl ?_ | refine i_gt rfl ?_ | refine i_gf rfl ?_ | refine i_gd rfl ?_ | refine c_t rfl ?_ | refine c_f rfl ?_ | refine jc rfl ?_ | refine ja rfl rfl ?_ | refine jb rfl rfl ?_ | refine jg rfl rfl ?_ | refine jf rfl rfl ?_ | refine jd rfl rfl ?_ | refine je rfl rfl ?_ | refine jh rfl rfl ?_ | refine i_stb rfl ?_ | refine i_alloc rfl ?_ | refine i_box rfl rfl ?_ | refine i_nv rfl ?_)
      refine i_sm rfl rfl rfl rfl (by omega) (by omega) rfl ?_
      repeat (first | refine i_len rfl ?_ | refine i_s rfl ?_ | refine i_lenm rfl rfl rfl ?_ | refine sw ?_ | refine i_s0 rfl ?_ | refine i_gt rfl ?_ | refine i_gf rfl ?_ | refine i_gd rfl ?_ | refine c_t rfl ?_ | refine c_f rfl ?_ | refine jc rfl ?_ | refine ja rfl rfl ?_ | refine jb rfl rfl ?_ | refine jg rfl rfl ?_ | refine jf rfl rfl ?_ | refine jd rfl rfl ?_ | refine je rfl rfl ?_ | refine jh rfl rfl ?_ | refine i_stb rfl ?_ | refine i_alloc rfl ?_ | refine i_box rfl rfl ?_ | refine i_nv rfl ?_)
      have e0 := ddK_all k (by omega) k3
      have e1 : ddK l (k + 1) = l.take k := by rw [ddK_skip hx (by omega) hy, e0]
      refine c_lp (ι := Nat) (fun j => [(0, .msl 2944449 gen 0 l.length), (3, .int .i64 (ddK l (k + j)).length), (4, .msl 2944449 gen (0 + k) (l.length - k)), (5, .int .i64 j)])
        (fun j => [(2944449, .arr gen ((ddK l (k + j) ++ l.drop (ddK l (k + j)).length).map i64V))]) (fun j => 1 ≤ j ∧ k + j ≤ l.length ∧ (ddK l (k + j)).length + 1 ≤ k + j) (fun j => l.length - j) 1 ⟨Nat.le_refl _, by omega, by rw [e1]; simp; omega⟩ ⟨⟨rfl, ?_, rfl, rfl, trivial⟩, ⟨?_, trivial⟩, rfl⟩ fun j hj => ?_
      · rw [e1, List.length_take, Nat.min_eq_left (by omega)]; rfl
      · rw [e1, List.length_take, Nat.min_eq_left (by omega), List.take_append_drop]; rfl
      obtain ⟨j1, j2, j3⟩ := hj
      have hdl := ddK_len l (k + j)
      have hAl : (ddK l (k + j) ++ l.drop (ddK l (k + j)).length).length = l.length := by simp; omega
      repeat (first | refine i_len rfl ?_ | refine i_s rfl ?_ | refine i_lenm rfl rfl rfl ?_ | refine sw ?_ | refine i_s0 rfl ?_ | refine i_gt rfl ?_ | refine i_gf rfl ?_ | refine i_gd rfl ?_ | refine c_t rfl ?_ | refine c_f rfl ?_ | refine jc rfl ?_ | refine ja rfl rfl ?_ | refine jb rfl rfl ?_ | refine jg rfl rfl ?_ | refine jf rfl rfl ?_ | refine jd rfl rfl ?_ | refine je rfl rfl ?_ | refine jh rfl rfl ?_ | refine i_stb rfl ?_ | refine i_alloc rfl ?_ | refine i_box rfl rfl ?_ | refine i_nv rfl ?_)
      refine c_cond rfl (fun h => ?_) (fun h => ?_)
      · have hlt2 : j < l.length - k := by have : (j : Int) < ((l.length - k : Nat) : Int) := by simpa using h
                                           omega
        obtain ⟨a, ha⟩ := get_some (l := l) (k := k + j) (by omega)
        obtain ⟨b, hb⟩ := get_some (l := l) (k := k + j - 1) (by omega)
        have ha' := ha
        rw [← dd_get (m := k + j) (by omega)] at ha'
        have hb' := hb
        rw [← dd_get (m := k + j) (by omega)] at hb'
        clear h
        repeat (first | refine i_len rfl ?_ | refine i_s rfl ?_ | refine i_lenm rfl rfl rfl ?_ | refine sw ?_ | refine i_s0 rfl ?_ | refine i_gt rfl ?_ | refine i_gf rfl ?_ | refine i_gd rfl ?_ | refine c_t rfl ?_ | refine c_f rfl ?_ | refine jc rfl ?_ | refine ja rfl rfl ?_ | refine jb rfl rfl ?_ | refine jg rfl rfl ?_ | refine jf rfl rfl ?_ | refine jd rfl rfl ?_ | refine je rfl rfl ?_ | refine jh rfl rfl ?_ | refine i_stb rfl ?_ | refine i_alloc rfl ?_ | refine i_box rfl rfl ?_ | refine i_nv rfl ?_)
        refine i_ima rfl rfl rfl rfl (by omega) (by omega) rfl ?_
        refine i_ldp (row := i64V a) rfl rfl rfl (by rw [show 0 + k + (j : Int).toNat = k + j from by omega, List.getElem?_map, ha']; rfl) rfl ?_
        repeat (first | refine i_len rfl ?_ | refine i_s rfl ?_ | refine i_lenm rfl rfl rfl ?_ | refine sw ?_ | refine i_s0 rfl ?_ | refine i_gt rfl ?_ | refine i_gf rfl ?_ | refine i_gd rfl ?_ | refine c_t rfl ?_ | refine c_f rfl ?_ | refine jc rfl ?_ | refine ja rfl rfl ?_ | refine jb rfl rfl ?_ | refine jg rfl rfl ?_ | refine jf rfl rfl ?_ | refine jd rfl rfl ?_ | refine je rfl rfl ?_ | refine jh rfl rfl ?_ | refine i_stb rfl ?_ | refine i_alloc rfl ?_ | refine i_box rfl rfl ?_ | refine i_nv rfl ?_)
        refine i_ima rfl rfl rfl rfl (by omega) (by omega) rfl ?_
        refine i_ldp (row := i64V b) rfl rfl rfl (by rw [show 0 + k + ((j : Int) - 1).toNat = k + j - 1 from by omega, List.getElem?_map, hb']; rfl) rfl ?_
        repeat (first | refine i_len rfl ?_ | refine i_s rfl ?_ | refine i_lenm rfl rfl rfl ?_ | refine sw ?_ | refine i_s0 rfl ?_ | refine i_gt rfl ?_ | refine i_gf rfl ?_ | refine i_gd rfl ?_ | refine c_t rfl ?_ | refine c_f rfl ?_ | refine jc rfl ?_ | refine ja rfl rfl ?_ | refine jb rfl rfl ?_ | refine jg rfl rfl ?_ | refine jf rfl rfl ?_ | refine jd rfl rfl ?_ | refine je rfl rfl ?_ | refine jh rfl rfl ?_ | refine i_stb rfl ?_ | refine i_alloc rfl ?_ | refine i_box rfl rfl ?_ | refine i_nv rfl ?_)
        refine c_cond rfl (fun h => ?_) (fun h => ?_)
        · have hne : a ≠ b := by simpa using h
          have ek : ddK l (k + (j + 1)) = ddK l (k + j) ++ [a] := ddK_keep (k := k + j) ha (.inr (by rw [hb]; simpa using fun e => hne e.symm))
          clear h
          repeat (first | refine i_len rfl ?_ | refine i_s rfl ?_ | refine i_lenm rfl rfl rfl ?_ | refine sw ?_ | refine i_s0 rfl ?_ | refine i_gt rfl ?_ | refine i_gf rfl ?_ | refine i_gd rfl ?_ | refine c_t rfl ?_ | refine c_f rfl ?_ | refine jc rfl ?_ | refine ja rfl rfl ?_ | refine jb rfl rfl ?_ | refine jg rfl rfl ?_ | refine jf rfl rfl ?_ | refine jd rfl rfl ?_ | refine je rfl rfl ?_ | refine jh rfl rfl ?_ | refine i_stb rfl ?_ | refine i_alloc rfl ?_ | refine i_box rfl rfl ?_ | refine i_nv rfl ?_)
          refine i_ima rfl rfl rfl rfl (by omega) (by omega) rfl ?_
          refine i_ldp (row := i64V a) rfl rfl rfl (by rw [show 0 + k + (j : Int).toNat = k + j from by omega, List.getElem?_map, ha']; rfl) rfl ?_
          repeat (first | refine i_len rfl ?_ | refine i_s rfl ?_ | refine i_lenm rfl rfl rfl ?_ | refine sw ?_ | refine i_s0 rfl ?_ | refine i_gt rfl ?_ | refine i_gf rfl ?_ | refine i_gd rfl ?_ | refine c_t rfl ?_ | refine c_f rfl ?_ | refine jc rfl ?_ | refine ja rfl rfl ?_ | refine jb rfl rfl ?_ | refine jg rfl rfl ?_ | refine jf rfl rfl ?_ | refine jd rfl rfl ?_ | refine je rfl rfl ?_ | refine jh rfl rfl ?_ | refine i_stb rfl ?_ | refine i_alloc rfl ?_ | refine i_box rfl rfl ?_ | refine i_nv rfl ?_)
          refine i_ima rfl rfl rfl rfl (by omega) (by omega) rfl ?_
          refine i_sti rfl rfl rfl rfl rfl (by rw [hAl]; omega) ?_
          repeat (first | refine i_len rfl ?_ | refine i_s rfl ?_ | refine i_lenm rfl rfl rfl ?_ | refine sw ?_ | refine i_s0 rfl ?_ | refine i_gt rfl ?_ | refine i_gf rfl ?_ | refine i_gd rfl ?_ | refine c_t rfl ?_ | refine c_f rfl ?_ | refine jc rfl ?_ | refine ja rfl rfl ?_ | refine jb rfl rfl ?_ | refine jg rfl rfl ?_ | refine jf rfl rfl ?_ | refine jd rfl rfl ?_ | refine je rfl rfl ?_ | refine jh rfl rfl ?_ | refine i_stb rfl ?_ | refine i_alloc rfl ?_ | refine i_box rfl rfl ?_ | refine i_nv rfl ?_)
          refine e_lp (j + 1) ⟨by omega, by omega, by rw [ek]; simp; omega⟩ (by omega) ⟨⟨rfl, ?_, rfl, rfl, trivial⟩, ⟨?_, trivial⟩, rfl⟩
          · rw [ek]; simp; rfl
          · have := dd_set (l := l) (m := k + j) (x := a) (by omega)
            rw [ek, ← this, show (ddK l (k + j)).length = 0 + ((ddK l (k + j)).length : Int).toNat from by omega]
            simp
            rfl
        · have he : a = b := by simpa using h
          subst he
          have ek : ddK l (k + (j + 1)) = ddK l (k + j) := ddK_skip (k := k + j) ha (by omega) hb
          clear h
          repeat (first | refine i_len rfl ?_ | refine i_s rfl ?_ | refine i_lenm rfl rfl rfl ?_ | refine sw ?_ | refine i_s0 rfl ?_ | refine i_gt rfl ?_ | refine i_gf rfl ?_ | refine i_gd rfl ?_ | refine c_t rfl ?_ | refine c_f rfl ?_ | refine jc rfl ?_ | refine ja rfl rfl ?_ | refine jb rfl rfl ?_ | refine jg rfl rfl ?_ | refine jf rfl rfl ?_ | refine jd rfl rfl ?_ | refine je rfl rfl ?_ | refine jh rfl rfl ?_ | refine i_stb rfl ?_ | refine i_alloc rfl ?_ | refine i_box rfl rfl ?_ | refine i_nv rfl ?_)
          refine e_lp (j + 1) ⟨by omega, by omega, by rw [ek]; omega⟩ (by omega) ⟨⟨rfl, ?_, rfl, rfl, trivial⟩, ⟨?_, trivial⟩, rfl⟩
          · rw [ek]; rfl
          · rw [ek]; rfl
      · have hje : k + j = l.length := by have : ¬ (j : Int) < ((l.length - k : Nat) : Int) := by simpa using h
                                          omega
        have ec : compL l = ddK l (k + j) := by unfold compL; rw [hje]
        clear fin
        clear h
        repeat (first | refine i_len rfl ?_ | refine i_s rfl ?_ | refine i_lenm rfl rfl rfl ?_ | refine sw ?_ | refine i_s0 rfl ?_ | refine i_gt rfl ?_ | refine i_gf rfl ?_ | refine i_gd rfl ?_ | refine c_t rfl ?_ | refine c_f rfl ?_ | refine jc rfl ?_ | refine ja rfl rfl ?_ | refine jb rfl rfl ?_ | refine jg rfl rfl ?_ | refine jf rfl rfl ?_ | refine jd rfl rfl ?_ | refine je rfl rfl ?_ | refine jh rfl rfl ?_ | refine i_stb rfl ?_ | refine i_alloc rfl ?_ | refine i_box rfl rfl ?_ | refine i_nv rfl ?_)
        refine i_sm rfl rfl rfl rfl (by omega) (by omega) rfl ?_
        refine i_clear rfl rfl rfl rfl ?_
        repeat (first | refine i_len rfl ?_ | refine i_s rfl ?_ | refine i_lenm rfl rfl rfl ?_ | refine sw ?_ | refine i_s0 rfl ?_ | refine i_gt rfl ?_ | refine i_gf rfl ?_ | refine i_gd rfl ?_ | refine c_t rfl ?_ | refine c_f rfl ?_ | refine jc rfl ?_ | refine ja rfl rfl ?_ | refine jb rfl rfl ?_ | refine jg rfl rfl ?_ | refine jf rfl rfl ?_ | refine jd rfl rfl ?_ | refine je rfl rfl ?_ | refine jh rfl rfl ?_ | refine i_stb rfl ?_ | refine i_alloc rfl ?_ | refine i_box rfl rfl ?_ | refine i_nv rfl ?_)
        refine i_smh rfl rfl rfl rfl rfl (by omega) (by omega) (by omega) rfl ?_
        repeat (first | refine i_len rfl ?_ | refine i_s rfl ?_ | refine i_lenm rfl rfl rfl ?_ | refine sw ?_ | refine i_s0 rfl ?_ | refine i_gt rfl ?_ | refine i_gf rfl ?_ | refine i_gd rfl ?_ | refine c_t rfl ?_ | refine c_f rfl ?_ | refine jc rfl ?_ | refine ja rfl rfl ?_ | refine jb rfl rfl ?_ | refine jg rfl rfl ?_ | refine jf rfl rfl ?_ | refine jd rfl rfl ?_ | refine je rfl rfl ?_ | refine jh rfl rfl ?_ | refine i_stb rfl ?_ | refine i_alloc rfl ?_ | refine i_box rfl rfl ?_ | refine i_nv rfl ?_)
        rw [ec]
        refine e_ret ⟨rfl, _, rfl, rfl, rfl, ⟨_, ?_, restr_stOf _ _, ?_⟩, rfl⟩
        · show V.msl _ _ _ _ = V.msl _ _ _ _
          simp
        · have e1 : (0 + ((ddK l (k + j)).length : Int).toNat) = (ddK l (k + j)).length := by omega
          rw [e1, List.append_assoc, List.take_append_of_le_length (by simp), List.take_take, Nat.min_self, ← List.map_take, List.take_append_of_le_length (Nat.le_refl _), List.take_length]
    · have hne : x ≠ y := by simpa using h
      clear h
      repeat (first | refine i_len rfl ?_ | refine i_s rfl ?_ | refine i_lenm rfl rfl rfl ?_ | refine sw ?_ | refine i_s0 rfl ?_ | refine i_gt rfl ?_ | refine i_gf rfl ?_ | refine i_gd rfl ?_ | refine c_t rfl ?_ | refine c_f rfl ?_ | refine jc rfl ?_ | refine ja rfl rfl ?_ | refine jb rfl rfl ?_ | refine jg rfl rfl ?_ | refine jf rfl rfl ?_ | refine jd rfl rfl ?_ | refine je rfl rfl ?_ | refine jh rfl rfl ?_ | refine i_stb rfl ?_ | refine i_alloc rfl ?_ | refine i_box rfl rfl ?_ | refine i_nv rfl ?_)
      refine e_lp (k + 1) ⟨by omega, by omega, fun j h1 h3 => ?_⟩ (by omega) ft
      by_cases e : j = k
      · subst e; rw [hx, hy]; simpa using hne
      · exact k3 j h1 (by omega)
  · have hke : k = l.length := by have : ¬ (k : Int) < l.length := by simpa using h
                                  omega
    subst hke
    repeat (first | refine i_len rfl ?_ | refine i_s rfl ?_ | refine i_lenm rfl rfl rfl ?_ | refine sw ?_ | refine i_s0 rfl ?_ | refine i_gt rfl ?_ | refine i_gf rfl ?_ | refine i_gd rfl ?_ | refine c_t rfl ?_ | refine c_f rfl ?_ | refine jc rfl ?_ | refine ja rfl rfl ?_ | refine jb rfl rfl ?_ | refine jg rfl rfl ?_ | refine jf rfl rfl ?_ | refine jd rfl rfl ?_ | refine je rfl rfl ?_ | refine jh rfl rfl ?_ | refine i_stb rfl ?_ | refine i_alloc rfl ?_ | refine i_box rfl rfl ?_ | refine i_nv rfl ?_)
    refine e_ret ⟨rfl, _, rfl, rfl, rfl, ?_, rfl⟩
    rw [restr_stOf]
    exact fin (by unfold compL; rw [ddK_all _ (Nat.le_refl _) k3, List.take_length])
theorem msl_all {l : List Int} {n : Nat} (h : l.length = n) : V.sl .p (((l.map i64V).drop 0).take n) = V.sl .p (l.map i64V) := by
  rw [List.drop_zero, List.take_of_length_le (by simp; omega)]
theorem er_msl {σ : Store} {nm gen i len n : Nat} {rows : List V} (hs : σ nm = .arr gen rows) : er σ (n + 1) (.msl nm gen i len) = .sl .p ((rows.drop i).take len) := by
  simp [er, hs]
theorem take_filter_succ {l : List Int} {p : Int → Bool} {k : Nat} {x : Int} (h : l[k]? = some x) : (l.take (k + 1)).filter p = (l.take k).filter p ++ (if p x = true then [x] else []) := by
  rw [take_succ_get h, List.filter_append]
  congr 1
  cases hx : p x <;> simp [List.filter, hx]
def c_strips_Update : Cmd :=
 (qS [qq 6 (.mov (.c (.sl .nil [])))]
 (qS [qq 7 (.newArr 2944449)]
 (qT (qS [qm 12 0, qn 13 12, qc 14 0]
 (.block 0 (.loop (qS [qu 15 .lss [] 14 13]
 (qT (.cond (.t 15) .skip (.exit 0))
 (qT (.block 1 (qS [qi 16 1 12 14, ql 17 1 16, qm 9 17]
 (qS [qm 19 2, qm 20 9, qk 21 56 [19, 20], qm 18 21, qq 22 (.extract (.t 18) 0), qq 23 (.extract (.t 18) 1), qm 10 22, qm 11 23]
 (qS [qm 24 11, qq 25 (.not (.t 24))]
 (.cond (.t 25) (.ops [qm 26 7, qm 27 9, qq 28 (.bsl 1 [.t 27]), qq 29 (.append 1 8 3 (.t 26) (.t 28)), qm 7 29]) .skip)))))
 (.ops [qv 30 .add [] 14 1, qm 14 30])))))))
 (qS [qm 31 7, qm 32 1, qq 33 (.append 1 8 3 (.t 31) (.t 32)), qm 7 33]
 (qS [qm 34 7, qq 35 (.call (.s [2944449]) (.c (.fn 57 [])) [.t 34])]
 (.seq (.ops [qm 36 7, qq 37 (.call (.s [2944449]) (.c (.fn 58 [])) [.t 36]), qm 6 37]) .ret))))))
def r_strips_Update : List RVar := [.tmp 6]
def n_strips_Update : Nat := 38
theorem k_strips_Update : chkFn Go.Proofs.Try.prog 46 n_strips_Update r_strips_Update c_strips_Update = true := by kernel_rfl
theorem f_strips_Update (s add del : List Int) (hs : s.length ≤ 17592186044) (ha : add.length ≤ 17592186044) (hd : del.length ≤ 17592186044) (hdel : SS del) :
    Fc Go.Proofs.Try.prog 46 [.sl .p (s.map i64V), .sl .p (add.map i64V), .sl .p (del.map i64V)] (.sl .p ((updL s add del).map i64V)) := by
  have hu : updL s add del = compL (srtL (s.filter (fun x => decide (x ∉ del)) ++ add)) := rfl
  rw [hu]
  generalize hp : (fun x => decide (x ∉ del)) = p
  refine Fn.step mixed k_strips_Update ?_
  repeat (first | refine i_len rfl ?_ | refine i_s rfl ?_ | refine i_lenm rfl rfl rfl ?_ | refine sw ?_ | refine i_s0 rfl ?_ | refine i_gt rfl ?_ | refine i_gf rfl ?_ | refine i_gd rfl ?_ | refine c_t rfl ?_ | refine c_f rfl ?_ | refine jc rfl ?_ | refine ja rfl rfl ?_ | refine jb rfl rfl ?_ | refine jg rfl rfl ?_ | refine jf rfl rfl ?_ | refine jd rfl rfl ?_ | refine je rfl rfl ?_ | refine jh rfl rfl ?_ | refine i_stb rfl ?_ | refine i_alloc rfl ?_ | refine i_box rfl rfl ?_ | refine i_nv rfl ?_)
  refine i_na rfl ?_
  repeat (first | refine i_len rfl ?_ | refine i_s rfl ?_ | refine i_lenm rfl rfl rfl ?_ | refine sw ?_ | refine i_s0 rfl ?_ | refine i_gt rfl ?_ | refine i_gf rfl ?_ | refine i_gd rfl ?_ | refine c_t rfl ?_ | refine c_f rfl ?_ | refine jc rfl ?_ | refine ja rfl rfl ?_ | refine jb rfl rfl ?_ | refine jg rfl rfl ?_ | refine jf rfl rfl ?_ | refine jd rfl rfl ?_ | refine je rfl rfl ?_ | refine jh rfl rfl ?_ | refine i_stb rfl ?_ | refine i_alloc rfl ?_ | refine i_box rfl rfl ?_ | refine i_nv rfl ?_)
  refine c_for s.length (fun k => [(1, .sl .p (add.map i64V)), (2, .sl .p (del.map i64V)), (7, .msl 2944449 ((s.take k).filter p).length 0 ((s.take k).filter p).length), (12, .sl .p (s.map i64V)), (13, .int .i64 s.length), (14, .int .i64 k)])
    (fun k => [(2944449, .arr ((s.take k).filter p).length (((s.take k).filter p).map i64V))]) (fun _ => True) trivial ft fun k hk _ => ?_
  have hfl : ((s.take k).filter p).length ≤ k := Nat.le_trans (List.length_filter_le _ _) (by simp; omega)
  repeat (first | refine i_len rfl ?_ | refine i_s rfl ?_ | refine i_lenm rfl rfl rfl ?_ | refine sw ?_ | refine i_s0 rfl ?_ | refine i_gt rfl ?_ | refine i_gf rfl ?_ | refine i_gd rfl ?_ | refine c_t rfl ?_ | refine c_f rfl ?_ | refine jc rfl ?_ | refine ja rfl rfl ?_ | refine jb rfl rfl ?_ | refine jg rfl rfl ?_ | refine jf rfl rfl ?_ | refine jd rfl rfl ?_ | refine je rfl rfl ?_ | refine jh rfl rfl ?_ | refine i_stb rfl ?_ | refine i_alloc rfl ?_ | refine i_box rfl rfl ?_ | refine i_nv rfl ?_)
  refine c_cond rfl (fun h => ?_) (fun h => ?_)
  · have hlt : k < s.length := by simpa using h
    obtain ⟨x, hx⟩ := get_some hlt
    have hB := f_BinarySearch del x (by omega) hdel
    have ef := take_filter_succ (p := p) hx
    have hpx : p x = !decide (x ∈ del) := by rw [← hp]; simp
    clear h
    repeat (first | refine i_len rfl ?_ | refine i_s rfl ?_ | refine i_lenm rfl rfl rfl ?_ | refine sw ?_ | refine i_s0 rfl ?_ | refine i_gt rfl ?_ | refine i_gf rfl ?_ | refine i_gd rfl ?_ | refine c_t rfl ?_ | refine c_f rfl ?_ | refine jc rfl ?_ | refine ja rfl rfl ?_ | refine jb rfl rfl ?_ | refine jg rfl rfl ?_ | refine jf rfl rfl ?_ | refine jd rfl rfl ?_ | refine je rfl rfl ?_ | refine jh rfl rfl ?_ | refine i_stb rfl ?_ | refine i_alloc rfl ?_ | refine i_box rfl rfl ?_ | refine i_nv rfl ?_ | refine sf rfl rfl hB ?_)
    refine c_cond rfl (fun h => ?_) (fun h => ?_)
    · rw [hpx, if_pos h] at ef
      repeat (first | refine i_len rfl ?_ | refine i_s rfl ?_ | refine i_lenm rfl rfl rfl ?_ | refine sw ?_ | refine i_s0 rfl ?_ | refine i_gt rfl ?_ | refine i_gf rfl ?_ | refine i_gd rfl ?_ | refine c_t rfl ?_ | refine c_f rfl ?_ | refine jc rfl ?_ | refine ja rfl rfl ?_ | refine jb rfl rfl ?_ | refine jg rfl rfl ?_ | refine jf rfl rfl ?_ | refine jd rfl rfl ?_ | refine je rfl rfl ?_ | refine jh rfl rfl ?_ | refine i_stb rfl ?_ | refine i_alloc rfl ?_ | refine i_box rfl rfl ?_ | refine i_nv rfl ?_)
      refine i_appmM [x] rfl rfl rfl rfl rfl (fun c hc => ⟨rfl, rfl⟩) (by simp; omega) (by simp; omega) ?_
      repeat (first | refine i_len rfl ?_ | refine i_s rfl ?_ | refine i_lenm rfl rfl rfl ?_ | refine sw ?_ | refine i_s0 rfl ?_ | refine i_gt rfl ?_ | refine i_gf rfl ?_ | refine i_gd rfl ?_ | refine c_t rfl ?_ | refine c_f rfl ?_ | refine jc rfl ?_ | refine ja rfl rfl ?_ | refine jb rfl rfl ?_ | refine jg rfl rfl ?_ | refine jf rfl rfl ?_ | refine jd rfl rfl ?_ | refine je rfl rfl ?_ | refine jh rfl rfl ?_ | refine i_stb rfl ?_ | refine i_alloc rfl ?_ | refine i_box rfl rfl ?_ | refine i_nv rfl ?_)
      refine e_for hlt trivial ⟨⟨rfl, rfl, ?_, rfl, rfl, rfl, trivial⟩, ⟨?_, trivial⟩, rfl⟩
      · rw [ef, List.length_append]; rfl
      · rw [ef, List.length_append]; rfl
    · rw [hpx, if_neg (by simpa using h), List.append_nil] at ef
      repeat (first | refine i_len rfl ?_ | refine i_s rfl ?_ | refine i_lenm rfl rfl rfl ?_ | refine sw ?_ | refine i_s0 rfl ?_ | refine i_gt rfl ?_ | refine i_gf rfl ?_ | refine i_gd rfl ?_ | refine c_t rfl ?_ | refine c_f rfl ?_ | refine jc rfl ?_ | refine ja rfl rfl ?_ | refine jb rfl rfl ?_ | refine jg rfl rfl ?_ | refine jf rfl rfl ?_ | refine jd rfl rfl ?_ | refine je rfl rfl ?_ | refine jh rfl rfl ?_ | refine i_stb rfl ?_ | refine i_alloc rfl ?_ | refine i_box rfl rfl ?_ | refine i_nv rfl ?_)
      refine e_for hlt trivial ⟨⟨rfl, rfl, ?_, rfl, rfl, rfl, trivial⟩, ⟨?_, trivial⟩, rfl⟩
      · rw [ef]; rfl
      · rw [ef]; rfl
  · have hge : k = s.length := by have : ¬ k < s.length := by simpa using h
                                  omega
    subst hge
    rw [List.take_length] at hfl ⊢
    clear h hk
    generalize s.filter p = F at *
    repeat (first | refine i_len rfl ?_ | refine i_s rfl ?_ | refine i_lenm rfl rfl rfl ?_ | refine sw ?_ | refine i_s0 rfl ?_ | refine i_gt rfl ?_ | refine i_gf rfl ?_ | refine i_gd rfl ?_ | refine c_t rfl ?_ | refine c_f rfl ?_ | refine jc rfl ?_ | refine ja rfl rfl ?_ | refine jb rfl rfl ?_ | refine jg rfl rfl ?_ | refine jf rfl rfl ?_ | refine jd rfl rfl ?_ | refine je rfl rfl ?_ | refine jh rfl rfl ?_ | refine i_stb rfl ?_ | refine i_alloc rfl ?_ | refine i_box rfl rfl ?_ | refine i_nv rfl ?_)
    refine i_appmM add rfl rfl rfl rfl rfl (fun c hc => ⟨rfl, rfl⟩) (by omega) (by omega) ?_
    refine i_s rfl ?_
    refine i_nil ?_
    refine e_seq ?_
    refine c_cut [(7, .msl 2944449 (F.length + 1) 0 (F ++ add).length)] [(2944449, .arr (F.length + 1) ((F ++ add).map i64V))] ft ?_
    have hla : (F ++ add).length ≤ 35184372088 := by simp; omega
    generalize F ++ add = L at *
    repeat (first | refine i_len rfl ?_ | refine i_s rfl ?_ | refine i_lenm rfl rfl rfl ?_ | refine sw ?_ | refine i_s0 rfl ?_ | refine i_gt rfl ?_ | refine i_gf rfl ?_ | refine i_gd rfl ?_ | refine c_t rfl ?_ | refine c_f rfl ?_ | refine jc rfl ?_ | refine ja rfl rfl ?_ | refine jb rfl rfl ?_ | refine jg rfl rfl ?_ | refine jf rfl rfl ?_ | refine jd rfl rfl ?_ | refine je rfl rfl ?_ | refine jh rfl rfl ?_ | refine i_stb rfl ?_ | refine i_alloc rfl ?_ | refine i_box rfl rfl ?_ | refine i_nv rfl ?_)
    refine i_c rfl rfl rfl (c_Sort 2944449 (F.length + 1) L rfl rfl (fun nm h => restr_mem nm h) (by omega)) ?_
    rintro _ _ _ ⟨rfl, rfl, rfl⟩
    refine i_nil ?_
    refine e_seq ?_
    refine c_cut [(7, .msl 2944449 (F.length + 1) 0 (srtL L).length)] [(2944449, .arr (F.length + 1) ((srtL L).map i64V))] ⟨⟨?_, trivial⟩, ⟨rfl, trivial⟩, rfl⟩ ?_
    · rw [srtL_len]; rfl
    repeat (first | refine i_len rfl ?_ | refine i_s rfl ?_ | refine i_lenm rfl rfl rfl ?_ | refine sw ?_ | refine i_s0 rfl ?_ | refine i_gt rfl ?_ | refine i_gf rfl ?_ | refine i_gd rfl ?_ | refine c_t rfl ?_ | refine c_f rfl ?_ | refine jc rfl ?_ | refine ja rfl rfl ?_ | refine jb rfl rfl ?_ | refine jg rfl rfl ?_ | refine jf rfl rfl ?_ | refine jd rfl rfl ?_ | refine je rfl rfl ?_ | refine jh rfl rfl ?_ | refine i_stb rfl ?_ | refine i_alloc rfl ?_ | refine i_box rfl rfl ?_ | refine i_nv rfl ?_)
    refine i_c rfl rfl rfl (c_Compact (F.length + 1) (srtL L) (by rw [srtL_len]; omega) _ _ rfl (fun nm h => restr_mem nm h)) ?_
    rintro _ _ _ ⟨⟨rows, rfl, rfl, hr⟩, rfl⟩
    repeat (first | refine i_len rfl ?_ | refine i_s rfl ?_ | refine i_lenm rfl rfl rfl ?_ | refine sw ?_ | refine i_s0 rfl ?_ | refine i_gt rfl ?_ | refine i_gf rfl ?_ | refine i_gd rfl ?_ | refine c_t rfl ?_ | refine c_f rfl ?_ | refine jc rfl ?_ | refine ja rfl rfl ?_ | refine jb rfl rfl ?_ | refine jg rfl rfl ?_ | refine jf rfl rfl ?_ | refine jd rfl rfl ?_ | refine je rfl rfl ?_ | refine jh rfl rfl ?_ | refine i_stb rfl ?_ | refine i_alloc rfl ?_ | refine i_box rfl rfl ?_ | refine i_nv rfl ?_)
    exact e_ret ⟨rfl, _, rfl, ((er_msl (rows := rows) (i := 0) (len := (compL (srtL L)).length) (n := 5) rfl).trans (by rw [List.drop_zero, hr])).symm⟩
def c_strips_Can : Cmd :=
 (qS [qx 3 1600196 4 0, qb 6 false]
 (.seq (.ops [qm 7 1, qf 8 3 3, ql 9 1 8, qm 10 2, qi 11 4 9 10, qf 12 0 11, ql 13 1 12, qk 14 27 [7, 13], qm 6 14]) .ret))
def r_strips_Can : List RVar := [.tmp 6]
def n_strips_Can : Nat := 15
theorem k_strips_Can : chkFn Go.Proofs.Try.prog 25 n_strips_Can r_strips_Can c_strips_Can = true := by kernel_rfl
theorem f_strips_Can (t : STask) (s : List Int) (hs : s.length ≤ 140737488355328) (hss : SS s) (op : Int) (h0 : 0 ≤ op) (o : SOp) (hc : t.ops[op.toNat]? = some o) (hl : o.pre.length ≤ 140737488355328) (hp : SS o.pre) : Fc Go.Proofs.Try.prog 25 [skV t, .sl .p (s.map i64V), .int .i64 op] (.bool (inclB o.pre s)) := by
  have h1 := f_strips_Contains s o.pre hs hl hss hp
  refine Fn.step mixed k_strips_Can ?_
  repeat' (first | refine i_len rfl ?_ | refine i_s rfl ?_ | refine i_lenm rfl rfl rfl ?_ | refine sw ?_ | refine i_s0 rfl ?_ | refine i_gt rfl ?_ | refine i_gf rfl ?_ | refine i_gd rfl ?_ | refine c_t rfl ?_ | refine c_f rfl ?_ | refine jc rfl ?_ | refine ja rfl rfl ?_ | refine jb rfl rfl ?_ | refine jg rfl rfl ?_ | refine jf rfl rfl ?_ | refine jd rfl rfl ?_ | refine je rfl rfl ?_ | refine jh rfl rfl ?_ | refine i_stb rfl ?_ | refine i_alloc rfl ?_ | refine i_box rfl rfl ?_ | refine i_nv rfl ?_ | (refine sp ?_ ?_ <;> try intro h) | refine sf rfl rfl h1 ?_ | fail)
  exact e_ret ⟨rfl, _, rfl, rfl⟩
def c_strips_Next : Cmd :=
 (qS [qx 3 1664196 4 0, qq 6 (.mov (.c (.sl .nil [])))]
 (qS [qf 8 3 3, ql 9 1 8, qm 10 2, qi 11 4 9 10, qL 12 4 11, qq 7 (.alloc 1664452 (.agg [.sl .nil [], .sl .nil [], .sl .nil [], .int .i64 0])), qs 4 7 12]
 (.seq (.ops [qm 13 1, qf 14 1 7, ql 15 1 14, qf 16 2 7, ql 17 1 16, qk 18 46 [13, 15, 17], qm 6 18]) .ret)))
def r_strips_Next : List RVar := [.tmp 6]
def n_strips_Next : Nat := 19
theorem k_strips_Next : chkFn Go.Proofs.Try.prog 26 n_strips_Next r_strips_Next c_strips_Next = true := by kernel_rfl
theorem f_strips_Next (t : STask) (s : List Int) (hs : s.length ≤ 17592186044) (op : Int) (h0 : 0 ≤ op) (o : SOp) (hc : t.ops[op.toNat]? = some o) (ha : o.add.length ≤ 17592186044) (hd : o.del.length ≤ 17592186044) (hdel : SS o.del) : Fc Go.Proofs.Try.prog 26 [skV t, .sl .p (s.map i64V), .int .i64 op] (.sl .p ((updL s o.add o.del).map i64V)) := by
  have h1 := f_strips_Update s o.add o.del hs ha hd hdel
  refine Fn.step mixed k_strips_Next ?_
  repeat' (first | refine i_len rfl ?_ | refine i_s rfl ?_ | refine i_lenm rfl rfl rfl ?_ | refine sw ?_ | refine i_s0 rfl ?_ | refine i_gt rfl ?_ | refine i_gf rfl ?_ | refine i_gd rfl ?_ | refine c_t rfl ?_ | refine c_f rfl ?_ | refine jc rfl ?_ | refine ja rfl rfl ?_ | refine jb rfl rfl ?_ | refine jg rfl rfl ?_ | refine jf rfl rfl ?_ | refine jd rfl rfl ?_ | refine je rfl rfl ?_ | refine jh rfl rfl ?_ | refine i_stb rfl ?_ | refine i_alloc rfl ?_ | refine i_box rfl rfl ?_ | refine i_nv rfl ?_ | (refine sp ?_ ?_ <;> try intro h) | refine sf rfl rfl h1 ?_ | fail)
  exact e_ret ⟨rfl, _, rfl, rfl⟩
def ssV (s : List Int) : V := .sl .p (s.map i64V)
theorem set_le {t : STask} (hv : SV t) {l : List Int} (h : IsSet t.facts l) : l.length ≤ 24 := by
  have := isSet_len h hv.f0
  have := hv.f1
  omega
def c_slices_Clone_int : Cmd :=
 (qS [qq 2 (.mov (.c (.sl .nil [])))]
 (qT (qS [qm 3 0, qq 4 (.isnil false (.t 3))]
 (.cond (.t 4) (.seq (.ops [qq 2 (.newArr 640321)]) .ret) .skip))
 (.seq (.ops [qq 5 (.bslA 640321 1 []), qm 6 0, qq 7 (.append 1 8 3 (.t 5) (.t 6)), qm 2 7]) .ret)))
def r_slices_Clone_int : List RVar := [.tmp 2]
def n_slices_Clone_int : Nat := 8
theorem k_slices_Clone_int : chkFn Go.Proofs.Try.prog 10 n_slices_Clone_int r_slices_Clone_int c_slices_Clone_int = true := by kernel_rfl
theorem f_slices_Clone_int (s : List Int) (hl : s.length ≤ 17592186044416) : Fc Go.Proofs.Try.prog 10 [.sl .p (s.map i64V)] (.sl .p (s.map i64V)) := by
  refine Fn.step mixed k_slices_Clone_int ?_
  repeat (first | refine i_len rfl ?_ | refine i_s rfl ?_ | refine i_lenm rfl rfl rfl ?_ | refine sw ?_ | refine i_s0 rfl ?_ | refine i_gt rfl ?_ | refine i_gf rfl ?_ | refine i_gd rfl ?_ | refine c_t rfl ?_ | refine c_f rfl ?_ | refine jc rfl ?_ | refine ja rfl rfl ?_ | refine jb rfl rfl ?_ | refine jg rfl rfl ?_ | refine jf rfl rfl ?_ | refine jd rfl rfl ?_ | refine je rfl rfl ?_ | refine jh rfl rfl ?_ | refine i_stb rfl ?_ | refine i_alloc rfl ?_ | refine i_box rfl rfl ?_ | refine i_nv rfl ?_)
  refine i_isnil rfl fun b hb => ?_
  repeat (first | refine i_len rfl ?_ | refine i_s rfl ?_ | refine i_lenm rfl rfl rfl ?_ | refine sw ?_ | refine i_s0 rfl ?_ | refine i_gt rfl ?_ | refine i_gf rfl ?_ | refine i_gd rfl ?_ | refine c_t rfl ?_ | refine c_f rfl ?_ | refine jc rfl ?_ | refine ja rfl rfl ?_ | refine jb rfl rfl ?_ | refine jg rfl rfl ?_ | refine jf rfl rfl ?_ | refine jd rfl rfl ?_ | refine je rfl rfl ?_ | refine jh rfl rfl ?_ | refine i_stb rfl ?_ | refine i_alloc rfl ?_ | refine i_box rfl rfl ?_ | refine i_nv rfl ?_)
  refine c_cond rfl (fun h => ?_) (fun h => ?_)
  · have e : s = [] := by simpa using hb (by simpa using h)
    subst e
    repeat (first | refine i_len rfl ?_ | refine i_s rfl ?_ | refine i_lenm rfl rfl rfl ?_ | refine sw ?_ | refine i_s0 rfl ?_ | refine i_gt rfl ?_ | refine i_gf rfl ?_ | refine i_gd rfl ?_ | refine c_t rfl ?_ | refine c_f rfl ?_ | refine jc rfl ?_ | refine ja rfl rfl ?_ | refine jb rfl rfl ?_ | refine jg rfl rfl ?_ | refine jf rfl rfl ?_ | refine jd rfl rfl ?_ | refine je rfl rfl ?_ | refine jh rfl rfl ?_ | refine i_stb rfl ?_ | refine i_alloc rfl ?_ | refine i_box rfl rfl ?_ | refine i_nv rfl ?_)
    refine i_na rfl ?_
    repeat (first | refine i_len rfl ?_ | refine i_s rfl ?_ | refine i_lenm rfl rfl rfl ?_ | refine sw ?_ | refine i_s0 rfl ?_ | refine i_gt rfl ?_ | refine i_gf rfl ?_ | refine i_gd rfl ?_ | refine c_t rfl ?_ | refine c_f rfl ?_ | refine jc rfl ?_ | refine ja rfl rfl ?_ | refine jb rfl rfl ?_ | refine jg rfl rfl ?_ | refine jf rfl rfl ?_ | refine jd rfl rfl ?_ | refine je rfl rfl ?_ | refine jh rfl rfl ?_ | refine i_stb rfl ?_ | refine i_alloc rfl ?_ | refine i_box rfl rfl ?_ | refine i_nv rfl ?_)
    exact e_ret ⟨rfl, _, rfl, rfl⟩
  · repeat (first | refine i_len rfl ?_ | refine i_s rfl ?_ | refine i_lenm rfl rfl rfl ?_ | refine sw ?_ | refine i_s0 rfl ?_ | refine i_gt rfl ?_ | refine i_gf rfl ?_ | refine i_gd rfl ?_ | refine c_t rfl ?_ | refine c_f rfl ?_ | refine jc rfl ?_ | refine ja rfl rfl ?_ | refine jb rfl rfl ?_ | refine jg rfl rfl ?_ | refine jf rfl rfl ?_ | refine jd rfl rfl ?_ | refine je rfl rfl ?_ | refine jh rfl rfl ?_ | refine i_stb rfl ?_ | refine i_alloc rfl ?_ | refine i_box rfl rfl ?_ | refine i_nv rfl ?_)
    refine i_bsla rfl rfl rfl rfl ?_
    repeat (first | refine i_len rfl ?_ | refine i_s rfl ?_ | refine i_lenm rfl rfl rfl ?_ | refine sw ?_ | refine i_s0 rfl ?_ | refine i_gt rfl ?_ | refine i_gf rfl ?_ | refine i_gd rfl ?_ | refine c_t rfl ?_ | refine c_f rfl ?_ | refine jc rfl ?_ | refine ja rfl rfl ?_ | refine jb rfl rfl ?_ | refine jg rfl rfl ?_ | refine jf rfl rfl ?_ | refine jd rfl rfl ?_ | refine je rfl rfl ?_ | refine jh rfl rfl ?_ | refine i_stb rfl ?_ | refine i_alloc rfl ?_ | refine i_box rfl rfl ?_ | refine i_nv rfl ?_)
    refine i_appmM (l := []) (f := i64V) s rfl rfl rfl rfl rfl (fun c hc => ⟨rfl, rfl⟩) (by simp; omega) (by simp; omega) ?_
    repeat (first | refine i_len rfl ?_ | refine i_s rfl ?_ | refine i_lenm rfl rfl rfl ?_ | refine sw ?_ | refine i_s0 rfl ?_ | refine i_gt rfl ?_ | refine i_gf rfl ?_ | refine i_gd rfl ?_ | refine c_t rfl ?_ | refine c_f rfl ?_ | refine jc rfl ?_ | refine ja rfl rfl ?_ | refine jb rfl rfl ?_ | refine jg rfl rfl ?_ | refine jf rfl rfl ?_ | refine jd rfl rfl ?_ | refine je rfl rfl ?_ | refine jh rfl rfl ?_ | refine i_stb rfl ?_ | refine i_alloc rfl ?_ | refine i_box rfl rfl ?_ | refine i_nv rfl ?_)
    exact e_ret ⟨rfl, _, rfl, ((er_msl (i := 0) (len := ([] ++ s).length) (n := 5) rfl).trans (msl_all rfl)).symm⟩
def c_strips_Run : Cmd :=
 (qS [qx 3 1536196 4 0, qq 6 (.mov (.c (.sl .nil [])))]
 (qS [qm 10 1, qk 11 10 [10], qq 12 (.bslO 1536769 1 [.t 11]), qm 7 12]
 (qT (qS [qm 13 2, qn 14 13, qc 15 0]
 (.block 0 (.loop (qS [qu 16 .lss [] 15 14]
 (qT (.cond (.t 16) .skip (.exit 0))
 (qT (.block 1 (qS [qi 17 1 13 15, ql 18 1 17, qm 9 18]
 (qT (qS [qL 19 4 3, qm 20 1, qm 21 9, qk 22 25 [19, 20, 21], qq 23 (.not (.t 22))]
 (.cond (.t 23) (.exit 0) .skip))
 (qS [qL 24 4 3, qm 25 1, qm 26 9, qk 27 26 [24, 25, 26], qm 1 27]
 (.ops [qm 28 7, qm 29 1, qq 30 (.bsl 1 [.t 29]), qq 31 (.append 1 24 22 (.t 28) (.t 30)), qm 7 31])))))
 (.ops [qv 32 .add [] 15 1, qm 15 32])))))))
 (.seq (.ops [qm 33 7, qm 6 33]) .ret))))
def r_strips_Run : List RVar := [.tmp 6]
def n_strips_Run : Nat := 34
theorem k_strips_Run : chkFn Go.Proofs.Try.prog 24 n_strips_Run r_strips_Run c_strips_Run = true := by kernel_rfl
theorem f_strips_Run (t : STask) (hv : SV t) (s : List Int) (hs : IsSet t.facts s) (plan : List Int) (hl : plan.length ≤ 1000000) (hp : ∀ x ∈ plan, 0 ≤ x ∧ x < t.ops.length) : Fc Go.Proofs.Try.prog 24 [skV t, .sl .p (s.map i64V), .sl .p (plan.map i64V)] (.sl .p ((s :: runT t s plan).map ssV)) := by
  have hsl := set_le hv hs
  have hC := f_slices_Clone_int s (by omega)
  refine Fn.step mixed k_strips_Run ?_
  repeat (first | refine i_len rfl ?_ | refine i_s rfl ?_ | refine i_lenm rfl rfl rfl ?_ | refine sw ?_ | refine i_s0 rfl ?_ | refine i_gt rfl ?_ | refine i_gf rfl ?_ | refine i_gd rfl ?_ | refine c_t rfl ?_ | refine c_f rfl ?_ | refine jc rfl ?_ | refine ja rfl rfl ?_ | refine jb rfl rfl ?_ | refine jg rfl rfl ?_ | refine jf rfl rfl ?_ | refine jd rfl rfl ?_ | refine je rfl rfl ?_ | refine jh rfl rfl ?_ | refine i_stb rfl ?_ | refine i_alloc rfl ?_ | refine i_box rfl rfl ?_ | refine i_nv rfl ?_ | refine sf rfl rfl hC ?_)
  refine i_bslo rfl rfl rfl rfl ?_
  repeat (first | refine i_len rfl ?_ | refine i_s rfl ?_ | refine i_lenm rfl rfl rfl ?_ | refine sw ?_ | refine i_s0 rfl ?_ | refine i_gt rfl ?_ | refine i_gf rfl ?_ | refine i_gd rfl ?_ | refine c_t rfl ?_ | refine c_f rfl ?_ | refine jc rfl ?_ | refine ja rfl rfl ?_ | refine jb rfl rfl ?_ | refine jg rfl rfl ?_ | refine jf rfl rfl ?_ | refine jd rfl rfl ?_ | refine je rfl rfl ?_ | refine jh rfl rfl ?_ | refine i_stb rfl ?_ | refine i_alloc rfl ?_ | refine i_box rfl rfl ?_ | refine i_nv rfl ?_)
  refine c_lp (ι := Nat × List Int × List (List Int)) (fun i => [(1, .sl .p (i.2.1.map i64V)), (3, .bptr 1536196 0), (7, .sl (.own 1536769) (i.2.2.map ssV)), (13, .sl .p (plan.map i64V)), (14, .int .i64 plan.length), (15, .int .i64 i.1)])
    (fun i => [(1536196, .box (skV t)), (1536769, .vec i.2.2.length)])
    (fun i => i.1 ≤ plan.length ∧ i.2.2.length = i.1 + 1 ∧ IsSet t.facts i.2.1 ∧ i.2.2 ++ runT t i.2.1 (plan.drop i.1) = s :: runT t s plan) (fun i => plan.length - i.1) (0, s, [s]) ⟨Nat.zero_le _, rfl, hs, rfl⟩ ft fun i hi => ?_
  obtain ⟨k, u, acc⟩ := i
  obtain ⟨h1, h2, h3, h4⟩ := hi
  simp only at h1 h2 h3 h4
  have hul := set_le hv h3
  clear hC hs hsl
  repeat (first | refine i_len rfl ?_ | refine i_s rfl ?_ | refine i_lenm rfl rfl rfl ?_ | refine sw ?_ | refine i_s0 rfl ?_ | refine i_gt rfl ?_ | refine i_gf rfl ?_ | refine i_gd rfl ?_ | refine c_t rfl ?_ | refine c_f rfl ?_ | refine jc rfl ?_ | refine ja rfl rfl ?_ | refine jb rfl rfl ?_ | refine jg rfl rfl ?_ | refine jf rfl rfl ?_ | refine jd rfl rfl ?_ | refine je rfl rfl ?_ | refine jh rfl rfl ?_ | refine i_stb rfl ?_ | refine i_alloc rfl ?_ | refine i_box rfl rfl ?_ | refine i_nv rfl ?_)
  refine c_cond rfl (fun h => ?_) (fun h => ?_)
  · have hlt : k < plan.length := by simpa using h
    obtain ⟨x, hx⟩ := get_some hlt
    obtain ⟨x0, x1⟩ := hp x (mem_get hx)
    obtain ⟨o, hc⟩ := get_some (l := t.ops) (k := x.toNat) (by omega)
    have hoo := hv.op o (mem_get hc)
    have hC := f_strips_Can t u (by omega) h3.ss x x0 o hc (by have := set_le hv hoo.pre; omega) hoo.pre.ss
    have hN := f_strips_Next t u (by omega) x x0 o hc (by have := set_le hv hoo.add; omega) (by have := set_le hv hoo.del; omega) hoo.del.ss
    have ed : plan.drop k = x :: plan.drop (k + 1) := by
      obtain ⟨h5, h6⟩ := List.getElem?_eq_some_iff.1 hx
      rw [← h6]; exact List.drop_eq_getElem_cons hlt
    have hst := stepS_op (s := u) hc
    rw [ed] at h4
    simp only [runT, hst] at h4
    clear h
    cases hi : inclB o.pre u with
    | true =>
      rw [hi] at hC
      rw [hi, if_pos rfl] at h4
      repeat (first | refine i_len rfl ?_ | refine i_s rfl ?_ | refine i_lenm rfl rfl rfl ?_ | refine sw ?_ | refine i_s0 rfl ?_ | refine i_gt rfl ?_ | refine i_gf rfl ?_ | refine i_gd rfl ?_ | refine c_t rfl ?_ | refine c_f rfl ?_ | refine jc rfl ?_ | refine ja rfl rfl ?_ | refine jb rfl rfl ?_ | refine jg rfl rfl ?_ | refine jf rfl rfl ?_ | refine jd rfl rfl ?_ | refine je rfl rfl ?_ | refine jh rfl rfl ?_ | refine i_stb rfl ?_ | refine i_alloc rfl ?_ | refine i_box rfl rfl ?_ | refine i_nv rfl ?_ | refine sf rfl rfl hC ?_ | refine sf rfl rfl hN ?_)
      refine i_appM (f := ssV) (c := updL u o.add o.del) rfl rfl rfl rfl rfl (by dsimp only; omega) (by dsimp only; omega) ?_
      repeat (first | refine i_len rfl ?_ | refine i_s rfl ?_ | refine i_lenm rfl rfl rfl ?_ | refine sw ?_ | refine i_s0 rfl ?_ | refine i_gt rfl ?_ | refine i_gf rfl ?_ | refine i_gd rfl ?_ | refine c_t rfl ?_ | refine c_f rfl ?_ | refine jc rfl ?_ | refine ja rfl rfl ?_ | refine jb rfl rfl ?_ | refine jg rfl rfl ?_ | refine jf rfl rfl ?_ | refine jd rfl rfl ?_ | refine je rfl rfl ?_ | refine jh rfl rfl ?_ | refine i_stb rfl ?_ | refine i_alloc rfl ?_ | refine i_box rfl rfl ?_ | refine i_nv rfl ?_)
      exact e_lp (k + 1, updL u o.add o.del, acc ++ [updL u o.add o.del]) ⟨hlt, by simp [h2], updL_set h3 hoo.add, by simpa using h4⟩ (by simp only; omega) ⟨⟨rfl, rfl, rfl, rfl, rfl, rfl, trivial⟩, ⟨rfl, by simp; rfl, trivial⟩, rfl⟩
    | false =>
      rw [hi] at hC
      rw [hi, if_neg (by simp), List.append_nil] at h4
      repeat (first | refine i_len rfl ?_ | refine i_s rfl ?_ | refine i_lenm rfl rfl rfl ?_ | refine sw ?_ | refine i_s0 rfl ?_ | refine i_gt rfl ?_ | refine i_gf rfl ?_ | refine i_gd rfl ?_ | refine c_t rfl ?_ | refine c_f rfl ?_ | refine jc rfl ?_ | refine ja rfl rfl ?_ | refine jb rfl rfl ?_ | refine jg rfl rfl ?_ | refine jf rfl rfl ?_ | refine jd rfl rfl ?_ | refine je rfl rfl ?_ | refine jh rfl rfl ?_ | refine i_stb rfl ?_ | refine i_alloc rfl ?_ | refine i_box rfl rfl ?_ | refine i_nv rfl ?_ | refine sf rfl rfl hC ?_ | refine sf rfl rfl hN ?_)
      exact e_ret ⟨rfl, _, rfl, by rw [h4]; rfl⟩
  · have hge : k = plan.length := by have : ¬ k < plan.length := by simpa using h
                                     omega
    subst hge
    rw [List.drop_length] at h4
    simp only [runT, List.append_nil] at h4
    repeat (first | refine i_len rfl ?_ | refine i_s rfl ?_ | refine i_lenm rfl rfl rfl ?_ | refine sw ?_ | refine i_s0 rfl ?_ | refine i_gt rfl ?_ | refine i_gf rfl ?_ | refine i_gd rfl ?_ | refine c_t rfl ?_ | refine c_f rfl ?_ | refine jc rfl ?_ | refine ja rfl rfl ?_ | refine jb rfl rfl ?_ | refine jg rfl rfl ?_ | refine jf rfl rfl ?_ | refine jd rfl rfl ?_ | refine je rfl rfl ?_ | refine jh rfl rfl ?_ | refine i_stb rfl ?_ | refine i_alloc rfl ?_ | refine i_box rfl rfl ?_ | refine i_nv rfl ?_)
    exact e_ret ⟨rfl, _, rfl, by rw [h4]; rfl⟩
def c_strips_Works : Cmd :=
 (qS [qx 3 768196 4 0, qb 6 false]
 (qS [qL 8 4 3, qm 9 1, qm 10 2, qk 11 24 [8, 9, 10], qm 7 11]
 (.seq (.ops [qm 12 7, qn 13 12, qm 14 2, qn 15 14, qv 16 .add [] 15 1, qu 17 .eql [.i] 13 16, qm 18 17, qg 19 18 true (.mov (.t 7)), qg 20 18 true (.mov (.t 2)), qg 21 18 true (.len false (.t 20)), qg 22 18 true (.iaddr 1 (.t 19) (.t 21)), qg 23 18 true (.load false 1 (.t 22)), qg 24 18 true (.faddr 2 (.t 3)), qg 25 18 true (.load false 1 (.t 24)), qg 26 18 true (.call .f (.c (.fn 27 [])) [.t 23, .t 25]), qq 27 (.pick (.t 18) (.t 26) (.c (.bool false))), qm 6 27]) .ret)))
def r_strips_Works : List RVar := [.tmp 6]
def n_strips_Works : Nat := 28
theorem k_strips_Works : chkFn Go.Proofs.Try.prog 12 n_strips_Works r_strips_Works c_strips_Works = true := by kernel_rfl
theorem f_strips_Works (t : STask) (hv : SV t) (s : List Int) (hs : IsSet t.facts s) (plan : List Int) (hl : plan.length ≤ 1000000) (hp : ∀ x ∈ plan, 0 ≤ x ∧ x < t.ops.length) : Fc Go.Proofs.Try.prog 12 [skV t, .sl .p (s.map i64V), .sl .p (plan.map i64V)] (.bool (worksB t s plan)) := by
  have hR := f_strips_Run t hv s hs plan hl hp
  have hle := run_len_le t plan s
  have heq := run_len_eq t plan s
  have hget := run_get t plan s
  have hgl := set_le hv hv.goal
  unfold worksB
  cases he : endS t s plan with
  | some e =>
    have hes := endS_set hv plan s e hs he
    have hel := set_le hv hes
    have hC := f_strips_Contains e t.goal (by omega) (by omega) hes.ss hv.goal.ss
    rw [he] at hget heq
    have hlen : (runT t s plan).length = plan.length := heq.2 rfl
    generalize runT t s plan = R at *
    have hl2 : (s :: R).length = plan.length + 1 := by simp [hlen]
    generalize s :: R = L at *
    refine Fn.step mixed k_strips_Works ?_
    repeat' (first | refine i_len rfl ?_ | refine i_s rfl ?_ | refine i_lenm rfl rfl rfl ?_ | refine sw ?_ | refine i_s0 rfl ?_ | refine i_gt rfl ?_ | refine i_gf rfl ?_ | refine i_gd rfl ?_ | refine c_t rfl ?_ | refine c_f rfl ?_ | refine jc rfl ?_ | refine ja rfl rfl ?_ | refine jb rfl rfl ?_ | refine jg rfl rfl ?_ | refine jf rfl rfl ?_ | refine jd rfl rfl ?_ | refine je rfl rfl ?_ | refine jh rfl rfl ?_ | refine i_stb rfl ?_ | refine i_alloc rfl ?_ | refine i_box rfl rfl ?_ | refine i_nv rfl ?_ | (refine sp ?_ ?_ <;> try intro h) | refine sf rfl rfl hR ?_ | refine sf rfl rfl hC ?_ | fail)
    all_goals first
      | exact e_ret ⟨rfl, _, rfl, rfl⟩
      | (exfalso; clear hR hC hs hv hes heq; simp at *; omega)
  | none =>
    rw [he] at heq
    have hlen : ¬ (runT t s plan).length = plan.length := fun h => by have := heq.1 h; cases this
    generalize runT t s plan = R at *
    have hl2 : ¬ (s :: R).length = plan.length + 1 := by simp; omega
    generalize s :: R = L at *
    refine Fn.step mixed k_strips_Works ?_
    repeat' (first | refine i_len rfl ?_ | refine i_s rfl ?_ | refine i_lenm rfl rfl rfl ?_ | refine sw ?_ | refine i_s0 rfl ?_ | refine i_gt rfl ?_ | refine i_gf rfl ?_ | refine i_gd rfl ?_ | refine c_t rfl ?_ | refine c_f rfl ?_ | refine jc rfl ?_ | refine ja rfl rfl ?_ | refine jb rfl rfl ?_ | refine jg rfl rfl ?_ | refine jf rfl rfl ?_ | refine jd rfl rfl ?_ | refine je rfl rfl ?_ | refine jh rfl rfl ?_ | refine i_stb rfl ?_ | refine i_alloc rfl ?_ | refine i_box rfl rfl ?_ | refine i_nv rfl ?_ | (refine sp ?_ ?_ <;> try intro h) | refine sf rfl rfl hR ?_ | fail)
    all_goals first
      | exact e_ret ⟨rfl, _, rfl, rfl⟩
      | (exfalso; clear hR hs hv heq; simp at *; omega)
def c_strips_Solves : Cmd :=
 (qS [qx 2 1216132 4 0, qb 4 false, qq 5 (.alloc 1216322 (.agg [.int .i64 0, .int .i64 0]))]
 (qT (qS [qL 7 4 2, qm 8 1, qk 9 23 [7, 8], qq 6 (.alloc 1216386 (.agg [.int .i64 0, .int .i64 0])), qs 2 6 9]
 (qS [qL 10 2 6, qq 11 (.build [.int .i64 0, .int .i64 0] []), qq 12 (.bin .neq true [.i, .i] (.t 10) (.t 11))]
 (.cond (.t 12) (.seq (.ops [qL 13 2 6, qb 4 false, qs 2 5 13]) .ret) .skip)))
 (.seq (.ops [qL 14 4 2, qf 15 1 2, ql 16 1 15, qm 17 1, qk 18 12 [14, 16, 17], qq 19 (.build [.int .i64 0, .int .i64 0] []), qm 4 18, qs 2 5 19]) .ret)))
def r_strips_Solves : List RVar := [.tmp 4, .cell true 2 5]
def n_strips_Solves : Nat := 20
theorem k_strips_Solves : chkFn Go.Proofs.Try.prog 19 n_strips_Solves r_strips_Solves c_strips_Solves = true := by kernel_rfl
theorem f_strips_Solves_ok (t : STask) (ho : SkOk t) (plan : List Int) (hb : plFault t plan = okF) : Fc Go.Proofs.Try.prog 19 [skV t, .sl .p (plan.map i64V)] (.tup [.bool (worksB t t.init plan), ftV okF]) := by
  obtain ⟨hv, h60, hr, _⟩ := plFault_ok hb
  have hF := f_strips_PlanFault t ho plan (by omega)
  rw [hb] at hF
  have hW := f_strips_Works t hv t.init hv.init plan (by omega) hr
  refine Fn.step mixed k_strips_Solves ?_
  repeat' (first | refine i_len rfl ?_ | refine i_s rfl ?_ | refine i_lenm rfl rfl rfl ?_ | refine sw ?_ | refine i_s0 rfl ?_ | refine i_gt rfl ?_ | refine i_gf rfl ?_ | refine i_gd rfl ?_ | refine c_t rfl ?_ | refine c_f rfl ?_ | refine jc rfl ?_ | refine ja rfl rfl ?_ | refine jb rfl rfl ?_ | refine jg rfl rfl ?_ | refine jf rfl rfl ?_ | refine jd rfl rfl ?_ | refine je rfl rfl ?_ | refine jh rfl rfl ?_ | refine i_stb rfl ?_ | refine i_alloc rfl ?_ | refine i_box rfl rfl ?_ | refine i_nv rfl ?_ | (refine sp ?_ ?_ <;> try intro h) | refine sf rfl rfl hF ?_ | refine sf rfl rfl hW ?_ | fail)
  exact e_ret ⟨rfl, _, rfl, rfl⟩
def c_strips_Cost : Cmd :=
 (qS [qx 2 512132 4 0, qc 4 0, qq 5 (.alloc 512322 (.agg [.int .i64 0, .int .i64 0]))]
 (qT (qS [qL 10 4 2, qm 11 1, qk 12 23 [10, 11], qq 6 (.alloc 512386 (.agg [.int .i64 0, .int .i64 0])), qs 2 6 12]
 (qS [qL 13 2 6, qq 14 (.build [.int .i64 0, .int .i64 0] []), qq 15 (.bin .neq true [.i, .i] (.t 13) (.t 14))]
 (.cond (.t 15) (.seq (.ops [qL 16 2 6, qc 4 0, qs 2 5 16]) .ret) .skip)))
 (qS [qc 7 0]
 (qT (qS [qm 17 1, qn 18 17, qc 19 0]
 (.block 0 (.loop (qS [qu 20 .lss [] 19 18]
 (qT (.cond (.t 20) .skip (.exit 0))
 (qT (.block 1 (qS [qi 21 1 17 19, ql 22 1 21, qm 9 22]
 (.ops [qm 23 7, qf 24 3 2, ql 25 1 24, qm 26 9, qi 27 4 25 26, qf 28 3 27, ql 29 1 28, qu 30 .add [] 23 29, qm 7 30])))
 (.ops [qv 31 .add [] 19 1, qm 19 31])))))))
 (.seq (.ops [qm 32 7, qq 33 (.build [.int .i64 0, .int .i64 0] []), qm 4 32, qs 2 5 33]) .ret)))))
def r_strips_Cost : List RVar := [.tmp 4, .cell true 2 5]
def n_strips_Cost : Nat := 34
theorem k_strips_Cost : chkFn Go.Proofs.Try.prog 8 n_strips_Cost r_strips_Cost c_strips_Cost = true := by kernel_rfl
theorem f_strips_Cost_ok (t : STask) (ho : SkOk t) (plan : List Int) (hb : plFault t plan = okF) : Fc Go.Proofs.Try.prog 8 [skV t, .sl .p (plan.map i64V)] (.tup [.int .i64 (costS t plan), ftV okF]) := by
  obtain ⟨hv, h60, hr, _⟩ := plFault_ok hb
  have hF := f_strips_PlanFault t ho plan (by omega)
  rw [hb] at hF
  refine Fn.step mixed k_strips_Cost ?_
  repeat' (first | refine i_len rfl ?_ | refine i_s rfl ?_ | refine i_lenm rfl rfl rfl ?_ | refine sw ?_ | refine i_s0 rfl ?_ | refine i_gt rfl ?_ | refine i_gf rfl ?_ | refine i_gd rfl ?_ | refine c_t rfl ?_ | refine c_f rfl ?_ | refine jc rfl ?_ | refine ja rfl rfl ?_ | refine jb rfl rfl ?_ | refine jg rfl rfl ?_ | refine jf rfl rfl ?_ | refine jd rfl rfl ?_ | refine je rfl rfl ?_ | refine jh rfl rfl ?_ | refine i_stb rfl ?_ | refine i_alloc rfl ?_ | refine i_box rfl rfl ?_ | refine i_nv rfl ?_ | (refine sp ?_ ?_ <;> try intro h) | refine sf rfl rfl hF ?_ | fail)
  refine c_for plan.length (fun k => [(2, .bptr 512132 0), (5, .bptr 512322 0), (7, .int .i64 (costS t (plan.take k))), (17, .sl .p (plan.map i64V)), (18, .int .i64 plan.length), (19, .int .i64 k)]) (fun _ => [(512132, .box (skV t)), (512322, .box (ftV okF))]) (fun _ => True) trivial ft fun k hk _ => ?_
  clear hF
  repeat (first | refine i_len rfl ?_ | refine i_s rfl ?_ | refine i_lenm rfl rfl rfl ?_ | refine sw ?_ | refine i_s0 rfl ?_ | refine i_gt rfl ?_ | refine i_gf rfl ?_ | refine i_gd rfl ?_ | refine c_t rfl ?_ | refine c_f rfl ?_ | refine jc rfl ?_ | refine ja rfl rfl ?_ | refine jb rfl rfl ?_ | refine jg rfl rfl ?_ | refine jf rfl rfl ?_ | refine jd rfl rfl ?_ | refine je rfl rfl ?_ | refine jh rfl rfl ?_ | refine i_stb rfl ?_ | refine i_alloc rfl ?_ | refine i_box rfl rfl ?_ | refine i_nv rfl ?_)
  refine c_cond rfl (fun h => ?_) (fun h => ?_)
  · have hlt : k < plan.length := by simpa using h
    obtain ⟨x, hx⟩ := get_some hlt
    obtain ⟨x0, x1⟩ := hr x (mem_get hx)
    obtain ⟨o, hc⟩ := get_some (l := t.ops) (k := x.toNat) (by omega)
    have hcr := costS_range hv (plan.take k)
    have hoo := hv.op o (mem_get hc)
    have c0 := hoo.c0
    have c1 := hoo.c1
    have htl : (plan.take k).length ≤ 60 := by simp; omega
    have e : costS t (plan.take (k + 1)) = costS t (plan.take k) + o.cost := by rw [take_succ_get hx, costS_snoc, show costAtS t x = o.cost from by simp [costAtS, hc]]
    clear h hr hv hoo
    repeat (first | refine i_len rfl ?_ | refine i_s rfl ?_ | refine i_lenm rfl rfl rfl ?_ | refine sw ?_ | refine i_s0 rfl ?_ | refine i_gt rfl ?_ | refine i_gf rfl ?_ | refine i_gd rfl ?_ | refine c_t rfl ?_ | refine c_f rfl ?_ | refine jc rfl ?_ | refine ja rfl rfl ?_ | refine jb rfl rfl ?_ | refine jg rfl rfl ?_ | refine jf rfl rfl ?_ | refine jd rfl rfl ?_ | refine je rfl rfl ?_ | refine jh rfl rfl ?_ | refine i_stb rfl ?_ | refine i_alloc rfl ?_ | refine i_box rfl rfl ?_ | refine i_nv rfl ?_)
    refine e_for hlt trivial ⟨⟨rfl, rfl, ?_, rfl, rfl, rfl, trivial⟩, ⟨rfl, rfl, trivial⟩, rfl⟩
    rw [e]; rfl
  · have hge : k = plan.length := by have : ¬ k < plan.length := by simpa using h
                                     omega
    subst hge
    rw [List.take_length]
    repeat (first | refine i_len rfl ?_ | refine i_s rfl ?_ | refine i_lenm rfl rfl rfl ?_ | refine sw ?_ | refine i_s0 rfl ?_ | refine i_gt rfl ?_ | refine i_gf rfl ?_ | refine i_gd rfl ?_ | refine c_t rfl ?_ | refine c_f rfl ?_ | refine jc rfl ?_ | refine ja rfl rfl ?_ | refine jb rfl rfl ?_ | refine jg rfl rfl ?_ | refine jf rfl rfl ?_ | refine jd rfl rfl ?_ | refine je rfl rfl ?_ | refine jh rfl rfl ?_ | refine i_stb rfl ?_ | refine i_alloc rfl ?_ | refine i_box rfl rfl ?_ | refine i_nv rfl ?_)
    exact e_ret ⟨rfl, _, rfl, rfl⟩
end Hm
end
section
namespace Hm
open Go
set_option maxRecDepth 100000
set_option maxHeartbeats 4000000
def kernT : STask := ⟨2, [0], [1], [⟨[0], [1], [0], 3⟩]⟩
theorem kern_ok : SkOk kernT := by
  refine ⟨by decide, by decide, by decide, fun o ho => ?_⟩
  rw [List.mem_singleton.1 ho]
  exact ⟨by decide, by decide, by decide⟩
theorem kern_v : sFault kernT = okF := by decide +kernel
theorem kern_states : statesF kernT ≠ none := by
  have : (statesF kernT).isSome = true := by decide +kernel
  intro h
  rw [h] at this
  cases this
theorem kern_least : Least (wdOf kernT) (wdOf kernT).start 3 := by
  have hv := sFault_ok kern_v
  have hw : WayTo (wdOf kernT) (wdOf kernT).start 3 := way_of_plan hv [0] [0] [1] hv.init (by decide) (by decide +kernel) (by decide +kernel)
  refine ⟨by decide, fun c h => ?_, .inr hw⟩
  cases h with
  | goal h => exact absurd h (by decide +kernel)
  | step he h =>
    have h0 := way_nn (wdOf_cost hv) h
    obtain ⟨o, h1, _, h3, _⟩ := (mem_steps (t := kernT) hv (s := [0]) (by intro p hp; simp at hp; omega)).1 he
    have : o ∈ kernT.ops := List.mem_of_getElem? h1
    rw [List.mem_singleton.1 this] at h3
    rw [h3]
    show (3 : Int) ≤ 3 + _
    omega
theorem kern_works : worksB kernT kernT.init [0] = true := by decide +kernel
def c_T_kernStep : Cmd :=
 (qS [qq 0 (.alloc 1152004 (.agg [.int .i64 0, .sl .nil [], .sl .nil [], .sl .nil []]))]
 (.seq (.ops [qq 1 (.bsl 1 [.c (.int .i64 0)]), qq 2 (.bsl 1 [.c (.int .i64 1)]), qq 3 (.bsl 1 [.c (.int .i64 0)]), qq 4 (.bsl 1 [.c (.int .i64 1)]), qq 5 (.bsl 1 [.c (.int .i64 0)]), qq 6 (.build [.sl .nil [], .sl .nil [], .sl .nil [], .int .i64 0] [(0 , 1 , .t 3), (1 , 1 , .t 4), (2 , 1 , .t 5), (3 , 1 , .c (.int .i64 3))]), qq 7 (.bsl 4 [.t 6]), qq 8 (.build [.int .i64 0, .sl .nil [], .sl .nil [], .sl .nil []] [(0 , 1 , .c (.int .i64 2)), (1 , 1 , .t 1), (2 , 1 , .t 2), (3 , 1 , .t 7)]), qs 4 0 8]) .ret))
def r_T_kernStep : List RVar := [.cell true 4 0]
def n_T_kernStep : Nat := 9
theorem k_T_kernStep : chkFn Go.Proofs.Try.prog 18 n_T_kernStep r_T_kernStep c_T_kernStep = true := by kernel_rfl
theorem f_kernStep : Fc Go.Proofs.Try.prog 18 [] (skV kernT) := by
  refine Fn.step mixed k_T_kernStep ?_
  repeat' (first | refine i_s rfl ?_ | refine sw ?_ | refine i_stb rfl ?_ | refine i_alloc rfl ?_)
  exact e_ret ⟨rfl, _, rfl, rfl⟩
def c_T_kernWorks : Cmd :=
 (qS [qb 0 false]
 (qS [qk 6 18 [], qk 7 17 [6], qm 5 7, qq 8 (.extract (.t 5) 0), qq 9 (.extract (.t 5) 1), qq 2 (.alloc 384130 (.agg [.int .i64 0, .int .i64 0])), qm 1 8, qs 2 2 9]
 (qS [qk 11 18 [], qq 12 (.bsl 1 [.c (.int .i64 0)]), qk 13 19 [11, 12], qm 10 13, qq 14 (.extract (.t 10) 0), qq 15 (.extract (.t 10) 1), qq 4 (.alloc 384258 (.agg [.int .i64 0, .int .i64 0])), qm 3 14, qs 2 4 15]
 (.seq (.ops [qf 16 0 2, ql 17 1 16, qv 18 .eql [.i] 17 0, qm 19 18, qg 20 19 true (.faddr 0 (.t 4)), qg 21 19 true (.load false 1 (.t 20)), qg 22 19 true (.bin .eql false [.i] (.t 21) (.c (.int .i64 0))), qq 23 (.pick (.t 19) (.t 22) (.c (.bool false))), qm 24 23, qg 25 24 true (.mov (.t 1)), qg 26 24 true (.bin .eql false [.i] (.t 25) (.c (.int .i64 3))), qq 27 (.pick (.t 24) (.t 26) (.c (.bool false))), qm 28 27, qg 29 28 true (.mov (.t 3)), qq 30 (.pick (.t 28) (.t 29) (.c (.bool false))), qm 0 30]) .ret))))
def r_T_kernWorks : List RVar := [.tmp 0]
def n_T_kernWorks : Nat := 31
theorem k_T_kernWorks : chkFn Go.Proofs.Try.prog 6 n_T_kernWorks r_T_kernWorks c_T_kernWorks = true := by kernel_rfl
theorem f_kernWorks : Fc Go.Proofs.Try.prog 6 [] (.bool true) := by
  obtain ⟨l, hl⟩ := Option.ne_none_iff_exists'.1 kern_states
  have h1 := f_space_Optimal_ok kernT kern_ok kern_v hl kern_least
  have h2 := f_strips_Solves_ok kernT kern_ok [0] (by decide +kernel)
  rw [kern_works] at h2
  have h0 := f_kernStep
  refine Fn.step mixed k_T_kernWorks ?_
  repeat' (first | refine i_s rfl ?_ | refine sw ?_ | refine i_gt rfl ?_ | refine i_stb rfl ?_ | refine i_alloc rfl ?_ | refine sf rfl rfl h0 ?_ | refine sf rfl rfl h1 ?_ | refine sf rfl rfl h2 ?_ | fail)
  all_goals first
    | (exfalso; simp at *; done)
    | exact e_ret ⟨rfl, _, rfl, rfl⟩
theorem statesF_ok {t : STask} {l : List W32} (h : statesF t = some l) : IsStates (wdOf t) l := by
  unfold statesF at h
  cases hA : allF (wdOf t) with
  | none => rw [hA] at h; cases h
  | some l0 => rw [hA] at h; cases h; exact srtW_ok hA
def c_lowerbound_Make : Cmd :=
 (qS [qx 1 320068 4 0, qq 2 (.mov (.c (.sl .nil []))), qc 3 0, qq 4 (.alloc 320258 (.agg [.int .i64 0, .int .i64 0]))]
 (qS [qL 13 4 1, qk 14 13 [13], qm 12 14, qq 15 (.extract (.t 12) 0), qq 16 (.extract (.t 12) 1), qq 17 (.extract (.t 12) 2), qq 7 (.alloc 320450 (.agg [.int .i64 0, .int .i64 0])), qm 5 15, qm 6 16, qs 2 7 17]
 (qT (qS [qL 18 2 7, qq 19 (.build [.int .i64 0, .int .i64 0] []), qq 20 (.bin .neq true [.i, .i] (.t 18) (.t 19))]
 (.cond (.t 20) (.seq (.ops [qL 21 2 7, qq 2 (.mov (.c (.sl .nil []))), qc 3 0, qs 2 4 21]) .ret) .skip))
 (qS [qm 22 5, qm 23 6, qk 24 14 [22, 23], qm 8 24]
 (qS [qq 9 (.newVec 320578)]
 (qT (qS [qm 25 6, qn 26 25, qc 27 0]
 (.block 0 (.loop (qS [qu 28 .lss [] 27 26]
 (qT (.cond (.t 28) .skip (.exit 0))
 (qT (.block 1 (qS [qi 29 1 25 27, ql 30 1 29, qm 11 30]
 (qS [qm 31 8, qm 32 11, qq 33 (.mget false (.int .i64 0) (.t 31) (.t 32)), qv 34 .gtr [] 33 0]
 (.cond (.t 34) (.ops [qm 35 9, qm 36 11, qk 37 15 [36], qm 38 8, qm 39 11, qq 40 (.mget false (.int .i64 0) (.t 38) (.t 39)), qq 41 (.build [.sl .nil [], .int .i64 0] [(0 , 1 , .t 37), (1 , 1 , .t 40)]), qq 42 (.bsl 2 [.t 41]), qq 43 (.append 2 32 52 (.t 35) (.t 42)), qm 9 43]) .skip))))
 (.ops [qv 44 .add [] 27 1, qm 27 44])))))))
 (.seq (.ops [qm 45 9, qm 46 8, qm 47 5, qk 48 16 [47], qq 49 (.mget false (.int .i64 0) (.t 46) (.t 48)), qq 50 (.build [.int .i64 0, .int .i64 0] []), qm 2 45, qm 3 49, qs 2 4 50]) .ret)))))))
def r_lowerbound_Make : List RVar := [.tmp 2, .tmp 3, .cell true 2 4]
def n_lowerbound_Make : Nat := 51
theorem k_lowerbound_Make : chkFn Go.Proofs.Try.prog 5 n_lowerbound_Make r_lowerbound_Make c_lowerbound_Make = true := by kernel_rfl
theorem f_lowerbound_Make_bad (t : STask) (ho : SkOk t) (hb : sFault t ≠ okF) : Fc Go.Proofs.Try.prog 5 [skV t] (.tup [.sl .p [], .int .i64 0, ftV (sFault t)]) := by
  have hV := f_space_Checked_bad t ho hb
  refine Fn.step mixed k_lowerbound_Make ?_
  repeat' (first | refine i_len rfl ?_ | refine i_s rfl ?_ | refine i_lenm rfl rfl rfl ?_ | refine sw ?_ | refine i_s0 rfl ?_ | refine i_gt rfl ?_ | refine i_gf rfl ?_ | refine i_gd rfl ?_ | refine c_t rfl ?_ | refine c_f rfl ?_ | refine jc rfl ?_ | refine ja rfl rfl ?_ | refine jb rfl rfl ?_ | refine jg rfl rfl ?_ | refine jf rfl rfl ?_ | refine jd rfl rfl ?_ | refine je rfl rfl ?_ | refine jh rfl rfl ?_ | refine i_stb rfl ?_ | refine i_alloc rfl ?_ | refine i_box rfl rfl ?_ | refine i_nv rfl ?_ | (refine sp ?_ ?_ <;> try intro h) | refine sf rfl rfl hV ?_ | fail)
  · exact e_ret ⟨rfl, _, rfl, rfl⟩
  all_goals exact absurd (eq_ok (by assumption)) hb
theorem f_lowerbound_Make_big (t : STask) (ho : SkOk t) (hb : sFault t = okF) (hn : statesF t = none) : Fc Go.Proofs.Try.prog 5 [skV t] (.tup [.sl .p [], .int .i64 0, ftV ⟨10, -7⟩]) := by
  have hV := f_space_Checked_ok t ho hb
  rw [hn] at hV
  simp only at hV
  refine Fn.step mixed k_lowerbound_Make ?_
  repeat' (first | refine i_len rfl ?_ | refine i_s rfl ?_ | refine i_lenm rfl rfl rfl ?_ | refine sw ?_ | refine i_s0 rfl ?_ | refine i_gt rfl ?_ | refine i_gf rfl ?_ | refine i_gd rfl ?_ | refine c_t rfl ?_ | refine c_f rfl ?_ | refine jc rfl ?_ | refine ja rfl rfl ?_ | refine jb rfl rfl ?_ | refine jg rfl rfl ?_ | refine jf rfl rfl ?_ | refine jd rfl rfl ?_ | refine je rfl rfl ?_ | refine jh rfl rfl ?_ | refine i_stb rfl ?_ | refine i_alloc rfl ?_ | refine i_box rfl rfl ?_ | refine i_nv rfl ?_ | (refine sp ?_ ?_ <;> try intro h) | refine sf rfl rfl hV ?_ | fail)
  exact e_ret ⟨rfl, _, rfl, rfl⟩
theorem f_lowerbound_Make_ok (t : STask) (ho : SkOk t) (hb : sFault t = okF) {l : List W32} (hl : statesF t = some l) {D : W32 → Int} (hD : ∀ s, Least (wdOf t) s (D s)) :
    Fc Go.Proofs.Try.prog 5 [skV t] (.tup [.sl .p ((lbT D l).map bE), .int .i64 (D (wdOf t).start), ftV okF]) := by
  have hV := f_space_Checked_ok t ho hb
  rw [hl] at hV
  simp only at hV
  have hv := sFault_ok hb
  have hol : (wdOf t).ops.length ≤ 1000000 := by unfold wdOf; rw [List.length_map]; have := hv.opl; omega
  have hI := statesF_ok hl
  have hC := f_space_Costs (wdOf t) (wdOf_cost hv) hol l hI.1 hI.2.1 hI.closed D hD
  have hS := f_space_Words_Start (wdOf t)
  have hst : (wdOf t).start ∈ l := (hI.2.2.1 _).2 .start
  have hget : ∀ s ∈ l, mres false (.int .i64 0) (mgetv (l.map toI) (l.map fun s => i64V (D s)) (s.toNat : Int)) = .int .i64 (D s) := fun s hs => by
    have : mgetv (l.map toI) (l.map fun s => i64V (D s)) (s.toNat : Int) = some (i64V (D s)) := out_get hs
    rw [this]
    rfl
  have hg := hget _ hst
  have h2 := hI.2.1
  refine Fn.step mixed k_lowerbound_Make ?_
  repeat' (first | refine i_len rfl ?_ | refine i_s rfl ?_ | refine i_lenm rfl rfl rfl ?_ | refine sw ?_ | refine i_s0 rfl ?_ | refine i_gt rfl ?_ | refine i_gf rfl ?_ | refine i_gd rfl ?_ | refine c_t rfl ?_ | refine c_f rfl ?_ | refine jc rfl ?_ | refine ja rfl rfl ?_ | refine jb rfl rfl ?_ | refine jg rfl rfl ?_ | refine jf rfl rfl ?_ | refine jd rfl rfl ?_ | refine je rfl rfl ?_ | refine jh rfl rfl ?_ | refine i_stb rfl ?_ | refine i_alloc rfl ?_ | refine i_box rfl rfl ?_ | refine i_nv rfl ?_ | (refine sp ?_ ?_ <;> try intro h) | refine sf rfl rfl hV ?_ | refine sf rfl rfl hC ?_ | fail)
  refine c_for l.length (fun k => [(4, .bptr 320258 0), (5, .cptr .p (wdR (wdOf t)) 0), (8, .mps .u32 (l.map toI) (l.map fun s => i64V (D s))), (9, .sl (.own 320578) ((lbT D (l.take k)).map bE)), (25, .sl .p (l.map u32V)), (26, .int .i64 l.length), (27, .int .i64 k)])
    (fun k => [(320258, .box (ftV okF)), (320578, .vec (lbT D (l.take k)).length)]) (fun _ => True) trivial ft fun k hk _ => ?_
  repeat (first | refine i_len rfl ?_ | refine i_s rfl ?_ | refine i_lenm rfl rfl rfl ?_ | refine sw ?_ | refine i_s0 rfl ?_ | refine i_gt rfl ?_ | refine i_gf rfl ?_ | refine i_gd rfl ?_ | refine c_t rfl ?_ | refine c_f rfl ?_ | refine jc rfl ?_ | refine ja rfl rfl ?_ | refine jb rfl rfl ?_ | refine jg rfl rfl ?_ | refine jf rfl rfl ?_ | refine jd rfl rfl ?_ | refine je rfl rfl ?_ | refine jh rfl rfl ?_ | refine i_stb rfl ?_ | refine i_alloc rfl ?_ | refine i_box rfl rfl ?_ | refine i_nv rfl ?_)
  refine c_cond rfl (fun h => ?_) (fun h => ?_)
  · have hlt : k < l.length := by simpa using h
    obtain ⟨s, hs⟩ := get_some hlt
    clear h hV hC
    have hgs := hget s (mem_get hs)
    have hF := f_space_Facts s
    have hll := lbT_len D (l.take k)
    rw [List.length_take] at hll
    have et : lbT D (l.take (k + 1)) = lbT D (l.take k) ++ (if 0 < D s then [(s, D s)] else []) := by rw [take_succ_get hs, lbT_snoc]
    by_cases c : 0 < D s
    · rw [if_pos c] at et
      repeat' (first | refine i_len rfl ?_ | refine i_s rfl ?_ | refine i_lenm rfl rfl rfl ?_ | refine sw ?_ | refine i_s0 rfl ?_ | refine i_gt rfl ?_ | refine i_gf rfl ?_ | refine i_gd rfl ?_ | refine c_t rfl ?_ | refine c_f rfl ?_ | refine jc rfl ?_ | refine ja rfl rfl ?_ | refine jb rfl rfl ?_ | refine jg rfl rfl ?_ | refine jf rfl rfl ?_ | refine jd rfl rfl ?_ | refine je rfl rfl ?_ | refine jh rfl rfl ?_ | refine i_stb rfl ?_ | refine i_alloc rfl ?_ | refine i_box rfl rfl ?_ | refine i_nv rfl ?_ | (refine sp ?_ ?_ <;> try intro h) | refine sf rfl rfl hF ?_ | refine i_mg rfl rfl rfl hgs ?_ | refine i_appM (c := (s, D s)) (f := bE) rfl rfl rfl rfl rfl (by omega) (by omega) ?_)
      all_goals first
        | (exfalso; simp at *; omega)
        | (refine e_for hlt trivial ⟨⟨rfl, rfl, rfl, ?_, rfl, rfl, rfl, trivial⟩, ⟨rfl, ?_, trivial⟩, rfl⟩
           · rw [et]; rfl
           · rw [et, List.length_append]; rfl)
    · rw [if_neg c, List.append_nil] at et
      repeat' (first | refine i_len rfl ?_ | refine i_s rfl ?_ | refine i_lenm rfl rfl rfl ?_ | refine sw ?_ | refine i_s0 rfl ?_ | refine i_gt rfl ?_ | refine i_gf rfl ?_ | refine i_gd rfl ?_ | refine c_t rfl ?_ | refine c_f rfl ?_ | refine jc rfl ?_ | refine ja rfl rfl ?_ | refine jb rfl rfl ?_ | refine jg rfl rfl ?_ | refine jf rfl rfl ?_ | refine jd rfl rfl ?_ | refine je rfl rfl ?_ | refine jh rfl rfl ?_ | refine i_stb rfl ?_ | refine i_alloc rfl ?_ | refine i_box rfl rfl ?_ | refine i_nv rfl ?_ | (refine sp ?_ ?_ <;> try intro h) | refine sf rfl rfl hF ?_ | refine i_mg rfl rfl rfl hgs ?_)
      all_goals first
        | (exfalso; simp at *; omega)
        | (refine e_for hlt trivial ⟨⟨rfl, rfl, rfl, ?_, rfl, rfl, rfl, trivial⟩, ⟨rfl, ?_, trivial⟩, rfl⟩
           · rw [et]; rfl
           · rw [et]; rfl)
  · have hge : k = l.length := by have : ¬ k < l.length := by simpa using h
                                  omega
    subst hge
    rw [List.take_length]
    repeat' (first | refine i_len rfl ?_ | refine i_s rfl ?_ | refine i_lenm rfl rfl rfl ?_ | refine sw ?_ | refine i_s0 rfl ?_ | refine i_gt rfl ?_ | refine i_gf rfl ?_ | refine i_gd rfl ?_ | refine c_t rfl ?_ | refine c_f rfl ?_ | refine jc rfl ?_ | refine ja rfl rfl ?_ | refine jb rfl rfl ?_ | refine jg rfl rfl ?_ | refine jf rfl rfl ?_ | refine jd rfl rfl ?_ | refine je rfl rfl ?_ | refine jh rfl rfl ?_ | refine i_stb rfl ?_ | refine i_alloc rfl ?_ | refine i_box rfl rfl ?_ | refine i_nv rfl ?_ | (refine sp ?_ ?_ <;> try intro h) | refine sf rfl rfl hS ?_ | refine i_mg rfl rfl rfl hg ?_)
    exact e_ret ⟨rfl, _, rfl, rfl⟩
def c_lowerbound_validate : Cmd :=
 (qS [qx 2 1280132 4 0, qq 4 (.alloc 1280258 (.agg [.int .i64 0, .int .i64 0]))]
 (qT (qS [qL 8 4 2, qk 9 28 [8], qq 5 (.alloc 1280322 (.agg [.int .i64 0, .int .i64 0])), qs 2 5 9]
 (qS [qL 10 2 5, qq 11 (.build [.int .i64 0, .int .i64 0] []), qq 12 (.bin .neq true [.i, .i] (.t 10) (.t 11))]
 (.cond (.t 12) (.seq (.ops [qL 13 2 5, qs 2 4 13]) .ret) .skip)))
 (qT (qS [qm 14 1, qn 15 14, qv 16 .gtr [] 15 2000]
 (.cond (.t 16) (.seq (.ops [qq 17 (.build [.int .i64 0, .int .i64 0] [(0 , 1 , .c (.int .i64 2)), (1 , 1 , .c (.int .i64 (-8)))]), qs 2 4 17]) .ret) .skip))
 (qT (qS [qm 18 1, qn 19 18, qc 20 0]
 (.block 0 (.loop (qS [qu 21 .lss [] 20 19]
 (qT (.cond (.t 21) .skip (.exit 0))
 (qT (.block 1 (qS [qm 22 20, qi 23 2 18 20, qL 24 2 23, qq 7 (.alloc 1280450 (.agg [.sl .nil [], .int .i64 0])), qm 6 22, qs 2 7 24]
 (.block 2 (qS [qf 26 0 7, ql 27 1 26, qf 28 0 2, ql 29 1 28, qk 30 40 [27, 29], qq 31 (.not (.t 30)), qm 32 31, qg 33 32 false (.mov (.t 6)), qg 34 32 false (.bin .gtr false [] (.t 33) (.c (.int .i64 0))), qg 35 32 false (.mov (.t 34)), qg 36 35 true (.faddr 0 (.t 7)), qg 37 35 true (.load false 1 (.t 36)), qg 38 35 true (.mov (.t 1)), qg 39 35 true (.mov (.t 6)), qg 40 35 true (.bin .sub false [] (.t 39) (.c (.int .i64 1))), qg 41 35 true (.iaddr 2 (.t 38) (.t 40)), qg 42 35 true (.faddr 0 (.t 41)), qg 43 35 true (.load false 1 (.t 42)), qg 44 35 true (.call .f (.c (.fn 33 [])) [.t 37, .t 43]), qg 45 35 true (.bin .leq false [] (.t 44) (.c (.int .i64 0))), qg 46 32 false (.pick (.t 35) (.t 45) (.c (.bool false))), qq 47 (.pick (.t 32) (.c (.bool true)) (.t 46)), qm 25 47]
 (.cond (.t 25) (.seq (.ops [qm 48 6, qq 49 (.build [.int .i64 0, .int .i64 0] [(0 , 1 , .c (.int .i64 5)), (1 , 1 , .t 48)]), qs 2 4 49]) .ret) (qS [qf 51 1 7, ql 52 1 51, qv 53 .lss [] 52 1, qm 54 53, qg 55 54 false (.faddr 1 (.t 7)), qg 56 54 false (.load false 1 (.t 55)), qg 57 54 false (.bin .gtr false [] (.t 56) (.c (.int .i64 1000000000))), qq 58 (.pick (.t 54) (.c (.bool true)) (.t 57)), qm 50 58]
 (.cond (.t 50) (.seq (.ops [qm 59 6, qq 60 (.build [.int .i64 0, .int .i64 0] [(0 , 1 , .c (.int .i64 3)), (1 , 1 , .t 59)]), qs 2 4 60]) .ret) .skip)))))))
 (.ops [qv 61 .add [] 20 1, qm 20 61])))))))
 (.seq (.ops [qq 62 (.build [.int .i64 0, .int .i64 0] []), qs 2 4 62]) .ret)))))
def r_lowerbound_validate : List RVar := [.cell true 2 4]
def n_lowerbound_validate : Nat := 63
theorem k_lowerbound_validate : chkFn Go.Proofs.Try.prog 20 n_lowerbound_validate r_lowerbound_validate c_lowerbound_validate = true := by kernel_rfl
theorem f_lowerbound_validate (t : STask) (ho : SkOk t) (hb : sFault t = okF) {T : List (W32 × Int)} (hT : TabOk t.facts T) : Fc Go.Proofs.Try.prog 20 [skV t, .sl .p (T.map bE)] (ftV okF) := by
  have hV := f_strips_Validate t ho
  rw [hb] at hV
  have hlen := hT.len
  refine Fn.step mixed k_lowerbound_validate ?_
  have hl2 : decide ((T.length : Int) > 2000) = false := decide_eq_false (by omega)
  repeat (first | refine i_len rfl ?_ | refine i_s rfl ?_ | refine i_lenm rfl rfl rfl ?_ | refine sw ?_ | refine i_s0 rfl ?_ | refine i_gt rfl ?_ | refine i_gf rfl ?_ | refine i_gd rfl ?_ | refine c_t rfl ?_ | refine c_f rfl ?_ | refine jc rfl ?_ | refine ja rfl rfl ?_ | refine jb rfl rfl ?_ | refine jg rfl rfl ?_ | refine jf rfl rfl ?_ | refine jd rfl rfl ?_ | refine je rfl rfl ?_ | refine jh rfl rfl ?_ | refine i_stb rfl ?_ | refine i_alloc rfl ?_ | refine i_box rfl rfl ?_ | refine i_nv rfl ?_ | refine sf rfl rfl hV ?_)
  rw [hl2]
  repeat (first | refine i_len rfl ?_ | refine i_s rfl ?_ | refine i_lenm rfl rfl rfl ?_ | refine sw ?_ | refine i_s0 rfl ?_ | refine i_gt rfl ?_ | refine i_gf rfl ?_ | refine i_gd rfl ?_ | refine c_t rfl ?_ | refine c_f rfl ?_ | refine jc rfl ?_ | refine ja rfl rfl ?_ | refine jb rfl rfl ?_ | refine jg rfl rfl ?_ | refine jf rfl rfl ?_ | refine jd rfl rfl ?_ | refine je rfl rfl ?_ | refine jh rfl rfl ?_ | refine i_stb rfl ?_ | refine i_alloc rfl ?_ | refine i_box rfl rfl ?_ | refine i_nv rfl ?_)
  refine c_for T.length (fun k => [(1, .sl .p (T.map bE)), (2, .bptr 1280132 0), (4, .bptr 1280258 0), (18, .sl .p (T.map bE)), (19, .int .i64 T.length), (20, .int .i64 k)])
    (fun k => [(1280132, .box (skV t)), (1280258, .box (ftV okF))]) (fun _ => True) trivial ft fun k hk _ => ?_
  repeat (first | refine i_len rfl ?_ | refine i_s rfl ?_ | refine i_lenm rfl rfl rfl ?_ | refine sw ?_ | refine i_s0 rfl ?_ | refine i_gt rfl ?_ | refine i_gf rfl ?_ | refine i_gd rfl ?_ | refine c_t rfl ?_ | refine c_f rfl ?_ | refine jc rfl ?_ | refine ja rfl rfl ?_ | refine jb rfl rfl ?_ | refine jg rfl rfl ?_ | refine jf rfl rfl ?_ | refine jd rfl rfl ?_ | refine je rfl rfl ?_ | refine jh rfl rfl ?_ | refine i_stb rfl ?_ | refine i_alloc rfl ?_ | refine i_box rfl rfl ?_ | refine i_nv rfl ?_)
  refine c_cond rfl (fun h => ?_) (fun h => ?_)
  · have hlt : k < T.length := by simpa using h
    obtain ⟨p, hp⟩ := get_some hlt
    clear h hV
    have hpm := mem_get hp
    have hI := f_strips_IsSet (facts p.1) t.facts (by have := facts_len p.1; omega)
    rw [isSet_to (hT.set p hpm)] at hI
    have hrng := hT.rng p hpm
    have hi : p.2 ≤ 1000000000 := hrng.2
    have hr1 : decide (p.2 < 1) = false := decide_eq_false (by omega)
    have hr2 : decide (p.2 > 1000000000) = false := decide_eq_false (by omega)
    by_cases hk0 : k = 0
    · subst hk0
      repeat (first | refine i_len rfl ?_ | refine i_s rfl ?_ | refine i_lenm rfl rfl rfl ?_ | refine sw ?_ | refine i_s0 rfl ?_ | refine i_gt rfl ?_ | refine i_gf rfl ?_ | refine i_gd rfl ?_ | refine c_t rfl ?_ | refine c_f rfl ?_ | refine jc rfl ?_ | refine ja rfl rfl ?_ | refine jb rfl rfl ?_ | refine jg rfl rfl ?_ | refine jf rfl rfl ?_ | refine jd rfl rfl ?_ | refine je rfl rfl ?_ | refine jh rfl rfl ?_ | refine i_stb rfl ?_ | refine i_alloc rfl ?_ | refine i_box rfl rfl ?_ | refine i_nv rfl ?_ | refine sf rfl rfl hI ?_)
      rw [hr1]
      repeat (first | refine i_len rfl ?_ | refine i_s rfl ?_ | refine i_lenm rfl rfl rfl ?_ | refine sw ?_ | refine i_s0 rfl ?_ | refine i_gt rfl ?_ | refine i_gf rfl ?_ | refine i_gd rfl ?_ | refine c_t rfl ?_ | refine c_f rfl ?_ | refine jc rfl ?_ | refine ja rfl rfl ?_ | refine jb rfl rfl ?_ | refine jg rfl rfl ?_ | refine jf rfl rfl ?_ | refine jd rfl rfl ?_ | refine je rfl rfl ?_ | refine jh rfl rfl ?_ | refine i_stb rfl ?_ | refine i_alloc rfl ?_ | refine i_box rfl rfl ?_ | refine i_nv rfl ?_ | refine sf rfl rfl hI ?_)
      rw [hr2]
      repeat (first | refine i_len rfl ?_ | refine i_s rfl ?_ | refine i_lenm rfl rfl rfl ?_ | refine sw ?_ | refine i_s0 rfl ?_ | refine i_gt rfl ?_ | refine i_gf rfl ?_ | refine i_gd rfl ?_ | refine c_t rfl ?_ | refine c_f rfl ?_ | refine jc rfl ?_ | refine ja rfl rfl ?_ | refine jb rfl rfl ?_ | refine jg rfl rfl ?_ | refine jf rfl rfl ?_ | refine jd rfl rfl ?_ | refine je rfl rfl ?_ | refine jh rfl rfl ?_ | refine i_stb rfl ?_ | refine i_alloc rfl ?_ | refine i_box rfl rfl ?_ | refine i_nv rfl ?_ | refine sf rfl rfl hI ?_)
      exact e_for hlt trivial ft
    · obtain ⟨q, hq⟩ := get_some (l := T) (k := k - 1) (by omega)
      have hq' : T[((k : Int) - 1).toNat]? = some q := by rw [show ((k : Int) - 1).toNat = k - 1 by omega]; exact hq
      have hord : 0 < cmpL (facts p.1) (facts q.1) := by
        obtain ⟨h1, e1⟩ := List.getElem?_eq_some_iff.1 hq
        obtain ⟨h2, e2⟩ := List.getElem?_eq_some_iff.1 hp
        have h3 := List.pairwise_iff_getElem.1 hT.ord (k - 1) k h1 h2 (by omega)
        rw [e1, e2, wOrd_neg p.1 q.1] at h3
        unfold wOrd at h3
        omega
      have hC := f_slices_Compare (facts p.1) (facts q.1) (by have := facts_len p.1; omega) (by have := facts_len q.1; omega)
      generalize cmpL (facts p.1) (facts q.1) = cp at hC hord
      have hk1 : decide ((k : Int) > 0) = true := decide_eq_true (by omega)
      have hcp : decide (cp ≤ 0) = false := decide_eq_false (by omega)
      repeat (first | refine i_len rfl ?_ | refine i_s rfl ?_ | refine i_lenm rfl rfl rfl ?_ | refine sw ?_ | refine i_s0 rfl ?_ | refine i_gt rfl ?_ | refine i_gf rfl ?_ | refine i_gd rfl ?_ | refine c_t rfl ?_ | refine c_f rfl ?_ | refine jc rfl ?_ | refine ja rfl rfl ?_ | refine jb rfl rfl ?_ | refine jg rfl rfl ?_ | refine jf rfl rfl ?_ | refine jd rfl rfl ?_ | refine je rfl rfl ?_ | refine jh rfl rfl ?_ | refine i_stb rfl ?_ | refine i_alloc rfl ?_ | refine i_box rfl rfl ?_ | refine i_nv rfl ?_ | refine sf rfl rfl hI ?_ | refine sf rfl rfl hC ?_)
      rw [hk1]
      repeat (first | refine i_len rfl ?_ | refine i_s rfl ?_ | refine i_lenm rfl rfl rfl ?_ | refine sw ?_ | refine i_s0 rfl ?_ | refine i_gt rfl ?_ | refine i_gf rfl ?_ | refine i_gd rfl ?_ | refine c_t rfl ?_ | refine c_f rfl ?_ | refine jc rfl ?_ | refine ja rfl rfl ?_ | refine jb rfl rfl ?_ | refine jg rfl rfl ?_ | refine jf rfl rfl ?_ | refine jd rfl rfl ?_ | refine je rfl rfl ?_ | refine jh rfl rfl ?_ | refine i_stb rfl ?_ | refine i_alloc rfl ?_ | refine i_box rfl rfl ?_ | refine i_nv rfl ?_ | refine sf rfl rfl hI ?_ | refine sf rfl rfl hC ?_)
      rw [hcp]
      repeat (first | refine i_len rfl ?_ | refine i_s rfl ?_ | refine i_lenm rfl rfl rfl ?_ | refine sw ?_ | refine i_s0 rfl ?_ | refine i_gt rfl ?_ | refine i_gf rfl ?_ | refine i_gd rfl ?_ | refine c_t rfl ?_ | refine c_f rfl ?_ | refine jc rfl ?_ | refine ja rfl rfl ?_ | refine jb rfl rfl ?_ | refine jg rfl rfl ?_ | refine jf rfl rfl ?_ | refine jd rfl rfl ?_ | refine je rfl rfl ?_ | refine jh rfl rfl ?_ | refine i_stb rfl ?_ | refine i_alloc rfl ?_ | refine i_box rfl rfl ?_ | refine i_nv rfl ?_)
      rw [hr1]
      repeat (first | refine i_len rfl ?_ | refine i_s rfl ?_ | refine i_lenm rfl rfl rfl ?_ | refine sw ?_ | refine i_s0 rfl ?_ | refine i_gt rfl ?_ | refine i_gf rfl ?_ | refine i_gd rfl ?_ | refine c_t rfl ?_ | refine c_f rfl ?_ | refine jc rfl ?_ | refine ja rfl rfl ?_ | refine jb rfl rfl ?_ | refine jg rfl rfl ?_ | refine jf rfl rfl ?_ | refine jd rfl rfl ?_ | refine je rfl rfl ?_ | refine jh rfl rfl ?_ | refine i_stb rfl ?_ | refine i_alloc rfl ?_ | refine i_box rfl rfl ?_ | refine i_nv rfl ?_)
      rw [hr2]
      repeat (first | refine i_len rfl ?_ | refine i_s rfl ?_ | refine i_lenm rfl rfl rfl ?_ | refine sw ?_ | refine i_s0 rfl ?_ | refine i_gt rfl ?_ | refine i_gf rfl ?_ | refine i_gd rfl ?_ | refine c_t rfl ?_ | refine c_f rfl ?_ | refine jc rfl ?_ | refine ja rfl rfl ?_ | refine jb rfl rfl ?_ | refine jg rfl rfl ?_ | refine jf rfl rfl ?_ | refine jd rfl rfl ?_ | refine je rfl rfl ?_ | refine jh rfl rfl ?_ | refine i_stb rfl ?_ | refine i_alloc rfl ?_ | refine i_box rfl rfl ?_ | refine i_nv rfl ?_)
      exact e_for hlt trivial ft
  · repeat (first | refine i_len rfl ?_ | refine i_s rfl ?_ | refine i_lenm rfl rfl rfl ?_ | refine sw ?_ | refine i_s0 rfl ?_ | refine i_gt rfl ?_ | refine i_gf rfl ?_ | refine i_gd rfl ?_ | refine c_t rfl ?_ | refine c_f rfl ?_ | refine jc rfl ?_ | refine ja rfl rfl ?_ | refine jb rfl rfl ?_ | refine jg rfl rfl ?_ | refine jf rfl rfl ?_ | refine jd rfl rfl ?_ | refine je rfl rfl ?_ | refine jh rfl rfl ?_ | refine i_stb rfl ?_ | refine i_alloc rfl ?_ | refine i_box rfl rfl ?_ | refine i_nv rfl ?_)
    exact e_ret ⟨rfl, _, rfl, rfl⟩
def vsV (w : Wd) (T : List (W32 × Int)) : V := .cptr .p (.agg [.cptr .p (wdR w) 0, .mps .u32 (T.map fun p => toI p.1) (T.map fun p => i64V p.2)]) 0
theorem tab_get (s : W32) : ∀ T : List (W32 × Int), mres false (.int .i64 0) (mgetv (T.map fun p => toI p.1) (T.map fun p => i64V p.2) (s.toNat : Int)) = .int .i64 (tabV T s)
  | [] => rfl
  | p :: r => by
    rw [List.map_cons, List.map_cons, mgetv_cons]
    unfold tabV
    rw [List.find?_cons]
    by_cases c : p.1 = s
    · rw [if_pos (show toI p.1 = (s.toNat : Int) by rw [c]; rfl)]
      have : (p.1 == s) = true := by simpa using c
      rw [this]
      rfl
    · rw [if_neg (show ¬ toI p.1 = (s.toNat : Int) from fun e => c (toI_inj e))]
      have : (p.1 == s) = false := by simpa using c
      rw [this]
      exact tab_get s r
def c_lowerbound_newValues : Cmd :=
 (qS [qx 2 1344132 4 0, qq 4 (.mov (.c (.nilptr)))]
 (qS [qL 8 4 2, qk 9 29 [8], qq 10 (.mkMap 1344640 .u32), qq 11 (.build [.nilptr, .nilmp] [(0 , 1 , .t 9), (1 , 1 , .t 10)]), qx 12 1344770 2 11, qm 5 12]
 (qT (qS [qm 13 1, qn 14 13, qc 15 0]
 (.block 0 (.loop (qS [qu 16 .lss [] 15 14]
 (qT (.cond (.t 16) .skip (.exit 0))
 (qT (.block 1 (qS [qi 17 2 13 15, qL 18 2 17, qq 7 (.alloc 1344450 (.agg [.sl .nil [], .int .i64 0])), qs 2 7 18]
 (.ops [qm 19 5, qq 20 (.nilck (.t 19)), qf 21 1 20, ql 22 1 21, qf 23 0 7, ql 24 1 23, qk 25 41 [24], qf 26 1 7, ql 27 1 26, .op none none (.mput (.t 22) (.t 25) (.t 27))])))
 (.ops [qv 28 .add [] 15 1, qm 15 28])))))))
 (.seq (.ops [qm 29 5, qm 4 29]) .ret))))
def r_lowerbound_newValues : List RVar := [.tmp 4]
def n_lowerbound_newValues : Nat := 30
theorem k_lowerbound_newValues : chkFn Go.Proofs.Try.prog 21 n_lowerbound_newValues r_lowerbound_newValues c_lowerbound_newValues = true := by kernel_rfl
theorem f_lowerbound_newValues (t : STask) (ht : WdT t) {T : List (W32 × Int)} (hnd : (T.map Prod.fst).Nodup) (hlen : T.length ≤ 2000) : Fc Go.Proofs.Try.prog 21 [skV t, .sl .p (T.map bE)] (vsV (wdOf t) T) := by
  have hO := f_space_Of t ht
  refine Fn.step mixed k_lowerbound_newValues ?_
  repeat' (first | refine i_len rfl ?_ | refine i_s rfl ?_ | refine i_lenm rfl rfl rfl ?_ | refine sw ?_ | refine i_s0 rfl ?_ | refine i_gt rfl ?_ | refine i_gf rfl ?_ | refine i_gd rfl ?_ | refine c_t rfl ?_ | refine c_f rfl ?_ | refine jc rfl ?_ | refine ja rfl rfl ?_ | refine jb rfl rfl ?_ | refine jg rfl rfl ?_ | refine jf rfl rfl ?_ | refine jd rfl rfl ?_ | refine je rfl rfl ?_ | refine jh rfl rfl ?_ | refine i_stb rfl ?_ | refine i_alloc rfl ?_ | refine i_box rfl rfl ?_ | refine i_nv rfl ?_ | (refine sp ?_ ?_ <;> try intro h) | refine sf rfl rfl hO ?_ | refine i_mkm rfl ?_)
  refine c_for T.length (fun k => [(1, .sl .p (T.map bE)), (5, .bptr 1344770 0), (13, .sl .p (T.map bE)), (14, .int .i64 T.length), (15, .int .i64 k)])
    (fun k => [(1344640, .mp .u32 ((T.take k).map fun p => toI p.1) ((T.take k).map fun p => i64V p.2)), (1344770, .box (.agg [.cptr .p (wdR (wdOf t)) 0, .mp 1344640]))]) (fun _ => True) trivial ft fun k hk _ => ?_
  repeat (first | refine i_len rfl ?_ | refine i_s rfl ?_ | refine i_lenm rfl rfl rfl ?_ | refine sw ?_ | refine i_s0 rfl ?_ | refine i_gt rfl ?_ | refine i_gf rfl ?_ | refine i_gd rfl ?_ | refine c_t rfl ?_ | refine c_f rfl ?_ | refine jc rfl ?_ | refine ja rfl rfl ?_ | refine jb rfl rfl ?_ | refine jg rfl rfl ?_ | refine jf rfl rfl ?_ | refine jd rfl rfl ?_ | refine je rfl rfl ?_ | refine jh rfl rfl ?_ | refine i_stb rfl ?_ | refine i_alloc rfl ?_ | refine i_box rfl rfl ?_ | refine i_nv rfl ?_)
  refine c_cond rfl (fun h => ?_) (fun h => ?_)
  · have hlt : k < T.length := by simpa using h
    obtain ⟨p, hp⟩ := get_some hlt
    clear h hO
    have hW := f_space_Word (facts p.1) (fun q hq => by have := factsTo_lt p.1 32 hq; omega) (by have := facts_len p.1; omega)
    rw [word_facts] at hW
    have hnew : toI p.1 ∉ (T.take k).map fun p => toI p.1 := fun hm => by
      obtain ⟨q, hq, e⟩ := List.mem_map.1 hm
      have e2 := toI_inj e
      rw [← List.take_append_drop (k + 1) T, take_succ_get hp, List.append_assoc, List.map_append, List.map_append] at hnd
      exact (List.nodup_append.1 hnd).2.2 q.1 (List.mem_map.2 ⟨q, hq, rfl⟩) p.1 (by simp) e2
    have hset : msetB .u32 ((T.take k).map fun p => toI p.1) ((T.take k).map fun p => i64V p.2) (p.1.toNat : Int) (.int .i64 p.2) = .mp .u32 ((T.take (k + 1)).map fun p => toI p.1) ((T.take (k + 1)).map fun p => i64V p.2) := by
      have hx : ((T.take k).map fun p => toI p.1).idxOf? (p.1.toNat : Int) = none := List.idxOf?_eq_none_iff.2 hnew
      simp only [msetB, hx, take_succ_get hp, List.map_append]
      rfl
    repeat' (first | refine i_len rfl ?_ | refine i_s rfl ?_ | refine i_lenm rfl rfl rfl ?_ | refine sw ?_ | refine i_s0 rfl ?_ | refine i_gt rfl ?_ | refine i_gf rfl ?_ | refine i_gd rfl ?_ | refine c_t rfl ?_ | refine c_f rfl ?_ | refine jc rfl ?_ | refine ja rfl rfl ?_ | refine jb rfl rfl ?_ | refine jg rfl rfl ?_ | refine jf rfl rfl ?_ | refine jd rfl rfl ?_ | refine je rfl rfl ?_ | refine jh rfl rfl ?_ | refine i_stb rfl ?_ | refine i_alloc rfl ?_ | refine i_box rfl rfl ?_ | refine i_nv rfl ?_ | (refine sp ?_ ?_ <;> try intro h) | refine sf rfl rfl hW ?_ | refine i_mput rfl rfl rfl rfl rfl hset ?_)
    exact e_for hlt trivial ft
  · have hge : k = T.length := by have : ¬ k < T.length := by simpa using h
                                  omega
    subst hge
    rw [List.take_length]
    repeat' (first | refine i_len rfl ?_ | refine i_s rfl ?_ | refine i_lenm rfl rfl rfl ?_ | refine sw ?_ | refine i_s0 rfl ?_ | refine i_gt rfl ?_ | refine i_gf rfl ?_ | refine i_gd rfl ?_ | refine c_t rfl ?_ | refine c_f rfl ?_ | refine jc rfl ?_ | refine ja rfl rfl ?_ | refine jb rfl rfl ?_ | refine jg rfl rfl ?_ | refine jf rfl rfl ?_ | refine jd rfl rfl ?_ | refine je rfl rfl ?_ | refine jh rfl rfl ?_ | refine i_stb rfl ?_ | refine i_alloc rfl ?_ | refine i_box rfl rfl ?_ | refine i_nv rfl ?_ | (refine sp ?_ ?_ <;> try intro h) | fail)
    exact e_ret ⟨rfl, _, rfl, rfl⟩
def c_lowerbound_values_least : Cmd :=
 (qS [qx 2 2816129 1 0, qc 4 0]
 (qT (qS [ql 7 1 2, qq 8 (.nilck (.t 7)), qf 9 0 8, ql 10 1 9, qm 11 1, qk 12 35 [10, 11]]
 (.cond (.t 12) (.seq (.ops [qc 4 0]) .ret) .skip))
 (qS [qq 5 (.alloc 2816321 (.int .i64 0)), .op none none (.store 1 (.t 5) (.c (.int .i64 1000000000)))]
 (qT (qS [ql 13 1 2, qq 14 (.nilck (.t 13)), qf 15 0 14, ql 16 1 15, qm 17 1, qk 18 37 [16, 17]]
 (.block 0 (.rangeF [] (.t 18) [19] (.ops [qq 6 (.alloc 2816387 (.agg [.int .i64 0, .int .i64 0, .int .u32 0])), qs 3 6 19]) (.block 1 (.ops [ql 20 1 5, qf 21 1 6, ql 22 1 21, ql 23 1 2, qq 24 (.nilck (.t 23)), qf 25 1 24, ql 26 1 25, qf 27 2 6, ql 28 1 27, qq 29 (.mget false (.int .i64 0) (.t 26) (.t 28)), qu 30 .add [] 22 29, qq 31 (.min (.t 20) (.t 30)), qs 1 5 31])))))
 (.seq (.ops [ql 32 1 5, qm 4 32]) .ret)))))
def r_lowerbound_values_least : List RVar := [.tmp 4]
def n_lowerbound_values_least : Nat := 33
theorem k_lowerbound_values_least : chkFn Go.Proofs.Try.prog 44 n_lowerbound_values_least r_lowerbound_values_least c_lowerbound_values_least = true := by kernel_rfl
abbrev lS (w : Wd) (T : List (W32 × Int)) (n : Int) : List (Nat × Blk) := [(2816129, .box (vsV w T)), (2816321, .box (.int .i64 n))]
def lI (w : Wd) (T : List (W32 × Int)) (D : W32 → Int) (s : W32) (rem : List (Nat × Int × W32)) (x : RG Unit) : Prop := x.2.2 = none ∧ ∃ n, x.1 = stOf (lS w T n) ∧ rem.foldl (minS D) n = (w.steps s).foldl (minS D) INF ∧ ∀ e ∈ rem, e ∈ w.steps s
theorem f_lowerbound_least (w : Wd) (hc : CostOk w) (hol : w.ops.length ≤ 1000000) (T : List (W32 × Int)) (D : W32 → Int) (hr : ∀ s, 0 ≤ D s ∧ D s ≤ INF) (s : W32) (hV : ∀ e ∈ w.steps s, tabV T e.2.2 = D e.2.2) :
    Fc Go.Proofs.Try.prog 44 [vsV w T, u32V s] (.int .i64 (leastF w D s)) := by
  have hG := f_space_Words_Goal w s
  have hS := f_space_Words_Steps w s
  refine Fn.step mixed k_lowerbound_values_least ?_
  unfold leastF
  by_cases hg : w.isGoal s = true
  · rw [hg] at hG
    rw [if_pos hg]
    repeat' (first | refine i_len rfl ?_ | refine i_s rfl ?_ | refine i_lenm rfl rfl rfl ?_ | refine sw ?_ | refine i_s0 rfl ?_ | refine i_gt rfl ?_ | refine i_gf rfl ?_ | refine i_gd rfl ?_ | refine c_t rfl ?_ | refine c_f rfl ?_ | refine jc rfl ?_ | refine ja rfl rfl ?_ | refine jb rfl rfl ?_ | refine jg rfl rfl ?_ | refine jf rfl rfl ?_ | refine jd rfl rfl ?_ | refine je rfl rfl ?_ | refine jh rfl rfl ?_ | refine i_stb rfl ?_ | refine i_alloc rfl ?_ | refine i_box rfl rfl ?_ | refine i_nv rfl ?_ | (refine sp ?_ ?_ <;> try intro h) | refine sf rfl rfl hG ?_ | fail)
    exact e_ret ⟨rfl, _, rfl, rfl⟩
  · rw [Bool.eq_false_iff.2 hg] at hG
    rw [if_neg hg]
    repeat (first | refine i_len rfl ?_ | refine i_s rfl ?_ | refine i_lenm rfl rfl rfl ?_ | refine sw ?_ | refine i_s0 rfl ?_ | refine i_gt rfl ?_ | refine i_gf rfl ?_ | refine i_gd rfl ?_ | refine c_t rfl ?_ | refine c_f rfl ?_ | refine jc rfl ?_ | refine ja rfl rfl ?_ | refine jb rfl rfl ?_ | refine jg rfl rfl ?_ | refine jf rfl rfl ?_ | refine jd rfl rfl ?_ | refine je rfl rfl ?_ | refine jh rfl rfl ?_ | refine i_stb rfl ?_ | refine i_alloc rfl ?_ | refine i_box rfl rfl ?_ | refine i_nv rfl ?_ | refine sf rfl rfl hG ?_ | refine sf rfl rfl hS ?_)
    refine c_rangeS [(2, .bptr 2816129 0), (5, .bptr 2816321 0)] (lS w T INF) [2816129, 2816321] [] (lS w T INF) rfl ⟨⟨rfl, rfl, trivial⟩, ⟨rfl, rfl, trivial⟩, rfl⟩ rfl rfl rfl rfl ?_
    refine Cc_mono ?_ (ct_Steps_1 w s (by omega) _ (lI w T D s []) (YL_inv (lI w T D s) ?_ (fun s h => h) (w.steps s) _ ⟨rfl, INF, rfl, rfl, fun e h => h⟩))
    · rintro v σ' x ⟨rfl, hx, n, hσ2, hn, _⟩
      obtain ⟨σx, gx, ox⟩ := x
      simp only at hx hσ2
      subst hx hσ2
      refine ⟨rfl, ?_⟩
      have hn2 : n = (w.steps s).foldl (minS D) INF := hn
      show WE _ _ _ _ _ .normal _ _ _
      repeat (first | refine i_len rfl ?_ | refine i_s rfl ?_ | refine i_lenm rfl rfl rfl ?_ | refine sw ?_ | refine i_s0 rfl ?_ | refine i_gt rfl ?_ | refine i_gf rfl ?_ | refine i_gd rfl ?_ | refine c_t rfl ?_ | refine c_f rfl ?_ | refine jc rfl ?_ | refine ja rfl rfl ?_ | refine jb rfl rfl ?_ | refine jg rfl rfl ?_ | refine jf rfl rfl ?_ | refine jd rfl rfl ?_ | refine je rfl rfl ?_ | refine jh rfl rfl ?_ | refine i_stb rfl ?_ | refine i_alloc rfl ?_ | refine i_box rfl rfl ?_ | refine i_nv rfl ?_)
      exact e_ret ⟨rfl, _, rfl, by rw [← hn2]; rfl⟩
    · intro e r x hx K hk
      obtain ⟨σx, gx, ox⟩ := x
      obtain ⟨hx, n, hσ2, hn, hmem⟩ := hx
      simp only at hx hσ2
      subst hx hσ2
      have hest := hmem e (by simp)
      have hcc := step_cost hc hest
      have hDr := hr e.2.2
      have hDi : D e.2.2 ≤ 1000000000 := hDr.2
      have hget : mres false (.int .i64 0) (mgetv (T.map fun p => toI p.1) (T.map fun p => i64V p.2) (e.2.2.toNat : Int)) = .int .i64 (D e.2.2) := by rw [tab_get, hV e hest]
      refine rh_intro noH_mono rfl ?_
      repeat (first | refine i_len rfl ?_ | refine i_s rfl ?_ | refine i_lenm rfl rfl rfl ?_ | refine sw ?_ | refine i_s0 rfl ?_ | refine i_gt rfl ?_ | refine i_gf rfl ?_ | refine i_gd rfl ?_ | refine c_t rfl ?_ | refine c_f rfl ?_ | refine jc rfl ?_ | refine ja rfl rfl ?_ | refine jb rfl rfl ?_ | refine jg rfl rfl ?_ | refine jf rfl rfl ?_ | refine jd rfl rfl ?_ | refine je rfl rfl ?_ | refine jh rfl rfl ?_ | refine i_stb rfl ?_ | refine i_alloc rfl ?_ | refine i_box rfl rfl ?_ | refine i_nv rfl ?_)
      refine e_end ?_
      show WC _ _ _ _ [] _ _ _ _
      repeat (first | refine i_len rfl ?_ | refine i_s rfl ?_ | refine i_lenm rfl rfl rfl ?_ | refine sw ?_ | refine i_s0 rfl ?_ | refine i_gt rfl ?_ | refine i_gf rfl ?_ | refine i_gd rfl ?_ | refine c_t rfl ?_ | refine c_f rfl ?_ | refine jc rfl ?_ | refine ja rfl rfl ?_ | refine jb rfl rfl ?_ | refine jg rfl rfl ?_ | refine jf rfl rfl ?_ | refine jd rfl rfl ?_ | refine je rfl rfl ?_ | refine jh rfl rfl ?_ | refine i_stb rfl ?_ | refine i_alloc rfl ?_ | refine i_box rfl rfl ?_ | refine i_nv rfl ?_)
      refine i_mg rfl rfl rfl hget ?_
      repeat (first | refine i_len rfl ?_ | refine i_s rfl ?_ | refine i_lenm rfl rfl rfl ?_ | refine sw ?_ | refine i_s0 rfl ?_ | refine i_gt rfl ?_ | refine i_gf rfl ?_ | refine i_gd rfl ?_ | refine c_t rfl ?_ | refine c_f rfl ?_ | refine jc rfl ?_ | refine ja rfl rfl ?_ | refine jb rfl rfl ?_ | refine jg rfl rfl ?_ | refine jf rfl rfl ?_ | refine jd rfl rfl ?_ | refine je rfl rfl ?_ | refine jh rfl rfl ?_ | refine i_stb rfl ?_ | refine i_alloc rfl ?_ | refine i_box rfl rfl ?_ | refine i_nv rfl ?_)
      refine i_min rfl rfl rfl ?_
      repeat (first | refine i_len rfl ?_ | refine i_s rfl ?_ | refine i_lenm rfl rfl rfl ?_ | refine sw ?_ | refine i_s0 rfl ?_ | refine i_gt rfl ?_ | refine i_gf rfl ?_ | refine i_gd rfl ?_ | refine c_t rfl ?_ | refine c_f rfl ?_ | refine jc rfl ?_ | refine ja rfl rfl ?_ | refine jb rfl rfl ?_ | refine jg rfl rfl ?_ | refine jf rfl rfl ?_ | refine jd rfl rfl ?_ | refine je rfl rfl ?_ | refine jh rfl rfl ?_ | refine i_stb rfl ?_ | refine i_alloc rfl ?_ | refine i_box rfl rfl ?_ | refine i_nv rfl ?_)
      refine e_end ?_
      refine rhq_n rfl rfl (hk _ ⟨rfl, minS D n e, rfl, hn, fun e' he' => hmem e' (by simp [he'])⟩)
def c_lowerbound_values_hold_1 : Cmd :=
 (qS [qx 2 2752130 2 0, qb 3 false]
 (.seq (.ops [qf 4 1 2, ql 5 1 4, ql 6 1 1, qf 7 0 2, ql 8 1 7, qk 9 41 [8], qk 10 44 [6, 9], qu 11 .gtr [] 5 10, qm 3 11]) .ret))
def r_lowerbound_values_hold_1 : List RVar := [.tmp 3]
def n_lowerbound_values_hold_1 : Nat := 12
theorem k_lowerbound_values_hold_1 : chkFn Go.Proofs.Try.prog 43 n_lowerbound_values_hold_1 r_lowerbound_values_hold_1 c_lowerbound_values_hold_1 = true := by kernel_rfl
theorem f_lowerbound_hold_1 (w : Wd) (hc : CostOk w) (hol : w.ops.length ≤ 1000000) (T : List (W32 × Int)) (D : W32 → Int) (hr : ∀ s, 0 ≤ D s ∧ D s ≤ INF) (p : W32 × Int) (hV : ∀ e ∈ w.steps p.1, tabV T e.2.2 = D e.2.2) :
    Fc Go.Proofs.Try.prog 43 [bE p, .cptr .p (vsV w T) 0] (.bool (decide (p.2 > leastF w D p.1))) := by
  have hW := f_space_Word (facts p.1) (fun q hq => by have := factsTo_lt p.1 32 hq; omega) (by have := facts_len p.1; omega)
  rw [word_facts] at hW
  have hL := f_lowerbound_least w hc hol T D hr p.1 hV
  refine Fn.step mixed k_lowerbound_values_hold_1 ?_
  repeat' (first | refine i_len rfl ?_ | refine i_s rfl ?_ | refine i_lenm rfl rfl rfl ?_ | refine sw ?_ | refine i_s0 rfl ?_ | refine i_gt rfl ?_ | refine i_gf rfl ?_ | refine i_gd rfl ?_ | refine c_t rfl ?_ | refine c_f rfl ?_ | refine jc rfl ?_ | refine ja rfl rfl ?_ | refine jb rfl rfl ?_ | refine jg rfl rfl ?_ | refine jf rfl rfl ?_ | refine jd rfl rfl ?_ | refine je rfl rfl ?_ | refine jh rfl rfl ?_ | refine i_stb rfl ?_ | refine i_alloc rfl ?_ | refine i_box rfl rfl ?_ | refine i_nv rfl ?_ | (refine sp ?_ ?_ <;> try intro h) | refine sf rfl rfl hW ?_ | refine sf rfl rfl hL ?_ | fail)
  exact e_ret ⟨rfl, _, rfl, rfl⟩
def c_lowerbound_values_hold : Cmd :=
 (qS [qx 2 1408129 1 0, qb 4 false]
 (.seq (.ops [qm 5 1, qq 6 (.mkfn 43 [.t 2]), qk 7 42 [5, 6], qq 8 (.not (.t 7)), qm 4 8]) .ret))
def r_lowerbound_values_hold : List RVar := [.tmp 4]
def n_lowerbound_values_hold : Nat := 9
theorem k_lowerbound_values_hold : chkFn Go.Proofs.Try.prog 22 n_lowerbound_values_hold r_lowerbound_values_hold c_lowerbound_values_hold = true := by kernel_rfl
theorem f_lowerbound_hold (w : Wd) (hc : CostOk w) (hol : w.ops.length ≤ 1000000) (T : List (W32 × Int)) (hlen : T.length ≤ 2000) (D : W32 → Int) (hr : ∀ s, 0 ≤ D s ∧ D s ≤ INF) (hV : ∀ p ∈ T, ∀ e ∈ w.steps p.1, tabV T e.2.2 = D e.2.2) :
    Fc Go.Proofs.Try.prog 22 [vsV w T, .sl .p (T.map bE)] (.bool (!T.any fun p => decide (p.2 > leastF w D p.1))) := by
  have hC := f_ContainsFunc_BoundEntry T (fun p => decide (p.2 > leastF w D p.1)) 43 [.cptr .p (vsV w T) 0] (by omega) (fun _ _ => rfl) rfl (fun p hp => f_lowerbound_hold_1 w hc hol T D hr p (hV p hp))
  refine Fn.step mixed k_lowerbound_values_hold ?_
  repeat' (first | refine i_len rfl ?_ | refine i_s rfl ?_ | refine i_lenm rfl rfl rfl ?_ | refine sw ?_ | refine i_s0 rfl ?_ | refine i_gt rfl ?_ | refine i_gf rfl ?_ | refine i_gd rfl ?_ | refine c_t rfl ?_ | refine c_f rfl ?_ | refine jc rfl ?_ | refine ja rfl rfl ?_ | refine jb rfl rfl ?_ | refine jg rfl rfl ?_ | refine jf rfl rfl ?_ | refine jd rfl rfl ?_ | refine je rfl rfl ?_ | refine jh rfl rfl ?_ | refine i_stb rfl ?_ | refine i_alloc rfl ?_ | refine i_box rfl rfl ?_ | refine i_nv rfl ?_ | (refine sp ?_ ?_ <;> try intro h) | refine sf rfl rfl hC ?_ | fail)
  exact e_ret ⟨rfl, _, rfl, rfl⟩
def c_lowerbound_Check : Cmd :=
 (qS [qx 2 448132 4 0, qc 4 0, qb 5 false, qq 6 (.alloc 448386 (.agg [.int .i64 0, .int .i64 0]))]
 (qT (qS [qL 9 4 2, qm 10 1, qk 11 20 [9, 10], qq 7 (.alloc 448450 (.agg [.int .i64 0, .int .i64 0])), qs 2 7 11]
 (qS [qL 12 2 7, qq 13 (.build [.int .i64 0, .int .i64 0] []), qq 14 (.bin .neq true [.i, .i] (.t 12) (.t 13))]
 (.cond (.t 14) (.seq (.ops [qL 15 2 7, qc 4 0, qb 5 false, qs 2 6 15]) .ret) .skip)))
 (qS [qL 16 4 2, qm 17 1, qk 18 21 [16, 17], qm 8 18]
 (qT (qS [qm 19 8, qm 20 1, qk 21 22 [19, 20], qq 22 (.not (.t 21))]
 (.cond (.t 22) (.seq (.ops [qq 23 (.build [.int .i64 0, .int .i64 0] []), qc 4 0, qb 5 false, qs 2 6 23]) .ret) .skip))
 (.seq (.ops [qm 24 8, qq 25 (.nilck (.t 24)), qf 26 1 25, ql 27 1 26, qm 28 8, qq 29 (.nilck (.t 28)), qf 30 0 29, ql 31 1 30, qk 32 16 [31], qq 33 (.mget false (.int .i64 0) (.t 27) (.t 32)), qq 34 (.build [.int .i64 0, .int .i64 0] []), qm 4 33, qb 5 true, qs 2 6 34]) .ret)))))
def r_lowerbound_Check : List RVar := [.tmp 4, .tmp 5, .cell true 2 6]
def n_lowerbound_Check : Nat := 35
theorem k_lowerbound_Check : chkFn Go.Proofs.Try.prog 7 n_lowerbound_Check r_lowerbound_Check c_lowerbound_Check = true := by kernel_rfl
theorem f_lowerbound_Check (t : STask) (ho : SkOk t) (hb : sFault t = okF) {T : List (W32 × Int)} (hT : TabOk t.facts T) (D : W32 → Int) (hr : ∀ s, 0 ≤ D s ∧ D s ≤ INF) (hV : ∀ p ∈ T, ∀ e ∈ (wdOf t).steps p.1, tabV T e.2.2 = D e.2.2) (hh : ∀ p ∈ T, p.2 ≤ leastF (wdOf t) D p.1) :
    Fc Go.Proofs.Try.prog 7 [skV t, .sl .p (T.map bE)] (.tup [.int .i64 (tabV T (wdOf t).start), .bool true, ftV okF]) := by
  have hv := sFault_ok hb
  have hol : (wdOf t).ops.length ≤ 1000000 := by unfold wdOf; rw [List.length_map]; have := hv.opl; omega
  have h1 := f_lowerbound_validate t ho hb hT
  have h2 := f_lowerbound_newValues t (wdT_of hv) hT.nd hT.len
  have h3 := f_lowerbound_hold (wdOf t) (wdOf_cost hv) hol T hT.len D hr hV
  have hany : (!T.any fun p => decide (p.2 > leastF (wdOf t) D p.1)) = true := by
    rw [Bool.not_eq_true', List.any_eq_false]
    intro p hp
    have := hh p hp
    simp only [decide_eq_true_eq]
    omega
  rw [hany] at h3
  have h4 := f_space_Words_Start (wdOf t)
  refine Fn.step mixed k_lowerbound_Check ?_
  repeat' (first | refine i_len rfl ?_ | refine i_s rfl ?_ | refine i_lenm rfl rfl rfl ?_ | refine sw ?_ | refine i_s0 rfl ?_ | refine i_gt rfl ?_ | refine i_gf rfl ?_ | refine i_gd rfl ?_ | refine c_t rfl ?_ | refine c_f rfl ?_ | refine jc rfl ?_ | refine ja rfl rfl ?_ | refine jb rfl rfl ?_ | refine jg rfl rfl ?_ | refine jf rfl rfl ?_ | refine jd rfl rfl ?_ | refine je rfl rfl ?_ | refine jh rfl rfl ?_ | refine i_stb rfl ?_ | refine i_alloc rfl ?_ | refine i_box rfl rfl ?_ | refine i_nv rfl ?_ | (refine sp ?_ ?_ <;> try intro h) | refine sf rfl rfl h1 ?_ | refine sf rfl rfl h2 ?_ | refine sf rfl rfl h3 ?_ | refine sf rfl rfl h4 ?_ | refine i_mg rfl rfl rfl (tab_get _ T) ?_)
  exact e_ret ⟨rfl, _, rfl, rfl⟩
def solF (t : STask) (plan : List Int) : Flt := if plFault t plan = okF then (if worksB t t.init plan = true then okF else ⟨11, -8⟩) else plFault t plan
theorem solF_ok {t : STask} {plan : List Int} (h : solF t plan = okF) : plFault t plan = okF ∧ worksB t t.init plan = true := by
  unfold solF at h
  split at h
  · rename_i h1
    split at h
    · rename_i h2; exact ⟨h1, h2⟩
    · cases h
  · rename_i h1; exact absurd h h1
theorem solF_code (t : STask) (plan : List Int) : (solF t plan).code = 0 ↔ solF t plan = okF := by
  unfold solF
  split
  · split <;> simp [okF]
  · exact plFault_iff t plan
def c_plans_solution : Cmd :=
 (qS [qx 2 576132 4 0, qq 4 (.alloc 576258 (.agg [.int .i64 0, .int .i64 0]))]
 (qT (qS [qL 6 4 2, qm 7 1, qk 8 23 [6, 7], qq 5 (.alloc 576322 (.agg [.int .i64 0, .int .i64 0])), qs 2 5 8]
 (qS [qL 9 2 5, qq 10 (.build [.int .i64 0, .int .i64 0] []), qq 11 (.bin .neq true [.i, .i] (.t 9) (.t 10))]
 (.cond (.t 11) (.seq (.ops [qL 12 2 5, qs 2 4 12]) .ret) .skip)))
 (qT (qS [qL 13 4 2, qf 14 1 2, ql 15 1 14, qm 16 1, qk 17 12 [13, 15, 16], qq 18 (.not (.t 17))]
 (.cond (.t 18) (.seq (.ops [qq 19 (.build [.int .i64 0, .int .i64 0] [(0 , 1 , .c (.int .i64 11)), (1 , 1 , .c (.int .i64 (-8)))]), qs 2 4 19]) .ret) .skip))
 (.seq (.ops [qq 20 (.build [.int .i64 0, .int .i64 0] []), qs 2 4 20]) .ret))))
def r_plans_solution : List RVar := [.cell true 2 4]
def n_plans_solution : Nat := 21
theorem k_plans_solution : chkFn Go.Proofs.Try.prog 9 n_plans_solution r_plans_solution c_plans_solution = true := by kernel_rfl
theorem f_plans_solution (t : STask) (ho : SkOk t) (plan : List Int) (hl : plan.length ≤ 140737488355328) : Fc Go.Proofs.Try.prog 9 [skV t, .sl .p (plan.map i64V)] (ftV (solF t plan)) := by
  have hF := f_strips_PlanFault t ho plan hl
  by_cases hb : plFault t plan = okF
  · obtain ⟨hv, h60, hr, _⟩ := plFault_ok hb
    have hW := f_strips_Works t hv t.init hv.init plan (by omega) hr
    rw [hb] at hF
    unfold solF
    rw [if_pos hb]
    cases hw : worksB t t.init plan
    all_goals
      rw [hw] at hW
      simp only [if_true, if_false, Bool.false_eq_true, reduceIte]
      refine Fn.step mixed k_plans_solution ?_
      repeat' (first | refine i_len rfl ?_ | refine i_s rfl ?_ | refine i_lenm rfl rfl rfl ?_ | refine sw ?_ | refine i_s0 rfl ?_ | refine i_gt rfl ?_ | refine i_gf rfl ?_ | refine i_gd rfl ?_ | refine c_t rfl ?_ | refine c_f rfl ?_ | refine jc rfl ?_ | refine ja rfl rfl ?_ | refine jb rfl rfl ?_ | refine jg rfl rfl ?_ | refine jf rfl rfl ?_ | refine jd rfl rfl ?_ | refine je rfl rfl ?_ | refine jh rfl rfl ?_ | refine i_stb rfl ?_ | refine i_alloc rfl ?_ | refine i_box rfl rfl ?_ | refine i_nv rfl ?_ | (refine sp ?_ ?_ <;> try intro h) | refine sf rfl rfl hF ?_ | refine sf rfl rfl hW ?_ | fail)
      exact e_ret ⟨rfl, _, rfl, rfl⟩
  · unfold solF
    rw [if_neg hb]
    refine Fn.step mixed k_plans_solution ?_
    repeat' (first | refine i_len rfl ?_ | refine i_s rfl ?_ | refine i_lenm rfl rfl rfl ?_ | refine sw ?_ | refine i_s0 rfl ?_ | refine i_gt rfl ?_ | refine i_gf rfl ?_ | refine i_gd rfl ?_ | refine c_t rfl ?_ | refine c_f rfl ?_ | refine jc rfl ?_ | refine ja rfl rfl ?_ | refine jb rfl rfl ?_ | refine jg rfl rfl ?_ | refine jf rfl rfl ?_ | refine jd rfl rfl ?_ | refine je rfl rfl ?_ | refine jh rfl rfl ?_ | refine i_stb rfl ?_ | refine i_alloc rfl ?_ | refine i_box rfl rfl ?_ | refine i_nv rfl ?_ | (refine sp ?_ ?_ <;> try intro h) | refine sf rfl rfl hF ?_ | fail)
    · exact e_ret ⟨rfl, _, rfl, rfl⟩
    all_goals exact absurd (eq_ok (by assumption)) hb
def c_Clone2 : Cmd :=
 (qS [qq 2 (.mov (.c (.sl .nil [])))]
 (qT (qS [qm 3 0, qq 4 (.isnil false (.t 3))]
 (.cond (.t 4) (.seq (.ops [qq 2 (.newArr 640321)]) .ret) .skip))
 (.seq (.ops [qq 5 (.bslA 640321 1 []), qm 6 0, qq 7 (.append 1 8 3 (.t 5) (.t 6)), qm 2 7]) .ret)))
def r_Clone2 : List RVar := [.tmp 2]
def n_Clone2 : Nat := 8
theorem k_Clone2 : chkFn Go.Proofs.Try.prog 10 n_Clone2 r_Clone2 c_Clone2 = true := by kernel_rfl
theorem ct_Clone1 {G : Type} {H : HT G} (s : List Int) (hl : s.length ≤ 17592186044416) (σ : Store) (g : G) (h1 : σ 640321 = .unused) (hp : ∀ nm, σ nm ≠ .unused → nm ∈ [640321]) :
    Cc Go.Proofs.Try.prog H 10 [.sl .p (s.map i64V)] [640321] σ g fun r σ' g' => (∃ gen, r = .msl 640321 gen 0 s.length ∧ σ' = stOf [(640321, .arr gen (s.map i64V))]) ∧ g' = g := by
  refine CT.step _ mixed k_Clone2 hp fun hM => ?_
  repeat (first | refine i_len rfl ?_ | refine i_s rfl ?_ | refine i_lenm rfl rfl rfl ?_ | refine sw ?_ | refine i_s0 rfl ?_ | refine i_gt rfl ?_ | refine i_gf rfl ?_ | refine i_gd rfl ?_ | refine c_t rfl ?_ | refine c_f rfl ?_ | refine jc rfl ?_ | refine ja rfl rfl ?_ | refine jb rfl rfl ?_ | refine jg rfl rfl ?_ | refine jf rfl rfl ?_ | refine jd rfl rfl ?_ | refine je rfl rfl ?_ | refine jh rfl rfl ?_ | refine i_stb rfl ?_ | refine i_alloc rfl ?_ | refine i_box rfl rfl ?_ | refine i_nv rfl ?_)
  refine i_isnil rfl fun b hb => ?_
  repeat (first | refine i_len rfl ?_ | refine i_s rfl ?_ | refine i_lenm rfl rfl rfl ?_ | refine sw ?_ | refine i_s0 rfl ?_ | refine i_gt rfl ?_ | refine i_gf rfl ?_ | refine i_gd rfl ?_ | refine c_t rfl ?_ | refine c_f rfl ?_ | refine jc rfl ?_ | refine ja rfl rfl ?_ | refine jb rfl rfl ?_ | refine jg rfl rfl ?_ | refine jf rfl rfl ?_ | refine jd rfl rfl ?_ | refine je rfl rfl ?_ | refine jh rfl rfl ?_ | refine i_stb rfl ?_ | refine i_alloc rfl ?_ | refine i_box rfl rfl ?_ | refine i_nv rfl ?_)
  refine c_cond rfl (fun h => ?_) (fun h => ?_)
  · have e : s = [] := by simpa using hb (by simpa using h)
    subst e
    repeat (first | refine i_len rfl ?_ | refine i_s rfl ?_ | refine i_lenm rfl rfl rfl ?_ | refine sw ?_ | refine i_s0 rfl ?_ | refine i_gt rfl ?_ | refine i_gf rfl ?_ | refine i_gd rfl ?_ | refine c_t rfl ?_ | refine c_f rfl ?_ | refine jc rfl ?_ | refine ja rfl rfl ?_ | refine jb rfl rfl ?_ | refine jg rfl rfl ?_ | refine jf rfl rfl ?_ | refine jd rfl rfl ?_ | refine je rfl rfl ?_ | refine jh rfl rfl ?_ | refine i_stb rfl ?_ | refine i_alloc rfl ?_ | refine i_box rfl rfl ?_ | refine i_nv rfl ?_)
    refine i_na h1 ?_
    repeat (first | refine i_len rfl ?_ | refine i_s rfl ?_ | refine i_lenm rfl rfl rfl ?_ | refine sw ?_ | refine i_s0 rfl ?_ | refine i_gt rfl ?_ | refine i_gf rfl ?_ | refine i_gd rfl ?_ | refine c_t rfl ?_ | refine c_f rfl ?_ | refine jc rfl ?_ | refine ja rfl rfl ?_ | refine jb rfl rfl ?_ | refine jg rfl rfl ?_ | refine jf rfl rfl ?_ | refine jd rfl rfl ?_ | refine je rfl rfl ?_ | refine jh rfl rfl ?_ | refine i_stb rfl ?_ | refine i_alloc rfl ?_ | refine i_box rfl rfl ?_ | refine i_nv rfl ?_)
    exact e_ret ⟨rfl, _, rfl, rfl, rfl, ⟨0, rfl, restr_stOf _ _⟩, rfl⟩
  · repeat (first | refine i_len rfl ?_ | refine i_s rfl ?_ | refine i_lenm rfl rfl rfl ?_ | refine sw ?_ | refine i_s0 rfl ?_ | refine i_gt rfl ?_ | refine i_gf rfl ?_ | refine i_gd rfl ?_ | refine c_t rfl ?_ | refine c_f rfl ?_ | refine jc rfl ?_ | refine ja rfl rfl ?_ | refine jb rfl rfl ?_ | refine jg rfl rfl ?_ | refine jf rfl rfl ?_ | refine jd rfl rfl ?_ | refine je rfl rfl ?_ | refine jh rfl rfl ?_ | refine i_stb rfl ?_ | refine i_alloc rfl ?_ | refine i_box rfl rfl ?_ | refine i_nv rfl ?_)
    refine i_bsla h1 rfl rfl rfl ?_
    repeat (first | refine i_len rfl ?_ | refine i_s rfl ?_ | refine i_lenm rfl rfl rfl ?_ | refine sw ?_ | refine i_s0 rfl ?_ | refine i_gt rfl ?_ | refine i_gf rfl ?_ | refine i_gd rfl ?_ | refine c_t rfl ?_ | refine c_f rfl ?_ | refine jc rfl ?_ | refine ja rfl rfl ?_ | refine jb rfl rfl ?_ | refine jg rfl rfl ?_ | refine jf rfl rfl ?_ | refine jd rfl rfl ?_ | refine je rfl rfl ?_ | refine jh rfl rfl ?_ | refine i_stb rfl ?_ | refine i_alloc rfl ?_ | refine i_box rfl rfl ?_ | refine i_nv rfl ?_)
    refine i_appmM (l := []) (f := i64V) s rfl rfl rfl rfl rfl (fun c hc => ⟨rfl, rfl⟩) (by simp; omega) (by simp; omega) ?_
    repeat (first | refine i_len rfl ?_ | refine i_s rfl ?_ | refine i_lenm rfl rfl rfl ?_ | refine sw ?_ | refine i_s0 rfl ?_ | refine i_gt rfl ?_ | refine i_gf rfl ?_ | refine i_gd rfl ?_ | refine c_t rfl ?_ | refine c_f rfl ?_ | refine jc rfl ?_ | refine ja rfl rfl ?_ | refine jb rfl rfl ?_ | refine jg rfl rfl ?_ | refine jf rfl rfl ?_ | refine jd rfl rfl ?_ | refine je rfl rfl ?_ | refine jh rfl rfl ?_ | refine i_stb rfl ?_ | refine i_alloc rfl ?_ | refine i_box rfl rfl ?_ | refine i_nv rfl ?_)
    refine e_ret ⟨rfl, _, rfl, rfl, rfl, ⟨1, rfl, ?_⟩, rfl⟩
    rw [restr_stOf]; rfl
def c_RunB : Cmd :=
 (qS [qx 3 1536196 4 0, qq 6 (.mov (.c (.sl .nil [])))]
 (qS [qm 10 1, qk 11 10 [10], qq 12 (.bslO 1536769 1 [.t 11]), qm 7 12]
 (.seq (qS [qm 13 2, qn 14 13, qc 15 0]
 (.block 0 (.loop (qS [qu 16 .lss [] 15 14]
 (qT (.cond (.t 16) .skip (.exit 0))
 (qT (.block 1 (qS [qi 17 1 13 15, ql 18 1 17, qm 9 18]
 (qT (qS [qL 19 4 3, qm 20 1, qm 21 9, qk 22 25 [19, 20, 21], qq 23 (.not (.t 22))]
 (.cond (.t 23) (.exit 0) .skip))
 (qS [qL 24 4 3, qm 25 1, qm 26 9, qk 27 26 [24, 25, 26], qm 1 27]
 (.ops [qm 28 7, qm 29 1, qq 30 (.bsl 1 [.t 29]), qq 31 (.append 1 24 22 (.t 28) (.t 30)), qm 7 31])))))
 (.ops [qv 32 .add [] 15 1, qm 15 32]))))))) (qT (.frz 7)
 (.seq (.ops [qm 33 7, qm 6 33]) .ret)))))
def r_RunB : List RVar := [.tmp 6]
def n_RunB : Nat := 34
theorem k_RunB : chkFn Go.Proofs.Try.prog 24 n_RunB r_RunB c_RunB = true := by kernel_rfl
theorem ct_Run (t : STask) (hv : SV t) (s : List Int) (hs : IsSet t.facts s) (plan : List Int) (hl : plan.length ≤ 1000000) (hp : ∀ x ∈ plan, 0 ≤ x ∧ x < t.ops.length) (gen : Nat) (σ : Store) (hσ : σ 640321 = .arr gen (plan.map i64V)) (hpn : ∀ nm, σ nm ≠ .unused → nm ∈ [640321]) :
    Cc Go.Proofs.Try.prog noH 24 [skV t, .sl .p (s.map i64V), .msl 640321 gen 0 plan.length] [640321] σ () fun v σ' g' => v = .sl .p ((s :: runT t s plan).map ssV) ∧ σ' = stOf [(640321, .arr gen (plan.map i64V))] ∧ g' = () := by
  have hsl := set_le hv hs
  have hC := f_slices_Clone_int s (by omega)
  refine CT.step _ mixed k_RunB hpn fun hM => ?_
  refine c_seq ?_
  refine c_ops ?_
  refine i_box (by by_cases h : σ 1536196 = .unused; exact h; have := hpn _ h; simp at this) rfl ?_
  refine i_s rfl ?_
  refine i_nil ?_
  refine e_seq ?_
  refine c_cut [(1, .sl .p (s.map i64V)), (2, .msl 640321 gen 0 plan.length), (3, .bptr 1536196 0)] [(640321, .arr gen (plan.map i64V)), (1536196, .box (skV t))] ⟨⟨rfl, rfl, rfl, trivial⟩, ⟨by rw [upt_ne _ _ (by decide)]; exact hσ, by rw [upt_self]; rfl, trivial⟩, rfl⟩ ?_
  repeat (first | refine i_len rfl ?_ | refine i_s rfl ?_ | refine i_lenm rfl rfl rfl ?_ | refine sw ?_ | refine i_s0 rfl ?_ | refine i_gt rfl ?_ | refine i_gf rfl ?_ | refine i_gd rfl ?_ | refine c_t rfl ?_ | refine c_f rfl ?_ | refine jc rfl ?_ | refine ja rfl rfl ?_ | refine jb rfl rfl ?_ | refine jg rfl rfl ?_ | refine jf rfl rfl ?_ | refine jd rfl rfl ?_ | refine je rfl rfl ?_ | refine jh rfl rfl ?_ | refine i_stb rfl ?_ | refine i_alloc rfl ?_ | refine i_box rfl rfl ?_ | refine i_nv rfl ?_ | refine sf rfl rfl hC ?_)
  refine i_bslo rfl rfl rfl rfl ?_
  repeat (first | refine i_len rfl ?_ | refine i_s rfl ?_ | refine i_lenm rfl rfl rfl ?_ | refine sw ?_ | refine i_s0 rfl ?_ | refine i_gt rfl ?_ | refine i_gf rfl ?_ | refine i_gd rfl ?_ | refine c_t rfl ?_ | refine c_f rfl ?_ | refine jc rfl ?_ | refine ja rfl rfl ?_ | refine jb rfl rfl ?_ | refine jg rfl rfl ?_ | refine jf rfl rfl ?_ | refine jd rfl rfl ?_ | refine je rfl rfl ?_ | refine jh rfl rfl ?_ | refine i_stb rfl ?_ | refine i_alloc rfl ?_ | refine i_box rfl rfl ?_ | refine i_nv rfl ?_)
  refine c_lp (ι := Nat × List Int × List (List Int)) (fun i => [(1, .sl .p (i.2.1.map i64V)), (3, .bptr 1536196 0), (7, .sl (.own 1536769) (i.2.2.map ssV)), (13, .msl 640321 gen 0 plan.length), (14, .int .i64 plan.length), (15, .int .i64 i.1)])
    (fun i => [(640321, .arr gen (plan.map i64V)), (1536196, .box (skV t)), (1536769, .vec i.2.2.length)])
    (fun i => i.1 ≤ plan.length ∧ i.2.2.length = i.1 + 1 ∧ IsSet t.facts i.2.1 ∧ i.2.2 ++ runT t i.2.1 (plan.drop i.1) = s :: runT t s plan) (fun i => plan.length - i.1) (0, s, [s]) ⟨Nat.zero_le _, rfl, hs, rfl⟩ ft fun i hi => ?_
  obtain ⟨k, u, acc⟩ := i
  obtain ⟨h1, h2, h3, h4⟩ := hi
  simp only at h1 h2 h3 h4
  have hul := set_le hv h3
  clear hC hs hsl hσ hpn
  repeat (first | refine i_len rfl ?_ | refine i_s rfl ?_ | refine i_lenm rfl rfl rfl ?_ | refine sw ?_ | refine i_s0 rfl ?_ | refine i_gt rfl ?_ | refine i_gf rfl ?_ | refine i_gd rfl ?_ | refine c_t rfl ?_ | refine c_f rfl ?_ | refine jc rfl ?_ | refine ja rfl rfl ?_ | refine jb rfl rfl ?_ | refine jg rfl rfl ?_ | refine jf rfl rfl ?_ | refine jd rfl rfl ?_ | refine je rfl rfl ?_ | refine jh rfl rfl ?_ | refine i_stb rfl ?_ | refine i_alloc rfl ?_ | refine i_box rfl rfl ?_ | refine i_nv rfl ?_)
  refine c_cond rfl (fun h => ?_) (fun h => ?_)
  · have hlt : k < plan.length := by simpa using h
    obtain ⟨x, hx⟩ := get_some hlt
    obtain ⟨x0, x1⟩ := hp x (mem_get hx)
    obtain ⟨o, hc⟩ := get_some (l := t.ops) (k := x.toNat) (by omega)
    have hoo := hv.op o (mem_get hc)
    have hC := f_strips_Can t u (by omega) h3.ss x x0 o hc (by have := set_le hv hoo.pre; omega) hoo.pre.ss
    have hN := f_strips_Next t u (by omega) x x0 o hc (by have := set_le hv hoo.add; omega) (by have := set_le hv hoo.del; omega) hoo.del.ss
    have ed : plan.drop k = x :: plan.drop (k + 1) := by
      obtain ⟨h5, h6⟩ := List.getElem?_eq_some_iff.1 hx
      rw [← h6]; exact List.drop_eq_getElem_cons hlt
    have hst := stepS_op (s := u) hc
    rw [ed] at h4
    simp only [runT, hst] at h4
    clear h
    repeat (first | refine i_len rfl ?_ | refine i_s rfl ?_ | refine i_lenm rfl rfl rfl ?_ | refine sw ?_ | refine i_s0 rfl ?_ | refine i_gt rfl ?_ | refine i_gf rfl ?_ | refine i_gd rfl ?_ | refine c_t rfl ?_ | refine c_f rfl ?_ | refine jc rfl ?_ | refine ja rfl rfl ?_ | refine jb rfl rfl ?_ | refine jg rfl rfl ?_ | refine jf rfl rfl ?_ | refine jd rfl rfl ?_ | refine je rfl rfl ?_ | refine jh rfl rfl ?_ | refine i_stb rfl ?_ | refine i_alloc rfl ?_ | refine i_box rfl rfl ?_ | refine i_nv rfl ?_)
    refine i_ima rfl rfl rfl rfl (by omega) (by omega) rfl ?_
    refine i_ldp (row := i64V x) rfl rfl rfl (by simp [hx]) rfl ?_
    cases hi : inclB o.pre u with
    | true =>
      rw [hi] at hC
      rw [hi, if_pos rfl] at h4
      repeat (first | refine i_len rfl ?_ | refine i_s rfl ?_ | refine i_lenm rfl rfl rfl ?_ | refine sw ?_ | refine i_s0 rfl ?_ | refine i_gt rfl ?_ | refine i_gf rfl ?_ | refine i_gd rfl ?_ | refine c_t rfl ?_ | refine c_f rfl ?_ | refine jc rfl ?_ | refine ja rfl rfl ?_ | refine jb rfl rfl ?_ | refine jg rfl rfl ?_ | refine jf rfl rfl ?_ | refine jd rfl rfl ?_ | refine je rfl rfl ?_ | refine jh rfl rfl ?_ | refine i_stb rfl ?_ | refine i_alloc rfl ?_ | refine i_box rfl rfl ?_ | refine i_nv rfl ?_ | refine sf rfl rfl hC ?_ | refine sf rfl rfl hN ?_)
      refine i_appM (f := ssV) (c := updL u o.add o.del) rfl rfl rfl rfl rfl (by dsimp only; omega) (by dsimp only; omega) ?_
      repeat (first | refine i_len rfl ?_ | refine i_s rfl ?_ | refine i_lenm rfl rfl rfl ?_ | refine sw ?_ | refine i_s0 rfl ?_ | refine i_gt rfl ?_ | refine i_gf rfl ?_ | refine i_gd rfl ?_ | refine c_t rfl ?_ | refine c_f rfl ?_ | refine jc rfl ?_ | refine ja rfl rfl ?_ | refine jb rfl rfl ?_ | refine jg rfl rfl ?_ | refine jf rfl rfl ?_ | refine jd rfl rfl ?_ | refine je rfl rfl ?_ | refine jh rfl rfl ?_ | refine i_stb rfl ?_ | refine i_alloc rfl ?_ | refine i_box rfl rfl ?_ | refine i_nv rfl ?_)
      exact e_lp (k + 1, updL u o.add o.del, acc ++ [updL u o.add o.del]) ⟨hlt, by simp [h2], updL_set h3 hoo.add, by simpa using h4⟩ (by simp only; omega) ⟨⟨rfl, rfl, rfl, rfl, rfl, rfl, trivial⟩, ⟨rfl, rfl, by simp; rfl, trivial⟩, rfl⟩
    | false =>
      rw [hi] at hC
      rw [hi, if_neg (by simp), List.append_nil] at h4
      repeat (first | refine i_len rfl ?_ | refine i_s rfl ?_ | refine i_lenm rfl rfl rfl ?_ | refine sw ?_ | refine i_s0 rfl ?_ | refine i_gt rfl ?_ | refine i_gf rfl ?_ | refine i_gd rfl ?_ | refine c_t rfl ?_ | refine c_f rfl ?_ | refine jc rfl ?_ | refine ja rfl rfl ?_ | refine jb rfl rfl ?_ | refine jg rfl rfl ?_ | refine jf rfl rfl ?_ | refine jd rfl rfl ?_ | refine je rfl rfl ?_ | refine jh rfl rfl ?_ | refine i_stb rfl ?_ | refine i_alloc rfl ?_ | refine i_box rfl rfl ?_ | refine i_nv rfl ?_ | refine sf rfl rfl hC ?_ | refine sf rfl rfl hN ?_)
      refine c_frzv rfl rfl ?_
      repeat (first | refine i_len rfl ?_ | refine i_s rfl ?_ | refine i_lenm rfl rfl rfl ?_ | refine sw ?_ | refine i_s0 rfl ?_ | refine i_gt rfl ?_ | refine i_gf rfl ?_ | refine i_gd rfl ?_ | refine c_t rfl ?_ | refine c_f rfl ?_ | refine jc rfl ?_ | refine ja rfl rfl ?_ | refine jb rfl rfl ?_ | refine jg rfl rfl ?_ | refine jf rfl rfl ?_ | refine jd rfl rfl ?_ | refine je rfl rfl ?_ | refine jh rfl rfl ?_ | refine i_stb rfl ?_ | refine i_alloc rfl ?_ | refine i_box rfl rfl ?_ | refine i_nv rfl ?_)
      refine e_ret ⟨rfl, _, rfl, rfl, rfl, by rw [← h4]; rfl, ?_, rfl⟩
      rw [restr_stOf]; rfl
  · have hge : k = plan.length := by have : ¬ k < plan.length := by simpa using h
                                     omega
    subst hge
    rw [List.drop_length] at h4
    simp only [runT, List.append_nil] at h4
    repeat (first | refine i_len rfl ?_ | refine i_s rfl ?_ | refine i_lenm rfl rfl rfl ?_ | refine sw ?_ | refine i_s0 rfl ?_ | refine i_gt rfl ?_ | refine i_gf rfl ?_ | refine i_gd rfl ?_ | refine c_t rfl ?_ | refine c_f rfl ?_ | refine jc rfl ?_ | refine ja rfl rfl ?_ | refine jb rfl rfl ?_ | refine jg rfl rfl ?_ | refine jf rfl rfl ?_ | refine jd rfl rfl ?_ | refine je rfl rfl ?_ | refine jh rfl rfl ?_ | refine i_stb rfl ?_ | refine i_alloc rfl ?_ | refine i_box rfl rfl ?_ | refine i_nv rfl ?_)
    refine c_frzv rfl rfl ?_
    repeat (first | refine i_len rfl ?_ | refine i_s rfl ?_ | refine i_lenm rfl rfl rfl ?_ | refine sw ?_ | refine i_s0 rfl ?_ | refine i_gt rfl ?_ | refine i_gf rfl ?_ | refine i_gd rfl ?_ | refine c_t rfl ?_ | refine c_f rfl ?_ | refine jc rfl ?_ | refine ja rfl rfl ?_ | refine jb rfl rfl ?_ | refine jg rfl rfl ?_ | refine jf rfl rfl ?_ | refine jd rfl rfl ?_ | refine je rfl rfl ?_ | refine jh rfl rfl ?_ | refine i_stb rfl ?_ | refine i_alloc rfl ?_ | refine i_box rfl rfl ?_ | refine i_nv rfl ?_)
    refine e_ret ⟨rfl, _, rfl, rfl, rfl, by rw [← h4]; rfl, ?_, rfl⟩
    rw [restr_stOf]; rfl
theorem i_dr {G : Type} {P : Program} {H : HT G} {pn : List Nat} {Q : Exit → Env → Store → G → Prop} {fs : List (Frm G)} {ρ : Env} {σ : Store} {g : G} {r : List GItem} {d : Nat}
    {α : Type} {f : α → V} {l : List α} {size : Nat} {t : Tag} {k2 : IntKind} {k : Nat} {x : Opd} {lo : Option Opd} (hx : ev ρ x = .sl t (l.map f)) (hlo : loV ρ lo = .int k2 (k : Int)) (h2 : k ≤ l.length) (hw : ∀ c, (f c).cells.length = size)
    (h : WI P H pn Q fs r (upd ρ d (.sl t ((l.drop k).map f))) σ g) : WI P H pn Q fs (.op (some d) none (.slice false size x lo none) :: r) ρ σ g := by
  refine i_sl hx hlo (by omega) (by simpa using h2) (.inr fun row hr => ?_) ?_
  · obtain ⟨c, _, rfl⟩ := List.mem_map.1 hr
    exact hw c
  · rw [Int.toNat_natCast, ← List.map_drop]
    exact h
theorem endS_pre {t : STask} {s a b e : List Int} (h : endS t s (a ++ b) = some e) : ∃ e1, endS t s a = some e1 := by
  rw [endS_append] at h
  cases h2 : endS t s a with
  | some e1 => exact ⟨e1, rfl⟩
  | none => rw [h2] at h; cases h
theorem endS_take {t : STask} {s p e : List Int} (h : endS t s p = some e) (i : Nat) : ∃ e1, endS t s (p.take i) = some e1 := by
  rw [← List.take_append_drop i p] at h
  exact endS_pre h
theorem works_end {t : STask} {s p : List Int} (h : worksB t s p = true) : ∃ e, endS t s p = some e := by
  unfold worksB at h
  cases he : endS t s p with
  | some e => exact ⟨e, rfl⟩
  | none => rw [he] at h; cases h
def c_plans_without : Cmd :=
 (qS [qx 3 704196 4 0, qq 6 (.mov (.c (.sl .nil [])))]
 (qS [qm 12 1, qm 13 2, qq 14 (.slice false 1 (.t 12) none (some (.t 13))), qq 15 (.call (.s [640321]) (.c (.fn 10 [])) [.t 14]), qm 7 15]
 (qS [qL 16 4 3, qf 17 1 3, ql 18 1 17, qm 19 7, qq 20 (.call (.s [640321]) (.c (.fn 24 [])) [.t 16, .t 18, .t 19]), qm 8 20]
 (qS [qm 21 8, qm 22 8, qn 23 22, qv 24 .sub [] 23 1, qi 25 1 21 24, ql 26 1 25, qm 9 26]
 (qT (qS [qm 27 1, qm 28 2, qv 29 .add [] 28 1, qq 30 (.slice false 1 (.t 27) (some (.t 29)) none), qn 31 30, qc 32 0]
 (.block 0 (.loop (qS [qu 33 .lss [] 32 31]
 (qT (.cond (.t 33) .skip (.exit 0))
 (qT (.block 1 (qS [qi 34 1 30 32, ql 35 1 34, qm 11 35]
 (qS [qL 36 4 3, qm 37 9, qm 38 11, qk 39 25 [36, 37, 38]]
 (.cond (.t 39) (.opsT (.node 3 4 (.leaf [0, 1, 2, 3, 4, 5, 6, 7, 8, 9]) (.leaf [0, 1, 2, 4, 3, 5, 6, 7, 8, 9])) [qm 40 7, qm 41 11, qq 42 (.bsl 1 [.t 41]), qq 43 (.append 1 8 3 (.t 40) (.t 42)), qL 44 4 3, qm 45 9, qm 46 11, qk 47 26 [44, 45, 46], qm 7 43, qm 9 47]) .skip))))
 (.ops [qv 48 .add [] 32 1, qm 32 48])))))))
 (.seq (.ops [qm 49 7, qm 6 49]) .ret))))))
def r_plans_without : List RVar := [.tmp 6]
def n_plans_without : Nat := 50
theorem k_plans_without : chkFn Go.Proofs.Try.prog 11 n_plans_without r_plans_without c_plans_without = true := by kernel_rfl
theorem f_plans_without (t : STask) (hv : SV t) (plan : List Int) (hl : plan.length ≤ 1000) (hp : ∀ x ∈ plan, 0 ≤ x ∧ x < t.ops.length) (i : Nat) (hi : i < plan.length) (e : List Int) (he : endS t t.init (plan.take i) = some e) :
    Fc Go.Proofs.Try.prog 11 [skV t, .sl .p (plan.map i64V), .int .i64 i] (.sl .p ((omitL t plan i).map i64V)) := by
  have heo : omitL t plan i = plan.take i ++ keepT t e (plan.drop (i + 1)) := by unfold omitL; rw [he]
  rw [heo]
  have hes := endS_set hv _ _ _ hv.init he
  have hlast := run_all he
  have htl : (plan.take i).length = i := by simp; omega
  have hL0 : (t.init :: runT t t.init (plan.take i)).length = i + 1 := by simp [hlast, htl]
  have hx0 := run_get t (plan.take i) t.init
  rw [he, htl] at hx0
  refine Fn.step mixed k_plans_without ?_
  repeat (first | refine i_len rfl ?_ | refine i_s rfl ?_ | refine i_lenm rfl rfl rfl ?_ | refine sw ?_ | refine i_s0 rfl ?_ | refine i_gt rfl ?_ | refine i_gf rfl ?_ | refine i_gd rfl ?_ | refine c_t rfl ?_ | refine c_f rfl ?_ | refine jc rfl ?_ | refine ja rfl rfl ?_ | refine jb rfl rfl ?_ | refine jg rfl rfl ?_ | refine jf rfl rfl ?_ | refine jd rfl rfl ?_ | refine je rfl rfl ?_ | refine jh rfl rfl ?_ | refine i_stb rfl ?_ | refine i_alloc rfl ?_ | refine i_box rfl rfl ?_ | refine i_nv rfl ?_)
  refine i_c rfl rfl rfl (ct_Clone1 (plan.take i) (by omega) _ _ rfl fun nm h => restr_mem nm h) ?_
  rintro _ _ _ ⟨⟨gen, rfl, rfl⟩, rfl⟩
  repeat (first | refine i_len rfl ?_ | refine i_s rfl ?_ | refine i_lenm rfl rfl rfl ?_ | refine sw ?_ | refine i_s0 rfl ?_ | refine i_gt rfl ?_ | refine i_gf rfl ?_ | refine i_gd rfl ?_ | refine c_t rfl ?_ | refine c_f rfl ?_ | refine jc rfl ?_ | refine ja rfl rfl ?_ | refine jb rfl rfl ?_ | refine jg rfl rfl ?_ | refine jf rfl rfl ?_ | refine jd rfl rfl ?_ | refine je rfl rfl ?_ | refine jh rfl rfl ?_ | refine i_stb rfl ?_ | refine i_alloc rfl ?_ | refine i_box rfl rfl ?_ | refine i_nv rfl ?_)
  refine i_c rfl rfl rfl (ct_Run t hv t.init hv.init (plan.take i) (by omega) (fun x hx => hp x (List.mem_of_mem_take hx)) gen _ rfl fun nm h => restr_mem nm h) ?_
  rintro _ _ _ ⟨rfl, rfl, rfl⟩
  generalize t.init :: runT t t.init (plan.take i) = L at *
  have hix : L[((L.length : Int) - 1).toNat]? = some e := by rw [hL0, show (((i + 1 : Nat) : Int) - 1).toNat = i from by omega]; exact hx0
  repeat (first | refine i_len rfl ?_ | refine i_s rfl ?_ | refine i_lenm rfl rfl rfl ?_ | refine sw ?_ | refine i_s0 rfl ?_ | refine i_gt rfl ?_ | refine i_gf rfl ?_ | refine i_gd rfl ?_ | refine c_t rfl ?_ | refine c_f rfl ?_ | refine jc rfl ?_ | refine ja rfl rfl ?_ | refine jb rfl rfl ?_ | refine jg rfl rfl ?_ | refine jf rfl rfl ?_ | refine jd rfl rfl ?_ | refine je rfl rfl ?_ | refine jh rfl rfl ?_ | refine i_stb rfl ?_ | refine i_alloc rfl ?_ | refine i_box rfl rfl ?_ | refine i_nv rfl ?_)
  refine i_dr (f := i64V) (l := plan) (k := i + 1) rfl rfl (by omega) (fun c => rfl) ?_
  repeat (first | refine i_len rfl ?_ | refine i_s rfl ?_ | refine i_lenm rfl rfl rfl ?_ | refine sw ?_ | refine i_s0 rfl ?_ | refine i_gt rfl ?_ | refine i_gf rfl ?_ | refine i_gd rfl ?_ | refine c_t rfl ?_ | refine c_f rfl ?_ | refine jc rfl ?_ | refine ja rfl rfl ?_ | refine jb rfl rfl ?_ | refine jg rfl rfl ?_ | refine jf rfl rfl ?_ | refine jd rfl rfl ?_ | refine je rfl rfl ?_ | refine jh rfl rfl ?_ | refine i_stb rfl ?_ | refine i_alloc rfl ?_ | refine i_box rfl rfl ?_ | refine i_nv rfl ?_)
  generalize hrest : plan.drop (i + 1) = rest at *
  have hrl : rest.length ≤ 1000 := by rw [← hrest]; simp; omega
  have hrp : ∀ x ∈ rest, 0 ≤ x ∧ x < t.ops.length := fun x hx => hp x (List.mem_of_mem_drop (hrest ▸ hx))
  generalize plan.take i = tk at *
  refine c_lp (ι := Nat × List Int × List Int) (fun p => [(3, .bptr 704196 0), (7, .msl 640321 (gen + p.2.2.length) 0 (tk ++ p.2.2).length), (9, .sl .p (p.2.1.map i64V)), (30, .sl .p (rest.map i64V)), (31, .int .i64 rest.length), (32, .int .i64 p.1)])
    (fun p => [(640321, .arr (gen + p.2.2.length) ((tk ++ p.2.2).map i64V)), (704196, .box (skV t))])
    (fun p => p.1 ≤ rest.length ∧ p.2.2.length ≤ p.1 ∧ IsSet t.facts p.2.1 ∧ p.2.2 ++ keepT t p.2.1 (rest.drop p.1) = keepT t e rest) (fun p => rest.length - p.1) (0, e, []) ⟨Nat.zero_le _, Nat.le_refl _, hes, rfl⟩ ⟨⟨rfl, by rw [List.append_nil]; rfl, rfl, rfl, rfl, rfl, trivial⟩, ⟨by rw [List.append_nil]; rfl, rfl, trivial⟩, rfl⟩ fun p hi => ?_
  obtain ⟨k, u, acc⟩ := p
  obtain ⟨h1, h2, h3, h4⟩ := hi
  simp only at h1 h2 h3 h4
  have hul := set_le hv h3
  clear hix hx0 hL0 hes he hlast heo
  repeat (first | refine i_len rfl ?_ | refine i_s rfl ?_ | refine i_lenm rfl rfl rfl ?_ | refine sw ?_ | refine i_s0 rfl ?_ | refine i_gt rfl ?_ | refine i_gf rfl ?_ | refine i_gd rfl ?_ | refine c_t rfl ?_ | refine c_f rfl ?_ | refine jc rfl ?_ | refine ja rfl rfl ?_ | refine jb rfl rfl ?_ | refine jg rfl rfl ?_ | refine jf rfl rfl ?_ | refine jd rfl rfl ?_ | refine je rfl rfl ?_ | refine jh rfl rfl ?_ | refine i_stb rfl ?_ | refine i_alloc rfl ?_ | refine i_box rfl rfl ?_ | refine i_nv rfl ?_)
  refine c_cond rfl (fun h => ?_) (fun h => ?_)
  · have hlt : k < rest.length := by simpa using h
    obtain ⟨x, hx⟩ := get_some hlt
    obtain ⟨x0, x1⟩ := hrp x (mem_get hx)
    obtain ⟨o, hc⟩ := get_some (l := t.ops) (k := x.toNat) (by omega)
    have hoo := hv.op o (mem_get hc)
    have hC := f_strips_Can t u (by omega) h3.ss x x0 o hc (by have := set_le hv hoo.pre; omega) hoo.pre.ss
    have hN := f_strips_Next t u (by omega) x x0 o hc (by have := set_le hv hoo.add; omega) (by have := set_le hv hoo.del; omega) hoo.del.ss
    have ed : rest.drop k = x :: rest.drop (k + 1) := by
      obtain ⟨h5, h6⟩ := List.getElem?_eq_some_iff.1 hx
      rw [← h6]; exact List.drop_eq_getElem_cons hlt
    have hst := stepS_op (s := u) hc
    rw [ed] at h4
    simp only [keepT, hst] at h4
    have hal : (tk ++ acc).length ≤ 2000 := by simp; omega
    clear h
    cases hin : inclB o.pre u with
    | true =>
      rw [hin] at hC
      rw [hin, if_pos rfl] at h4
      repeat (first | refine i_len rfl ?_ | refine i_s rfl ?_ | refine i_lenm rfl rfl rfl ?_ | refine sw ?_ | refine i_s0 rfl ?_ | refine i_gt rfl ?_ | refine i_gf rfl ?_ | refine i_gd rfl ?_ | refine c_t rfl ?_ | refine c_f rfl ?_ | refine jc rfl ?_ | refine ja rfl rfl ?_ | refine jb rfl rfl ?_ | refine jg rfl rfl ?_ | refine jf rfl rfl ?_ | refine jd rfl rfl ?_ | refine je rfl rfl ?_ | refine jh rfl rfl ?_ | refine i_stb rfl ?_ | refine i_alloc rfl ?_ | refine i_box rfl rfl ?_ | refine i_nv rfl ?_ | refine sf rfl rfl hC ?_)
      refine c_node ?_ ?_
      all_goals
        repeat (first | refine i_len rfl ?_ | refine i_s rfl ?_ | refine i_lenm rfl rfl rfl ?_ | refine sw ?_ | refine i_s0 rfl ?_ | refine i_gt rfl ?_ | refine i_gf rfl ?_ | refine i_gd rfl ?_ | refine c_t rfl ?_ | refine c_f rfl ?_ | refine jc rfl ?_ | refine ja rfl rfl ?_ | refine jb rfl rfl ?_ | refine jg rfl rfl ?_ | refine jf rfl rfl ?_ | refine jd rfl rfl ?_ | refine je rfl rfl ?_ | refine jh rfl rfl ?_ | refine i_stb rfl ?_ | refine i_alloc rfl ?_ | refine i_box rfl rfl ?_ | refine i_nv rfl ?_ | refine sf rfl rfl hN ?_)
        refine i_appmM [x] rfl rfl rfl rfl rfl (fun c hc => ⟨rfl, rfl⟩) (by simp only [List.length_singleton]; omega) (by simp only [List.length_singleton]; omega) ?_
        repeat (first | refine i_len rfl ?_ | refine i_s rfl ?_ | refine i_lenm rfl rfl rfl ?_ | refine sw ?_ | refine i_s0 rfl ?_ | refine i_gt rfl ?_ | refine i_gf rfl ?_ | refine i_gd rfl ?_ | refine c_t rfl ?_ | refine c_f rfl ?_ | refine jc rfl ?_ | refine ja rfl rfl ?_ | refine jb rfl rfl ?_ | refine jg rfl rfl ?_ | refine jf rfl rfl ?_ | refine jd rfl rfl ?_ | refine je rfl rfl ?_ | refine jh rfl rfl ?_ | refine i_stb rfl ?_ | refine i_alloc rfl ?_ | refine i_box rfl rfl ?_ | refine i_nv rfl ?_ | refine sf rfl rfl hN ?_)
        refine e_lp (k + 1, updL u o.add o.del, acc ++ [x]) ⟨hlt, by simp; omega, updL_set h3 hoo.add, by simpa using h4⟩ (by simp only; omega) ⟨⟨rfl, ?_, rfl, rfl, rfl, rfl, trivial⟩, ⟨?_, rfl, trivial⟩, rfl⟩
        · simp only
          rw [← List.append_assoc, show (acc ++ [x]).length = acc.length + 1 from by simp]
          rfl
        · simp only
          rw [← List.append_assoc, show (acc ++ [x]).length = acc.length + 1 from by simp]
          rfl
    | false =>
      rw [hin] at hC
      rw [hin, if_neg (by simp)] at h4
      repeat (first | refine i_len rfl ?_ | refine i_s rfl ?_ | refine i_lenm rfl rfl rfl ?_ | refine sw ?_ | refine i_s0 rfl ?_ | refine i_gt rfl ?_ | refine i_gf rfl ?_ | refine i_gd rfl ?_ | refine c_t rfl ?_ | refine c_f rfl ?_ | refine jc rfl ?_ | refine ja rfl rfl ?_ | refine jb rfl rfl ?_ | refine jg rfl rfl ?_ | refine jf rfl rfl ?_ | refine jd rfl rfl ?_ | refine je rfl rfl ?_ | refine jh rfl rfl ?_ | refine i_stb rfl ?_ | refine i_alloc rfl ?_ | refine i_box rfl rfl ?_ | refine i_nv rfl ?_ | refine sf rfl rfl hC ?_)
      exact e_lp (k + 1, u, acc) ⟨hlt, by simp only; omega, h3, h4⟩ (by simp only; omega) ft
  · have hge : k = rest.length := by have : ¬ k < rest.length := by simpa using h
                                     omega
    subst hge
    rw [List.drop_length] at h4
    simp only [keepT, List.append_nil] at h4
    rw [← h4]
    repeat (first | refine i_len rfl ?_ | refine i_s rfl ?_ | refine i_lenm rfl rfl rfl ?_ | refine sw ?_ | refine i_s0 rfl ?_ | refine i_gt rfl ?_ | refine i_gf rfl ?_ | refine i_gd rfl ?_ | refine c_t rfl ?_ | refine c_f rfl ?_ | refine jc rfl ?_ | refine ja rfl rfl ?_ | refine jb rfl rfl ?_ | refine jg rfl rfl ?_ | refine jf rfl rfl ?_ | refine jd rfl rfl ?_ | refine je rfl rfl ?_ | refine jh rfl rfl ?_ | refine i_stb rfl ?_ | refine i_alloc rfl ?_ | refine i_box rfl rfl ?_ | refine i_nv rfl ?_)
    exact e_ret ⟨rfl, _, rfl, ((er_msl (i := 0) (len := (tk ++ acc).length) (n := 5) rfl).trans (msl_all rfl)).symm⟩
theorem sub_rng {a b : List Int} {n : Nat} (h : a.Sublist b) (hp : ∀ x ∈ b, 0 ≤ x ∧ x < n) : ∀ x ∈ a, 0 ≤ x ∧ x < n := fun x hx => hp x (h.subset hx)
def c_plans_Reduce : Cmd :=
 (qS [qx 2 256132 4 0, qq 4 (.mov (.c (.sl .nil []))), qq 5 (.alloc 256322 (.agg [.int .i64 0, .int .i64 0]))]
 (qT (qS [qL 10 4 2, qm 11 1, qk 12 9 [10, 11], qq 6 (.alloc 256386 (.agg [.int .i64 0, .int .i64 0])), qs 2 6 12]
 (qS [qL 13 2 6, qq 14 (.build [.int .i64 0, .int .i64 0] []), qq 15 (.bin .neq true [.i, .i] (.t 13) (.t 14))]
 (.cond (.t 15) (.seq (.ops [qL 16 2 6, qq 4 (.mov (.c (.sl .nil []))), qs 2 5 16]) .ret) .skip)))
 (qS [qm 17 1, qk 18 10 [17], qm 7 18]
 (qT (qS [qc 8 0]
 (.block 0 (.loop (qT (qS [qm 19 8, qm 20 7, qn 21 20, qu 22 .lss [] 19 21]
 (.cond (.t 22) .skip (.exit 0)))
 (.block 1 (qS [qL 23 4 2, qm 24 7, qm 25 8, qk 26 11 [23, 24, 25], qm 9 26]
 (qS [qL 27 4 2, qf 28 1 2, ql 29 1 28, qm 30 9, qk 31 12 [27, 29, 30]]
 (.cond (.t 31) (.ops [qm 32 9, qm 7 32]) (.ops [qm 33 8, qv 34 .add [] 33 1, qm 8 34])))))))))
 (.seq (.ops [qm 35 7, qq 36 (.build [.int .i64 0, .int .i64 0] []), qm 4 35, qs 2 5 36]) .ret)))))
def r_plans_Reduce : List RVar := [.tmp 4, .cell true 2 5]
def n_plans_Reduce : Nat := 37
theorem k_plans_Reduce : chkFn Go.Proofs.Try.prog 4 n_plans_Reduce r_plans_Reduce c_plans_Reduce = true := by kernel_rfl
theorem f_plans_Reduce_bad (t : STask) (ho : SkOk t) (plan : List Int) (hl : plan.length ≤ 140737488355328) (hb : solF t plan ≠ okF) : Fc Go.Proofs.Try.prog 4 [skV t, .sl .p (plan.map i64V)] (.tup [.sl .p [], ftV (solF t plan)]) := by
  refine Fn.step mixed k_plans_Reduce ?_
  repeat' (first | refine i_len rfl ?_ | refine i_s rfl ?_ | refine i_lenm rfl rfl rfl ?_ | refine sw ?_ | refine i_s0 rfl ?_ | refine i_gt rfl ?_ | refine i_gf rfl ?_ | refine i_gd rfl ?_ | refine c_t rfl ?_ | refine c_f rfl ?_ | refine jc rfl ?_ | refine ja rfl rfl ?_ | refine jb rfl rfl ?_ | refine jg rfl rfl ?_ | refine jf rfl rfl ?_ | refine jd rfl rfl ?_ | refine je rfl rfl ?_ | refine jh rfl rfl ?_ | refine i_stb rfl ?_ | refine i_alloc rfl ?_ | refine i_box rfl rfl ?_ | refine i_nv rfl ?_ | (refine sp ?_ ?_ <;> try intro h) | refine sf rfl rfl (f_plans_solution t ho plan hl) ?_ | fail)
  · exact e_ret ⟨rfl, _, rfl, rfl⟩
  all_goals exact absurd (eq_ok (by assumption)) hb
theorem f_plans_Reduce_ok (t : STask) (ho : SkOk t) (plan : List Int) (hb : solF t plan = okF) : Fc Go.Proofs.Try.prog 4 [skV t, .sl .p (plan.map i64V)] (.tup [.sl .p ((redL t plan 0).map i64V), ftV okF]) := by
  obtain ⟨hpf, hw⟩ := solF_ok hb
  obtain ⟨hv, h60, hr, _⟩ := plFault_ok hpf
  have hF := f_plans_solution t ho plan (by omega)
  rw [hb] at hF
  have hC := f_slices_Clone_int plan (by omega)
  refine Fn.step mixed k_plans_Reduce ?_
  repeat' (first | refine i_len rfl ?_ | refine i_s rfl ?_ | refine i_lenm rfl rfl rfl ?_ | refine sw ?_ | refine i_s0 rfl ?_ | refine i_gt rfl ?_ | refine i_gf rfl ?_ | refine i_gd rfl ?_ | refine c_t rfl ?_ | refine c_f rfl ?_ | refine jc rfl ?_ | refine ja rfl rfl ?_ | refine jb rfl rfl ?_ | refine jg rfl rfl ?_ | refine jf rfl rfl ?_ | refine jd rfl rfl ?_ | refine je rfl rfl ?_ | refine jh rfl rfl ?_ | refine i_stb rfl ?_ | refine i_alloc rfl ?_ | refine i_box rfl rfl ?_ | refine i_nv rfl ?_ | (refine sp ?_ ?_ <;> try intro h) | refine sf rfl rfl hF ?_ | refine sf rfl rfl hC ?_ | fail)
  refine c_lp (ι := List Int × Nat) (fun p => [(2, .bptr 256132 0), (5, .bptr 256322 0), (7, .sl .p (p.1.map i64V)), (8, .int .i64 p.2)])
    (fun p => [(256132, .box (skV t)), (256322, .box (ftV okF))])
    (fun p => p.1.length ≤ 60 ∧ (∀ x ∈ p.1, 0 ≤ x ∧ x < t.ops.length) ∧ worksB t t.init p.1 = true ∧ redL t p.1 p.2 = redL t plan 0) (fun p => p.1.length - p.2) (plan, 0) ⟨h60, hr, hw, rfl⟩ ft fun p hi => ?_
  obtain ⟨out, k⟩ := p
  obtain ⟨h2, h3, h4, h5⟩ := hi
  simp only at h2 h3 h4 h5
  clear hF hC
  repeat (first | refine i_len rfl ?_ | refine i_s rfl ?_ | refine i_lenm rfl rfl rfl ?_ | refine sw ?_ | refine i_s0 rfl ?_ | refine i_gt rfl ?_ | refine i_gf rfl ?_ | refine i_gd rfl ?_ | refine c_t rfl ?_ | refine c_f rfl ?_ | refine jc rfl ?_ | refine ja rfl rfl ?_ | refine jb rfl rfl ?_ | refine jg rfl rfl ?_ | refine jf rfl rfl ?_ | refine jd rfl rfl ?_ | refine je rfl rfl ?_ | refine jh rfl rfl ?_ | refine i_stb rfl ?_ | refine i_alloc rfl ?_ | refine i_box rfl rfl ?_ | refine i_nv rfl ?_)
  refine c_cond rfl (fun h => ?_) (fun h => ?_)
  · have hlt : k < out.length := by simpa using h
    obtain ⟨e, he⟩ := works_end h4
    obtain ⟨e1, he1⟩ := endS_take he k
    have hO := f_plans_without t hv out (by omega) h3 k hlt e1 he1
    have hsub := omitL_sub t hlt
    have hol := omitL_len t hlt
    have hor := sub_rng hsub h3
    have hW := f_strips_Works t hv t.init hv.init (omitL t out k) (by omega) hor
    clear h
    cases hw2 : worksB t t.init (omitL t out k) with
    | true =>
      rw [hw2] at hW
      rw [redL_cut hlt hw2] at h5
      repeat (first | refine i_len rfl ?_ | refine i_s rfl ?_ | refine i_lenm rfl rfl rfl ?_ | refine sw ?_ | refine i_s0 rfl ?_ | refine i_gt rfl ?_ | refine i_gf rfl ?_ | refine i_gd rfl ?_ | refine c_t rfl ?_ | refine c_f rfl ?_ | refine jc rfl ?_ | refine ja rfl rfl ?_ | refine jb rfl rfl ?_ | refine jg rfl rfl ?_ | refine jf rfl rfl ?_ | refine jd rfl rfl ?_ | refine je rfl rfl ?_ | refine jh rfl rfl ?_ | refine i_stb rfl ?_ | refine i_alloc rfl ?_ | refine i_box rfl rfl ?_ | refine i_nv rfl ?_ | refine sf rfl rfl hO ?_ | refine sf rfl rfl hW ?_)
      exact e_lp (omitL t out k, k) ⟨by simp only; omega, hor, hw2, h5⟩ (by simp only; omega) ft
    | false =>
      rw [hw2] at hW
      rw [redL_next hlt hw2] at h5
      repeat (first | refine i_len rfl ?_ | refine i_s rfl ?_ | refine i_lenm rfl rfl rfl ?_ | refine sw ?_ | refine i_s0 rfl ?_ | refine i_gt rfl ?_ | refine i_gf rfl ?_ | refine i_gd rfl ?_ | refine c_t rfl ?_ | refine c_f rfl ?_ | refine jc rfl ?_ | refine ja rfl rfl ?_ | refine jb rfl rfl ?_ | refine jg rfl rfl ?_ | refine jf rfl rfl ?_ | refine jd rfl rfl ?_ | refine je rfl rfl ?_ | refine jh rfl rfl ?_ | refine i_stb rfl ?_ | refine i_alloc rfl ?_ | refine i_box rfl rfl ?_ | refine i_nv rfl ?_ | refine sf rfl rfl hO ?_ | refine sf rfl rfl hW ?_)
      exact e_lp (out, k + 1) ⟨h2, h3, h4, h5⟩ (by simp only; omega) ft
  · have hge : ¬ k < out.length := by simpa using h
    rw [redL_end hge] at h5
    rw [← h5]
    repeat (first | refine i_len rfl ?_ | refine i_s rfl ?_ | refine i_lenm rfl rfl rfl ?_ | refine sw ?_ | refine i_s0 rfl ?_ | refine i_gt rfl ?_ | refine i_gf rfl ?_ | refine i_gd rfl ?_ | refine c_t rfl ?_ | refine c_f rfl ?_ | refine jc rfl ?_ | refine ja rfl rfl ?_ | refine jb rfl rfl ?_ | refine jg rfl rfl ?_ | refine jf rfl rfl ?_ | refine jd rfl rfl ?_ | refine je rfl rfl ?_ | refine jh rfl rfl ?_ | refine i_stb rfl ?_ | refine i_alloc rfl ?_ | refine i_box rfl rfl ?_ | refine i_nv rfl ?_)
    exact e_ret ⟨rfl, _, rfl, rfl⟩
theorem steps_sub2 {n : Nat} {plan l : List Int} (h : stepsF n plan = okF) (hs : l.Sublist plan) : stepsF n l = okF := by
  obtain ⟨h1, h2⟩ := stepsF_ok h
  unfold stepsF
  rw [if_neg (by have := hs.length_le; omega), if_neg]
  rw [Bool.not_eq_true, List.any_eq_false]
  intro x hx
  have := h2 x (hs.subset hx)
  simp [badStep]
  omega
theorem plF_sub2 {t : STask} {plan l : List Int} (h : plFault t plan = okF) (hs : l.Sublist plan) : plFault t l = okF := by
  unfold plFault at h ⊢
  split at h
  · rename_i h1
    rw [if_pos h1]
    exact steps_sub2 h hs
  · rename_i h1; exact absurd h h1
def c_T_TopShortenedPlansAreBounded : Cmd :=
 (qS [qx 2 192132 4 0, qb 4 false]
 (qS [qL 18 4 2, qm 19 1, qk 20 4 [18, 19], qm 17 20, qq 21 (.extract (.t 17) 0), qq 22 (.extract (.t 17) 1), qq 6 (.alloc 192386 (.agg [.int .i64 0, .int .i64 0])), qm 5 21, qs 2 6 22]
 (qS [qL 24 4 2, qk 25 5 [24], qm 23 25, qq 26 (.extract (.t 23) 0), qq 27 (.extract (.t 23) 1), qq 28 (.extract (.t 23) 2), qq 9 (.alloc 192578 (.agg [.int .i64 0, .int .i64 0])), qm 7 26, qm 8 27, qs 2 9 28]
 (qT (qS [qk 29 6 [], qq 30 (.not (.t 29)), qm 31 30, qg 32 31 false (.faddr 0 (.t 6)), qg 33 31 false (.load false 1 (.t 32)), qg 34 31 false (.bin .neq false [.i] (.t 33) (.c (.int .i64 0))), qq 35 (.pick (.t 31) (.c (.bool true)) (.t 34)), qm 36 35, qg 37 36 false (.faddr 0 (.t 9)), qg 38 36 false (.load false 1 (.t 37)), qg 39 36 false (.bin .neq false [.i] (.t 38) (.c (.int .i64 0))), qq 40 (.pick (.t 36) (.c (.bool true)) (.t 39))]
 (.cond (.t 40) (.seq (.ops [qk 41 6 [], qm 42 41, qg 43 42 true (.faddr 0 (.t 6)), qg 44 42 true (.load false 1 (.t 43)), qg 45 42 true (.bin .eql false [.i] (.t 44) (.c (.int .i64 0))), qg 46 42 true (.mov (.t 45)), qg 47 46 false (.mov (.t 5)), qg 48 46 false (.len false (.t 47)), qg 49 46 false (.bin .eql false [.i] (.t 48) (.c (.int .i64 0))), qg 50 42 true (.pick (.t 46) (.c (.bool true)) (.t 49)), qq 51 (.pick (.t 42) (.t 50) (.c (.bool false))), qm 52 51, qg 53 52 true (.faddr 0 (.t 9)), qg 54 52 true (.load false 1 (.t 53)), qg 55 52 true (.bin .eql false [.i] (.t 54) (.c (.int .i64 0))), qg 56 52 true (.mov (.t 55)), qg 57 56 false (.mov (.t 7)), qg 58 56 false (.len false (.t 57)), qg 59 56 false (.bin .eql false [.i] (.t 58) (.c (.int .i64 0))), qg 60 52 true (.pick (.t 56) (.c (.bool true)) (.t 59)), qq 61 (.pick (.t 52) (.t 60) (.c (.bool false))), qm 4 61]) .ret) .skip))
 (qS [qL 63 4 2, qm 64 7, qk 65 7 [63, 64], qm 62 65, qq 66 (.extract (.t 62) 0), qq 67 (.extract (.t 62) 1), qq 68 (.extract (.t 62) 2), qq 12 (.alloc 192770 (.agg [.int .i64 0, .int .i64 0])), qm 10 66, qm 11 67, qs 2 12 68]
 (qS [qL 70 4 2, qm 71 5, qk 72 8 [70, 71], qm 69 72, qq 73 (.extract (.t 69) 0), qq 74 (.extract (.t 69) 1), qq 14 (.alloc 192898 (.agg [.int .i64 0, .int .i64 0])), qm 13 73, qs 2 14 74]
 (qS [qL 76 4 2, qm 77 1, qk 78 8 [76, 77], qm 75 78, qq 79 (.extract (.t 75) 0), qq 80 (.extract (.t 75) 1), qq 16 (.alloc 193026 (.agg [.int .i64 0, .int .i64 0])), qm 15 79, qs 2 16 80]
 (.seq (.ops [qf 81 0 12, ql 82 1 81, qv 83 .eql [.i] 82 0, qm 84 83, qg 85 84 true (.faddr 0 (.t 14)), qg 86 84 true (.load false 1 (.t 85)), qg 87 84 true (.bin .eql false [.i] (.t 86) (.c (.int .i64 0))), qq 88 (.pick (.t 84) (.t 87) (.c (.bool false))), qm 89 88, qg 90 89 true (.faddr 0 (.t 16)), qg 91 89 true (.load false 1 (.t 90)), qg 92 89 true (.bin .eql false [.i] (.t 91) (.c (.int .i64 0))), qq 93 (.pick (.t 89) (.t 92) (.c (.bool false))), qm 94 93, qg 95 94 true (.mov (.t 11)), qq 96 (.pick (.t 94) (.t 95) (.c (.bool false))), qm 97 96, qg 98 97 true (.mov (.t 10)), qg 99 97 true (.mov (.t 8)), qg 100 97 true (.bin .eql false [.i] (.t 98) (.t 99)), qq 101 (.pick (.t 97) (.t 100) (.c (.bool false))), qm 102 101, qg 103 102 true (.mov (.t 8)), qg 104 102 true (.mov (.t 13)), qg 105 102 true (.bin .leq false [] (.t 103) (.t 104)), qq 106 (.pick (.t 102) (.t 105) (.c (.bool false))), qm 107 106, qg 108 107 true (.mov (.t 13)), qg 109 107 true (.mov (.t 15)), qg 110 107 true (.bin .leq false [] (.t 108) (.t 109)), qq 111 (.pick (.t 107) (.t 110) (.c (.bool false))), qm 4 111]) .ret))))))))
def r_T_TopShortenedPlansAreBounded : List RVar := [.tmp 4]
def n_T_TopShortenedPlansAreBounded : Nat := 112
theorem k_T_TopShortenedPlansAreBounded : chkFn Go.Proofs.Try.prog 3 n_T_TopShortenedPlansAreBounded r_T_TopShortenedPlansAreBounded c_T_TopShortenedPlansAreBounded = true := by kernel_rfl
theorem f_T_Top12 (t : STask) (ho : SkOk t) (plan : List Int) (hl : plan.length ≤ 140737488355328) : Fc Go.Proofs.Try.prog 3 [skV t, .sl .p (plan.map i64V)] (.bool true) := by
  have hK := f_kernWorks
  by_cases hb : sFault t = okF
  · cases hst : statesF t with
    | none =>
      have hM := f_lowerbound_Make_big t ho hb hst
      by_cases hs : solF t plan = okF
      · have hR := f_plans_Reduce_ok t ho plan hs
        refine Fn.step mixed k_T_TopShortenedPlansAreBounded ?_
        repeat' (first | refine i_len rfl ?_ | refine i_s rfl ?_ | refine i_lenm rfl rfl rfl ?_ | refine sw ?_ | refine i_s0 rfl ?_ | refine i_gt rfl ?_ | refine i_gf rfl ?_ | refine i_gd rfl ?_ | refine c_t rfl ?_ | refine c_f rfl ?_ | refine jc rfl ?_ | refine ja rfl rfl ?_ | refine jb rfl rfl ?_ | refine jg rfl rfl ?_ | refine jf rfl rfl ?_ | refine jd rfl rfl ?_ | refine je rfl rfl ?_ | refine jh rfl rfl ?_ | refine i_stb rfl ?_ | refine i_alloc rfl ?_ | refine i_box rfl rfl ?_ | refine i_nv rfl ?_ | (refine sp ?_ ?_ <;> try intro h) | refine sf rfl rfl hK ?_ | refine sf rfl rfl hM ?_ | refine sf rfl rfl hR ?_ | fail)
        all_goals first
          | (exfalso; clear hK hM hR; simp at *; done)
          | exact e_ret ⟨rfl, _, rfl, rfl⟩
      · have hR := f_plans_Reduce_bad t ho plan hl hs
        have hne : (solF t plan).code ≠ 0 := fun h => hs ((solF_code _ _).1 h)
        generalize solF t plan = SF at *
        refine Fn.step mixed k_T_TopShortenedPlansAreBounded ?_
        repeat' (first | refine i_len rfl ?_ | refine i_s rfl ?_ | refine i_lenm rfl rfl rfl ?_ | refine sw ?_ | refine i_s0 rfl ?_ | refine i_gt rfl ?_ | refine i_gf rfl ?_ | refine i_gd rfl ?_ | refine c_t rfl ?_ | refine c_f rfl ?_ | refine jc rfl ?_ | refine ja rfl rfl ?_ | refine jb rfl rfl ?_ | refine jg rfl rfl ?_ | refine jf rfl rfl ?_ | refine jd rfl rfl ?_ | refine je rfl rfl ?_ | refine jh rfl rfl ?_ | refine i_stb rfl ?_ | refine i_alloc rfl ?_ | refine i_box rfl rfl ?_ | refine i_nv rfl ?_ | (refine sp ?_ ?_ <;> try intro h) | refine sf rfl rfl hK ?_ | refine sf rfl rfl hM ?_ | refine sf rfl rfl hR ?_ | fail)
        all_goals first
          | (exfalso; clear hK hM hR ho; simp at *; omega)
          | exact e_ret ⟨rfl, _, rfl, rfl⟩
    | some l =>
      have hv := sFault_ok hb
      obtain ⟨D, hD⟩ := least_all (wdOf_cost hv)
      have hM := f_lowerbound_Make_ok t ho hb hst hD
      by_cases hs : solF t plan = okF
      · have hR := f_plans_Reduce_ok t ho plan hs
        obtain ⟨hpf, hw⟩ := solF_ok hs
        obtain ⟨_, h60, hr, _⟩ := plFault_ok hpf
        have hsub := redL_sub t plan 0
        have hwl := redL_works t plan 0 hw
        have hpl := plF_sub2 hpf hsub
        have hI := statesF_ok hst
        have hC1 := f_strips_Cost_ok t ho (redL t plan 0) hpl
        have hC2 := f_strips_Cost_ok t ho plan hpf
        have hcs := costS_sub hv hsub
        have hnn := fun s => least_nn hD (wdOf_cost hv) s
        have hCk := f_lowerbound_Check t ho hb (lbT_ok hv hD hI) D (fun s => ⟨hnn s, (hD s).le⟩) (fun p hp e he => by
            obtain ⟨s, hs, rfl⟩ := List.mem_map.1 hp
            exact lbT_val hD (wdOf_cost hv) (hI.closed s (List.mem_filter.1 hs).1 e he)) (fun p hp => by
            obtain ⟨s, hs, rfl⟩ := List.mem_map.1 hp
            exact least_holds hD (wdOf_cost hv) (of_decide_eq_true (List.mem_filter.1 hs).2))
        rw [lbT_val hD (wdOf_cost hv) ((hI.2.2.1 _).2 .start)] at hCk
        have hle : D (wdOf t).start ≤ costS t (redL t plan 0) := by
          obtain ⟨e, he⟩ := works_end hwl
          have hg : inclB t.goal e = true := by
            have := hwl
            unfold worksB at this
            rw [he] at this
            exact this
          obtain ⟨_, _, hr2, _⟩ := plFault_ok hpl
          exact (hD _).low _ (way_of_plan hv _ _ e hv.init hr2 he hg)
        generalize D (wdOf t).start = d at *
        generalize costS t (redL t plan 0) = ca at *
        generalize costS t plan = cb at *
        refine Fn.step mixed k_T_TopShortenedPlansAreBounded ?_
        repeat' (first | refine i_len rfl ?_ | refine i_s rfl ?_ | refine i_lenm rfl rfl rfl ?_ | refine sw ?_ | refine i_s0 rfl ?_ | refine i_gt rfl ?_ | refine i_gf rfl ?_ | refine i_gd rfl ?_ | refine c_t rfl ?_ | refine c_f rfl ?_ | refine jc rfl ?_ | refine ja rfl rfl ?_ | refine jb rfl rfl ?_ | refine jg rfl rfl ?_ | refine jf rfl rfl ?_ | refine jd rfl rfl ?_ | refine je rfl rfl ?_ | refine jh rfl rfl ?_ | refine i_stb rfl ?_ | refine i_alloc rfl ?_ | refine i_box rfl rfl ?_ | refine i_nv rfl ?_ | (refine sp ?_ ?_ <;> try intro h) | refine sf rfl rfl hK ?_ | refine sf rfl rfl hM ?_ | refine sf rfl rfl hR ?_ | refine sf rfl rfl hCk ?_ | refine sf rfl rfl hC1 ?_ | refine sf rfl rfl hC2 ?_ | fail)
        all_goals first
          | (exfalso; clear hK hM hR hCk hC1 hC2; simp at *; done)
          | (exfalso; clear hK hM hR hCk hC1 hC2; simp at *; omega)
          | (refine e_ret ⟨rfl, _, rfl, congrArg V.bool ?_⟩; first | rfl | (simp; omega))
      · have hR := f_plans_Reduce_bad t ho plan hl hs
        have hne : (solF t plan).code ≠ 0 := fun h => hs ((solF_code _ _).1 h)
        generalize solF t plan = SF at *
        refine Fn.step mixed k_T_TopShortenedPlansAreBounded ?_
        repeat' (first | refine i_len rfl ?_ | refine i_s rfl ?_ | refine i_lenm rfl rfl rfl ?_ | refine sw ?_ | refine i_s0 rfl ?_ | refine i_gt rfl ?_ | refine i_gf rfl ?_ | refine i_gd rfl ?_ | refine c_t rfl ?_ | refine c_f rfl ?_ | refine jc rfl ?_ | refine ja rfl rfl ?_ | refine jb rfl rfl ?_ | refine jg rfl rfl ?_ | refine jf rfl rfl ?_ | refine jd rfl rfl ?_ | refine je rfl rfl ?_ | refine jh rfl rfl ?_ | refine i_stb rfl ?_ | refine i_alloc rfl ?_ | refine i_box rfl rfl ?_ | refine i_nv rfl ?_ | (refine sp ?_ ?_ <;> try intro h) | refine sf rfl rfl hK ?_ | refine sf rfl rfl hM ?_ | refine sf rfl rfl hR ?_ | fail)
        all_goals first
          | (exfalso; clear hK hM hR ho; simp at *; omega)
          | exact e_ret ⟨rfl, _, rfl, rfl⟩
  · have hM := f_lowerbound_Make_bad t ho hb
    have hs : solF t plan ≠ okF := fun hs => by
      obtain ⟨hpf, _⟩ := solF_ok hs
      exact hb (sFault_of (plFault_ok hpf).1)
    have hR := f_plans_Reduce_bad t ho plan hl hs
    have hne : (solF t plan).code ≠ 0 := fun h => hs ((solF_code _ _).1 h)
    have hne2 : (sFault t).code ≠ 0 := fun h => hb ((sFault_iff _).1 h)
    generalize solF t plan = SF at *
    generalize sFault t = SG at *
    refine Fn.step mixed k_T_TopShortenedPlansAreBounded ?_
    repeat' (first | refine i_len rfl ?_ | refine i_s rfl ?_ | refine i_lenm rfl rfl rfl ?_ | refine sw ?_ | refine i_s0 rfl ?_ | refine i_gt rfl ?_ | refine i_gf rfl ?_ | refine i_gd rfl ?_ | refine c_t rfl ?_ | refine c_f rfl ?_ | refine jc rfl ?_ | refine ja rfl rfl ?_ | refine jb rfl rfl ?_ | refine jg rfl rfl ?_ | refine jf rfl rfl ?_ | refine jd rfl rfl ?_ | refine je rfl rfl ?_ | refine jh rfl rfl ?_ | refine i_stb rfl ?_ | refine i_alloc rfl ?_ | refine i_box rfl rfl ?_ | refine i_nv rfl ?_ | (refine sp ?_ ?_ <;> try intro h) | refine sf rfl rfl hK ?_ | refine sf rfl rfl hM ?_ | refine sf rfl rfl hR ?_ | fail)
    all_goals first
      | (exfalso; clear hK hM hR ho; simp at *; omega)
      | exact e_ret ⟨rfl, _, rfl, rfl⟩
end Hm
end
