/- Part VB of the proof. -/
import Derived.Test.YtojbakjdbodidaaGreatVA
import Derived.Orders
import Derived.RangeFuncRecord
set_option linter.unusedVariables false
set_option linter.unusedSimpArgs false
section
namespace Hm
open Go
section
variable {G : Type} {J : JT G} {w w' w'' : World} {S F S' F' S'' F'' : Nat → Prop} {θ θ' θ'' : Names} {σ σ' σ'' : Store} {l : Nat} {g g' : G}
variable {P : Program} {o : Oper} {a : Act} {ρ : Env} {K : V → Store → G → Prop} {H : HT G}
theorem rows_flat {rows : List V} {b off m : Nat} {ys : Nat → Nat → Value} (hm : 0 < m) (hw : ∀ row ∈ rows, row.cells.length = m)
  (hc : ∀ (i j : Nat) (row v : V), rows[i]? = some row → row.cells[j]? = some v → w.cell? ⟨b, off + i * m + j, none⟩ = some (ys i j) ∧ RepP w S v (ys i j)) :
  ∃ cs : List Value, cs.length = rows.length * m ∧ (∀ k y, cs[k]? = some y → w.cell? ((⟨b, off, none⟩ : Addr).add k) = some y) ∧
    (∀ (i j : Nat) (row v : V), rows[i]? = some row → row.cells[j]? = some v → ∃ y, cs[i * m + j]? = some y ∧ RepP w S v y) ∧
    ((∀ row ∈ rows, row.cells.all leafB = true) → ∀ y ∈ cs, y.oneCell' = true) := by
 have hsplit : ∀ k, k < rows.length * m → ∃ row v, rows[k / m]? = some row ∧ row.cells[k % m]? = some v ∧ row ∈ rows := by
  intro k hk
  have h1 : k / m < rows.length := (Nat.div_lt_iff_lt_mul hm).2 hk
  have hmem := List.getElem_mem h1
  have h2 := hw _ hmem
  have h3 : k % m < rows[k / m].cells.length := by rw [h2]; exact Nat.mod_lt _ hm
  exact ⟨_, _, List.getElem?_eq_getElem h1, List.getElem?_eq_getElem h3, hmem⟩
 refine ⟨(List.range (rows.length * m)).map fun k => ys (k / m) (k % m), by simp, fun k y h => ?_, fun i j row v h1 h2 => ?_, fun hl y hy => ?_⟩
 · rw [List.getElem?_map] at h
   by_cases hk : k < rows.length * m
   · rw [List.getElem?_range hk] at h
     simp only [Option.map_some, Option.some.injEq] at h
     subst h
     obtain ⟨row, v, h1, h2, _⟩ := hsplit k hk
     have := (hc _ _ row v h1 h2).1
     rw [Addr.add_lit]
     rw [← this]
     congr 2
     have := Nat.div_add_mod k m
     rw [Nat.mul_comm] at this
     omega
   · rw [List.getElem?_eq_none (by simpa using hk)] at h
     cases h
 · have hi := (List.getElem?_eq_some_iff.1 h1).1
   have hj := (List.getElem?_eq_some_iff.1 h2).1
   rw [hw row (mem_of_get h1)] at hj
   have hlt : i * m + j < rows.length * m := by
    have : (i + 1) * m ≤ rows.length * m := Nat.mul_le_mul_right _ hi
    rw [Nat.succ_mul] at this; omega
   refine ⟨ys i j, ?_, (hc i j row v h1 h2).2⟩
   rw [List.getElem?_map, List.getElem?_range hlt]
   simp only [Option.map_some, Option.some.injEq]
   rw [Nat.mul_comm i m, Nat.mul_add_div hm, Nat.mul_add_mod, Nat.div_eq_of_lt hj, Nat.mod_eq_of_lt hj, Nat.add_zero]
 · obtain ⟨k, hk, rfl⟩ := List.mem_map.1 hy
   obtain ⟨row, v, h1, h2, h3⟩ := hsplit k (List.mem_range.1 hk)
   have := (hc _ _ row v h1 h2).2
   exact leaf_one (θ := θ0) (σ := σ0) (l := 0) ((List.all_eq_true.1 (hl row h3)) v (mem_of_get h2)) (.pure this)
def UTy (P : Program) (u : TypeId) : Prop := (∃ e, P.underlying u = some (.slice e)) ∨ P.underlying u = some .string
def Reads (P : Program) (w : World) (size n : Nat) (x : Value) (news : List Value) : Prop := ((∃ a c, x = .slice a n c) ∨ ∃ s : ByteArray, x = .string s ∧ s.size = n) ∧ ∀ w' : World, w'.heap = w.heap → (Builtin.firstCells size n x).run P w' = .ok news.toArray w'
theorem ap_same (t u ty e : TypeId) (i : TypeInfo) (hu : UTy P u) (ht : P.underlying t = some (.slice e)) (hi : P.info? e = some i) (base : Option Addr) (sLen sCap : Nat) (x : Value) (hx : Reads P w i.size 0 x []) (hle : sLen ≤ sCap) :
  (Builtin.append_ #[t, u] ty #[.slice base sLen sCap, x]).run P w = .ok (.slice base sLen sCap) w := by
 obtain ⟨hx0, hf⟩ := hx
 have hf := hf w rfl
 rcases hx0 with ⟨xa, c, rfl⟩ | ⟨s, rfl, hs⟩ <;> rcases hu with ⟨e', hu⟩ | hu <;> cases base <;> simp [Builtin.append_, run_underlying ht, run_underlying hu, Go.sizeOf, typeInfo, hi, Builtin.lenOf, hle, hf, storeCells, *]
theorem ap_room (t u ty e e0 : TypeId) (i : TypeInfo) (hu : UTy P u) (ht : P.underlying t = some (.slice e)) (hi : P.info? e = some i) (b : Nat) (sLen sCap n : Nat) (cur : Array Value) (hg : w.heap[b]? = some (.cells cur e0 (0, 0))) (x : Value) (news : List Value)
  (hx : Reads P w i.size n x news) (h1 : ∀ u ∈ news, u.oneCell' = true) (hroom : sLen + n ≤ sCap) (hfit : sLen * i.size + news.length ≤ cur.size) :
  (Builtin.append_ #[t, u] ty #[.slice (some ⟨b, 0, none⟩) sLen sCap, x]).run P w =
    .ok (.slice (some ⟨b, 0, none⟩) (sLen + n) sCap) (w.setRow b (cur.toList.take (sLen * i.size) ++ news ++ cur.toList.drop (sLen * i.size + news.length)).toArray) := by
 obtain ⟨hx0, hf⟩ := hx
 have hf := hf w rfl
 have hst := run_storeCells_at P b (sLen * i.size) e0 news 0 cur w hg (by simpa using hfit) h1
 simp only [Nat.add_zero] at hst
 rcases hx0 with ⟨xa, c, rfl⟩ | ⟨s, rfl, rfl⟩ <;> rcases hu with ⟨e', hu⟩ | hu <;> simp [Builtin.append_, run_underlying ht, run_underlying hu, Go.sizeOf, typeInfo, hi, Builtin.lenOf, hroom, hf, Addr.add_lit, hst]
theorem ap_grow (t u ty e : TypeId) (i : TypeInfo) (z : Value) (hu : UTy P u) (ht : P.underlying t = some (.slice e)) (hi : P.info? e = some i) (hz : i.zero = some z) (base : Option Addr) (sLen sCap n : Nat) (olds : List Value) (x : Value) (news : List Value)
  (ho : Reads P w i.size sLen (.slice base sLen sCap) olds) (hx : Reads P w i.size n x news) (hg : sCap < sLen + n) (hb : (sLen + n) * i.bytes ≤ 140737488355328) (hn : sLen + n ≤ 140737488355328) :
  (Builtin.append_ #[t, u] ty #[.slice base sLen sCap, x]).run P w =
    .ok (.slice (some ⟨w.heap.size, 0, none⟩) (sLen + n) (grownCap w (sLen + n) sCap e))
     (w.drew.alloc (.cells (olds.toArray ++ news.toArray ++ Builtin.zeroCells z.cells (grownCap w (sLen + n) sCap e - (sLen + n))) e)) := by
 obtain ⟨hx0, hf⟩ := hx
 have hf := hf w.drew rfl
 have hfo := ho.2 w.drew rfl
 have hn' : ¬ (sLen + n ≤ sCap) := by omega
 have h63' : ¬ (9223372036854775807 < ((sLen : Int) + (n : Int))) := by omega
 have h48' : ¬ (281474976710656 < Builtin.nextslicecap (sLen + n) sCap * i.bytes) := by have := growslice_fits hg hb; omega
 rcases hx0 with ⟨xa, c, rfl⟩ | ⟨s, rfl, rfl⟩ <;> rcases hu with ⟨e', hu⟩ | hu
 all_goals
  simp [Builtin.append_, run_underlying ht, run_underlying hu, Go.sizeOf, typeInfo, zeroValue, hi, hz, Builtin.lenOf, hn', h63', h48', Question.forced, hf, hfo, newRow, grownCap]
  congr 2
  apply Array.ext'
  simp [List.append_assoc]
theorem news_of {t : Tag} {xs : List V} {x : Value} {size : Nat} (h : Rep w S θ σ l (.sl t xs) x) (h0 : 0 < size) (hw : ∀ row ∈ xs, row.cells.length = size ∧ row.cells.all leafB = true) :
  ∃ news : List Value, Reads P w size xs.length x news ∧ news.length = xs.length * size ∧ (∀ (i j : Nat) (row v : V), xs[i]? = some row → row.cells[j]? = some v → ∃ y, news[i * size + j]? = some y ∧ RepP w S v y) ∧ ∀ y ∈ news, y.oneCell' = true := by
 obtain ⟨ad, cap, rfl, hcap, hrest⟩ := h.sl_inv
 by_cases hx : xs = []
 · subst hx
   refine ⟨[], ⟨.inl ⟨ad, cap, rfl⟩, fun w' _ => ?_⟩, by simp, fun i j row v h => by simp at h, fun y hy => by simp at hy⟩
   cases ad with
   | none => exact run_firstCells_none w' size 0 0 cap
   | some b => exact run_firstCells_some w' size 0 b 0 cap [] (by simp) (fun j v h => by simp at h)
 · obtain ⟨b, off, m, rfl, hwm, ys, hc⟩ := hrest hx
   have em : m = size := by
    cases xs with
    | nil => exact absurd rfl hx
    | cons r xs => rw [← hwm r (by simp), (hw r (by simp)).1]
   subst em
   obtain ⟨cs, h1, h2, h3, h4⟩ := rows_flat h0 hwm hc
   refine ⟨cs, ⟨.inl ⟨_, cap, rfl⟩, fun w' hw' => ?_⟩, h1, h3, h4 fun row hr => (hw row hr).2⟩
   exact run_firstCells_some w' m xs.length _ _ cap cs h1 (fun j v hj => by unfold World.cell?; rw [hw']; exact h2 j v hj)
theorem olds_of {rows : List V} {b off cap m : Nat} {ys : Nat → Nat → Value} (h0 : 0 < m) (hw : ∀ row ∈ rows, row.cells.length = m)
  (hc : ∀ (i j : Nat) (row v : V), rows[i]? = some row → row.cells[j]? = some v → w.cell? ⟨b, off + i * m + j, none⟩ = some (ys i j) ∧ RepP w S v (ys i j)) :
  ∃ olds : List Value, Reads P w m rows.length (.slice (some ⟨b, off, none⟩) rows.length cap) olds ∧ olds.length = rows.length * m ∧ ∀ (i j : Nat) (row v : V), rows[i]? = some row → row.cells[j]? = some v → ∃ y, olds[i * m + j]? = some y ∧ RepP w S v y := by
 obtain ⟨cs, h1, h2, h3, h4⟩ := rows_flat h0 hw hc
 refine ⟨cs, ⟨.inl ⟨_, cap, rfl⟩, fun w' hw' => ?_⟩, h1, h3⟩
 exact run_firstCells_some w' m rows.length _ _ cap cs h1 (fun j v hj => by unfold World.cell?; rw [hw']; exact h2 j v hj)
theorem reads_nil (size : Nat) (base : Option Addr) (cap : Nat) : Reads P w size 0 (.slice base 0 cap) [] := by
 refine ⟨.inl ⟨base, cap, rfl⟩, fun w' _ => ?_⟩
 cases base with
 | none => exact run_firstCells_none w' size 0 0 cap
 | some b => exact run_firstCells_some w' size 0 b 0 cap [] (by simp) (fun j v h => by simp at h)
theorem two_rows {rows xs : List V} {olds news rest : List Value} {m : Nat} (ho : olds.length = rows.length * m)
  (h1 : ∀ (i j : Nat) (row v : V), rows[i]? = some row → row.cells[j]? = some v → ∃ y, olds[i * m + j]? = some y ∧ RepP w S v y)
  (h2 : ∀ (i j : Nat) (row v : V), xs[i]? = some row → row.cells[j]? = some v → ∃ y, news[i * m + j]? = some y ∧ RepP w S v y)
  (i j : Nat) (row v : V) (hi : (rows ++ xs)[i]? = some row) (hj : row.cells[j]? = some v) : ∃ y, (olds ++ news ++ rest)[i * m + j]? = some y ∧ RepP w S v y := by
 have hjl := (List.getElem?_eq_some_iff.1 hj).1
 by_cases c : i < rows.length
 · rw [List.getElem?_append_left c] at hi
   obtain ⟨y, hy, hr⟩ := h1 i j row v hi hj
   have hlt := (List.getElem?_eq_some_iff.1 hy).1
   exact ⟨y, by rw [List.append_assoc, List.getElem?_append_left hlt]; exact hy, hr⟩
 · rw [List.getElem?_append_right (by omega)] at hi
   obtain ⟨y, hy, hr⟩ := h2 _ j row v hi hj
   have hlt := (List.getElem?_eq_some_iff.1 hy).1
   have e : i * m = rows.length * m + (i - rows.length) * m := by rw [← Nat.add_mul]; congr 1; omega
   refine ⟨y, ?_, hr⟩
   rw [List.getElem?_append_left (by simp; omega), List.getElem?_append_right (by omega), show i * m + j - olds.length = (i - rows.length) * m + j from by omega]
   exact hy
theorem Fr.vmove (hs : St J w S F θ σ l g) (o : Obj) (nm m k k' : Nat) (hv : σ nm = .vec k) (hk : k < k') :
  Fr w S F θ σ (w.drew.alloc o) (fun b => S b ∨ ∃ m, θ nm = some (b, m)) F (upn θ nm (some (w.heap.size, m))) (ups σ nm (.vec k')) where
 size := by show _ ≤ (w.heap.push o).size; rw [Array.size_push]; omega
 os := rfl
 tape := rfl
 output := ⟨rfl, by first | exact fun _ => Nat.le_refl _ | exact fun _ => Nat.le_succ _⟩
 same := fun b hb _ _ => heap_alloc_old' w.drew o hb
 sized := fun b c e fr h => ⟨c, fr, by rw [heap_alloc_old' w.drew o (Array.getElem?_eq_some_iff.1 h).1]; exact h, rfl, .inl rfl⟩
 vecs := fun nm' k b m' h1 h2 j hj => cell_of_heap (heap_alloc_old' w.drew o (live_lt hs (live_vec h1) h2))
 smono := fun _ h => .inl h
 snew := fun b h => by
  rcases h with h | ⟨m', h⟩
  · exact .inl h
  · exact .inr (.inl ⟨nm, m', live_vec hv, h⟩)
 live := fun b => by
  rintro ⟨n1, m1, h1, h2⟩ hlt
  by_cases e : n1 = nm
  · subst e; rw [upn_self] at h2; simp at h2; omega
  · rw [upt_ne σ _ e] at h1; rw [upn_ne θ _ e] at h2; exact ⟨n1, m1, h1, h2⟩
 fsub := fun _ h _ => h
 kdead := fun n h => by rw [upt_ne σ _ (fun e => by rw [e, hv] at h; cases h)]; exact h
 kbox := fun n row h => by
  have e : n ≠ nm := fun e => by rw [e, hv] at h; cases h
  exact .inr ⟨row, by rw [upt_ne σ _ e]; exact h, upn_ne θ _ e⟩
 karr := fun n gen rows h => by
  have e : n ≠ nm := fun e => by rw [e, hv] at h; cases h
  exact .inr ⟨gen, rows, by rw [upt_ne σ _ e]; exact h, Nat.le_refl _, fun _ => ⟨upn_ne θ _ e, Nat.le_refl _⟩⟩
 kvec := fun n q h => by
  by_cases e : n = nm
  · subst e
    rw [hv] at h
    injection h with h
    subst h
    exact .inr ⟨k', upt_self _ _ _, by omega, fun e => by omega, fun b m' hb => .inr (.inr ⟨m', hb⟩)⟩
  · exact .inr ⟨q, by rw [upt_ne σ _ e]; exact h, Nat.le_refl _, fun _ => upn_ne θ _ e, fun b m hb => .inl (by rw [upn_ne θ _ e]; exact hb)⟩
 kmp := fun n q ns vs h => by
  have e : n ≠ nm := fun e => by rw [e, hv] at h; cases h
  exact .inr ⟨q, ns, vs, by rw [upt_ne σ _ e]; exact h, upn_ne θ _ e⟩
theorem St.vmove (hst : Stable J) (hs : St J w S F θ σ l g) (o : Obj) (nm m k k' : Nat) (hv : σ nm = .vec k) (hk : k < k')
  (hb : BlkOk (w.drew.alloc o) (fun b => S b ∨ ∃ m, θ nm = some (b, m)) (upn θ nm (some (w.heap.size, m))) (ups σ nm (.vec k')) l nm (.vec k')) :
  St J (w.drew.alloc o) (fun b => S b ∨ ∃ m, θ nm = some (b, m)) F (upn θ nm (some (w.heap.size, m))) (ups σ nm (.vec k')) l g := by
 refine St.step hst hs (Fr.vmove hs o nm m k k' hv hk) nm (fun nm' e => ⟨upt_ne σ _ e, upn_ne θ _ e⟩) (fun nm' b m _ h1 h2 => heap_alloc_old' w.drew o (live_lt hs h1 h2)) (fun b hb => heap_alloc_old' w.drew o (hs.hF b hb).1)
  (by rw [upt_self]; exact hb) ?_ (fun b hb => ?_) (fun b nm' m' hb e h1 h2 => ?_)
 · intro b m' _ hb'
   rw [upn_self] at hb'
   simp at hb'
   obtain ⟨rfl, rfl⟩ := hb'
   refine ⟨fun h => ?_, fun h => Nat.lt_irrefl _ (hs.hF _ h).1, fun nm' m' _ h1 h2 => Nat.lt_irrefl _ (live_lt hs h1 h2)⟩
   rcases h with h | ⟨m', h⟩
   · exact Nat.lt_irrefl _ (hs.hS _ h)
   · exact Nat.lt_irrefl _ (live_lt hs (live_vec hv) h)
 · have hsz : (w.drew.alloc o).heap.size = w.heap.size + 1 := Array.size_push ..
   rcases hb with hb | ⟨m', hb⟩
   · exact ⟨by have := hs.hS b hb; omega, fun hf => (hs.hF b hf).2.1 hb⟩
   · exact ⟨by have := live_lt hs (live_vec hv) hb; omega, fun hf => (hs.hF b hf).2.2 ⟨nm, m', live_vec hv, hb⟩⟩
 · rcases hb with hb | ⟨m1, hb⟩
   · exact hs.hliveS b ⟨nm', m', h1, h2⟩ hb
   · exact e (hs.hinj nm' nm b m' m1 h1 (live_vec hv) h2 hb)
theorem Fr.amove (hs : St J w S F θ σ l g) (o : Obj) (nm m gen : Nat) (rows rows' : List V) (hv : σ nm = .arr gen rows) :
  Fr w S F θ σ (w.drew.alloc o) S F (upn θ nm (some (w.heap.size, m))) (ups σ nm (.arr (gen + 1) rows')) where
 size := by show _ ≤ (w.heap.push o).size; rw [Array.size_push]; omega
 os := rfl
 tape := rfl
 output := ⟨rfl, by first | exact fun _ => Nat.le_refl _ | exact fun _ => Nat.le_succ _⟩
 same := fun b hb _ _ => heap_alloc_old' w.drew o hb
 sized := fun b c e fr h => ⟨c, fr, by rw [heap_alloc_old' w.drew o (Array.getElem?_eq_some_iff.1 h).1]; exact h, rfl, .inl rfl⟩
 vecs := fun nm' k b m' h1 h2 j hj => cell_of_heap (heap_alloc_old' w.drew o (live_lt hs (live_vec h1) h2))
 smono := fun _ h => h
 snew := fun b h => .inl h
 live := fun b => by
  rintro ⟨n1, m1, h1, h2⟩ hlt
  by_cases e : n1 = nm
  · subst e; rw [upn_self] at h2; simp at h2; omega
  · rw [upt_ne σ _ e] at h1; rw [upn_ne θ _ e] at h2; exact ⟨n1, m1, h1, h2⟩
 fsub := fun _ h _ => h
 kdead := fun n h => by rw [upt_ne σ _ (fun e => by rw [e, hv] at h; cases h)]; exact h
 kbox := fun n row h => by
  have e : n ≠ nm := fun e => by rw [e, hv] at h; cases h
  exact .inr ⟨row, by rw [upt_ne σ _ e]; exact h, upn_ne θ _ e⟩
 karr := fun n gen' rows1 h => by
  by_cases e : n = nm
  · subst e
    rw [hv] at h
    injection h with h1 h2
    subst h1
    exact .inr ⟨gen + 1, rows', upt_self _ _ _, Nat.le_succ _, fun e => by omega⟩
  · exact .inr ⟨gen', rows1, by rw [upt_ne σ _ e]; exact h, Nat.le_refl _, fun _ => ⟨upn_ne θ _ e, Nat.le_refl _⟩⟩
 kvec := fun n q h => by
  have e : n ≠ nm := fun e => by rw [e, hv] at h; cases h
  exact .inr ⟨q, by rw [upt_ne σ _ e]; exact h, Nat.le_refl _, fun _ => upn_ne θ _ e, fun b m hb => .inl (by rw [upn_ne θ _ e]; exact hb)⟩
 kmp := fun n q ns vs h => by
  have e : n ≠ nm := fun e => by rw [e, hv] at h; cases h
  exact .inr ⟨q, ns, vs, by rw [upt_ne σ _ e]; exact h, upn_ne θ _ e⟩
theorem St.amove (hst : Stable J) (hs : St J w S F θ σ l g) (o : Obj) (nm m gen : Nat) (rows rows' : List V) (hv : σ nm = .arr gen rows)
  (hb : BlkOk (w.drew.alloc o) S (upn θ nm (some (w.heap.size, m))) (ups σ nm (.arr (gen + 1) rows')) l nm (.arr (gen + 1) rows')) :
  St J (w.drew.alloc o) S F (upn θ nm (some (w.heap.size, m))) (ups σ nm (.arr (gen + 1) rows')) l g := by
 have hsz : (w.drew.alloc o).heap.size = w.heap.size + 1 := Array.size_push ..
 refine St.step hst hs (Fr.amove hs o nm m gen rows rows' hv) nm (fun nm' e => ⟨upt_ne σ _ e, upn_ne θ _ e⟩) (fun nm' b m _ h1 h2 => heap_alloc_old' w.drew o (live_lt hs h1 h2)) (fun b hb => heap_alloc_old' w.drew o (hs.hF b hb).1)
  (by rw [upt_self]; exact hb) ?_ (fun b hb => ⟨by have := hs.hS b hb; omega, fun hf => (hs.hF b hf).2.1 hb⟩) (fun b nm' m' hb e h1 h2 => hs.hliveS b ⟨nm', m', h1, h2⟩ hb)
 intro b m' _ hb'
 rw [upn_self] at hb'
 simp at hb'
 obtain ⟨rfl, rfl⟩ := hb'
 exact ⟨fun h => Nat.lt_irrefl _ (hs.hS _ h), fun h => Nat.lt_irrefl _ (hs.hF _ h).1, fun nm' m' _ h1 h2 => Nat.lt_irrefl _ (live_lt hs h1 h2)⟩
theorem Fr.regen (nm gen : Nat) (rows rows' : List V) (hv : σ nm = .arr gen rows) : Fr w S F θ σ w S F θ (ups σ nm (.arr (gen + 1) rows')) where
 size := Nat.le_refl _
 os := rfl
 tape := rfl
 output := ⟨rfl, by first | exact fun _ => Nat.le_refl _ | exact fun _ => Nat.le_succ _⟩
 same := fun _ _ _ _ => rfl
 sized := fun _ c _ fr h => ⟨c, fr, h, rfl, .inl rfl⟩
 vecs := fun _ _ _ _ _ _ _ _ => rfl
 smono := fun _ h => h
 snew := fun _ h => .inl h
 live := fun b => by
  rintro ⟨n1, m1, h1, h2⟩ _
  by_cases e : n1 = nm
  · subst e; exact ⟨n1, m1, live_arr hv, h2⟩
  · rw [upt_ne σ _ e] at h1; exact ⟨n1, m1, h1, h2⟩
 fsub := fun _ h _ => h
 kdead := fun n h => by rw [upt_ne σ _ (fun e => by rw [e, hv] at h; cases h)]; exact h
 kbox := fun n row h => by
  have e : n ≠ nm := fun e => by rw [e, hv] at h; cases h
  exact .inr ⟨row, by rw [upt_ne σ _ e]; exact h, rfl⟩
 karr := fun n gen' rows1 h => by
  by_cases e : n = nm
  · subst e
    rw [hv] at h
    injection h with h1 h2
    subst h1
    exact .inr ⟨gen + 1, rows', upt_self _ _ _, Nat.le_succ _, fun e => by omega⟩
  · exact .inr ⟨gen', rows1, by rw [upt_ne σ _ e]; exact h, Nat.le_refl _, fun _ => ⟨rfl, Nat.le_refl _⟩⟩
 kvec := fun n q h => by
  have e : n ≠ nm := fun e => by rw [e, hv] at h; cases h
  exact .inr ⟨q, by rw [upt_ne σ _ e]; exact h, Nat.le_refl _, fun _ => rfl, fun b m hb => .inl hb⟩
 kmp := fun n q ns vs h => by
  have e : n ≠ nm := fun e => by rw [e, hv] at h; cases h
  exact .inr ⟨q, ns, vs, by rw [upt_ne σ _ e]; exact h, rfl⟩
theorem St.regen (hst : Stable J) (hs : St J w S F θ σ l g) (nm gen : Nat) (rows rows' : List V) (hv : σ nm = .arr gen rows) (hb : BlkOk w S θ (ups σ nm (.arr (gen + 1) rows')) l nm (.arr (gen + 1) rows')) :
  St J w S F θ (ups σ nm (.arr (gen + 1) rows')) l g := by
 refine St.step hst hs (Fr.regen nm gen rows rows' hv) nm (fun nm' e => ⟨upt_ne σ _ e, rfl⟩) (fun _ _ _ _ _ _ => rfl) (fun _ _ => rfl)
  (by rw [upt_self]; exact hb) (fun b m' hl hb' => ?_) (fun b hb => ⟨hs.hS b hb, fun hf => (hs.hF b hf).2.1 hb⟩) (fun b nm' m' hb e h1 h2 => hs.hliveS b ⟨nm', m', h1, h2⟩ hb)
 exact ⟨hs.hliveS b ⟨nm, m', live_arr hv, hb'⟩, fun hf => (hs.hF b hf).2.2 ⟨nm, m', live_arr hv, hb'⟩, fun nm' m'' e h1 h2 => e (hs.hinj nm' nm b m'' m' h1 (live_arr hv) h2 hb')⟩
theorem ups_self (σ : Store) (nm : Nat) : ups σ nm (σ nm) = σ := by
 funext t
 by_cases e : t = nm
 · subst e; exact upt_self _ _ _
 · exact upt_ne _ _ e
end
section
variable {G : Type} {J : JT G} {w w' w'' : World} {S F S' F' S'' F'' : Nat → Prop} {θ θ' θ'' : Names} {σ σ' σ'' : Store} {l : Nat} {g g' : G}
variable {P : Program} {o : Oper} {a : Act} {ρ : Env} {K : V → Store → G → Prop} {H : HT G}
theorem getD_of {cs : List Value} {k : Nat} {y : Value} (h : cs[k]? = some y) : cs.getD k undef = y := by
 rw [List.getD_eq_getElem?_getD, h]; rfl
theorem news_src {v : V} {xs : List V} {y : Value} {size : Nat} (hs : St J w S F θ σ l g) (ry : Rep w S θ σ l v y) (hy : srcR σ v = some xs) (h0 : 0 < size) (hw : ∀ row ∈ xs, row.cells.length = size ∧ row.cells.all leafB = true) :
  ∃ news : List Value, Reads P w size xs.length y news ∧ news.length = xs.length * size ∧ (∀ (i j : Nat) (row v : V), xs[i]? = some row → row.cells[j]? = some v → ∃ y, news[i * size + j]? = some y ∧ RepP w S v y) ∧ ∀ y ∈ news, y.oneCell' = true := by
 cases v with
 | sl t xs' =>
  simp only [srcR] at hy
  cases hy
  exact news_of ry h0 hw
 | str s =>
  simp only [srcR] at hy
  cases hy
  cases ry with
  | pure h =>
   cases h
   refine ⟨s.map fun c => .int .u8 c.toNat, ⟨.inr ⟨⟨s.toArray⟩, rfl, by simp [ByteArray.size]⟩, fun w' _ => ?_⟩, ?_, fun i j row v h1 h2 => ?_, fun y hy => ?_⟩
   · simp [Builtin.firstCells, ByteArray.size]
   · cases s with
     | nil => simp
     | cons c r =>
      have := (hw _ (List.mem_cons_self)).1
      simp only [V.cells, List.length_singleton] at this
      simp [← this]
   · rw [List.getElem?_map] at h1
     cases hi : s[i]? with
     | none => rw [hi] at h1; cases h1
     | some c =>
      rw [hi] at h1
      cases h1
      have hsz := (hw _ (List.mem_map.2 ⟨c, List.mem_of_getElem? hi, rfl⟩)).1
      simp only [V.cells, List.length_singleton] at hsz
      cases j with
      | succ j => cases h2
      | zero =>
       cases h2
       refine ⟨_, ?_, .int _ _⟩
       rw [← hsz, Nat.mul_one, Nat.add_zero, List.getElem?_map, hi]
       rfl
   · obtain ⟨c, _, rfl⟩ := List.mem_map.1 hy
     rfl
 | msl nm gen i len =>
  simp only [srcR] at hy
  split at hy
  · rename_i gen' rows hv
    cases hb0 : Nat.beq gen gen' with
    | false => rw [hb0] at hy; cases hy
    | true =>
     rw [hb0] at hy
     have eg := Nat.eq_of_beq_eq_true hb0
     subst eg
     simp only [cond_true] at hy
     cases hy
     have hemp : ∀ (ad : Option Addr) (cap : Nat), (rows.drop i).take len = [] → ∃ news : List Value, Reads P w size ((rows.drop i).take len).length (.slice ad ((rows.drop i).take len).length cap) news ∧ news.length = ((rows.drop i).take len).length * size ∧ (∀ (a j : Nat) (row v : V), ((rows.drop i).take len)[a]? = some row → row.cells[j]? = some v → ∃ y, news[a * size + j]? = some y ∧ RepP w S v y) ∧ ∀ y ∈ news, y.oneCell' = true := by
      intro ad cap he
      rw [he]
      refine ⟨[], ⟨.inl ⟨ad, cap, rfl⟩, fun w' _ => ?_⟩, by simp, fun i j row v h => by simp at h, fun y hy => by simp at hy⟩
      cases ad with
      | none => exact run_firstCells_none w' size 0 0 cap
      | some b => exact run_firstCells_some w' size 0 b 0 cap [] (by simp) (fun j v h => by simp at h)
     cases ry with
     | pure h => cases h
     | msl _ _ _ _ _ ho hn hg h =>
      rcases h rows hv with ⟨b, m, cap, hθ, hle, rfl, hck, hlen⟩ | ⟨hl0, ad, rfl⟩
      · have hxl : ((rows.drop i).take len).length = len := by simp; omega
        by_cases he : (rows.drop i).take len = []
        · have hl0 : len = 0 := by rw [← hxl, he]; rfl
          have := hemp (some ⟨b, i * m, none⟩) cap he
          rw [hxl] at this
          rw [hxl]
          exact this
        · have hblk := hs.hblk nm
          rw [hv] at hblk
          rcases hblk with ⟨h2, _⟩ | ⟨b', m', c, e, h2, h3, h4, h5, h6⟩
          · rw [hθ] at h2; cases h2
          · have eb : b' = b ∧ m' = m := by rw [hθ] at h2; simp at h2; exact ⟨h2.1.symm, h2.2.symm⟩
            obtain ⟨rfl, rfl⟩ := eb
            have hin : ∀ row ∈ (rows.drop i).take len, row ∈ rows := fun row hr => List.mem_of_mem_drop (List.mem_of_mem_take hr)
            have em : m' = size := by
             obtain ⟨row, hr⟩ := List.exists_mem_of_ne_nil _ he
             rw [← h4 row (hin row hr), (hw row hr).1]
            subst em
            have hwm : ∀ row ∈ (rows.drop i).take len, row.cells.length = m' := fun row hr => h4 row (hin row hr)
            have hc : ∀ (a j : Nat) (row v : V), ((rows.drop i).take len)[a]? = some row → row.cells[j]? = some v → w.cell? ⟨b', i * m' + a * m' + j, none⟩ = some ((c[(i + a) * m' + j]?).getD undef) ∧ RepP w S v ((c[(i + a) * m' + j]?).getD undef) := by
             intro a j row v q1 q2
             have q3 : rows[i + a]? = some row := by
              rw [List.getElem?_take] at q1
              split at q1
              · rw [List.getElem?_drop] at q1; exact q1
              · cases q1
             obtain ⟨y, k1, k2⟩ := h6 (i + a) j row v q3 q2
             rw [k1]
             refine ⟨?_, k2⟩
             rw [cell_of_row w b' (i * m' + a * m' + j) c e _ h3, ← Nat.add_mul, k1]
             rfl
            obtain ⟨cs, k1, k2, k3, k4⟩ := rows_flat h0 hwm hc
            rw [hxl] at k1 ⊢
            refine ⟨cs, ⟨.inl ⟨_, cap, rfl⟩, fun w' hw' => ?_⟩, k1, k3, k4 fun row hr => (hw row hr).2⟩
            exact run_firstCells_some w' m' len _ _ cap cs k1 (fun j v hj => by unfold World.cell?; rw [hw']; exact k2 j v hj)
      · have he : (rows.drop i).take len = [] := by rw [hl0]; simp
        have hxl : ((rows.drop i).take len).length = 0 := by rw [he]; rfl
        have := hemp ad 0 he
        rw [hxl] at this
        rw [hxl]
        exact this
  · cases hy
 | _ => simp only [srcR] at hy; cases hy
theorem ap_vec {size bytes k : Nat} {T U ty e : TypeId} {i : TypeInfo} {z x y : Value} {nm : Nat} {rows xs : List V} (hst : Stable J) (hs : St J w S F θ σ l g)
  (hU : UTy P U) (hu : P.underlying T = some (.slice e)) (hi : P.info? e = some i) (hz : i.zero = some z) (hsize : i.size = size) (hby : i.bytes = bytes) (hzs : z.cells.size = size) (h0 : 0 < size) (hty : tyOk nm e)
  (rx : Rep w S θ σ l (.sl (.own nm) rows) x) (hnews : ∃ news : List Value, Reads P w size xs.length y news ∧ news.length = xs.length * size ∧ (∀ (i j : Nat) (row v : V), xs[i]? = some row → row.cells[j]? = some v → ∃ y, news[i * size + j]? = some y ∧ RepP w S v y) ∧ ∀ y ∈ news, y.oneCell' = true) (hv : σ nm = .vec k) (hk : rows.length = k) (hw : wd nm = size)
  (hxs : ∀ row ∈ xs, row.cells.length = size ∧ row.cells.all leafB = true) (hb : (k + xs.length) * bytes ≤ 140737488355328) (hn : k + xs.length ≤ 140737488355328)
  (hK : K (.sl (.own nm) (rows ++ xs)) (ups σ nm (.vec (k + xs.length))) g) :
  ∃ x' w', (Builtin.append_ #[T, U] ty #[x, y]).run P w = .ok x' w' ∧ OpPost J w S F θ σ l K x' w' := by
 subst hsize hby
 obtain ⟨news, n1, n2, n3, n4⟩ := hnews
 have hblk := hs.hblk nm
 rw [hv] at hblk
 by_cases hx : xs = []
 ·
  subst hx
  have hnews : news = [] := List.eq_nil_of_length_eq_zero (by simpa using n2)
  subst hnews
  obtain ⟨ad, cap, e1, hcap, _⟩ := rx.sl_inv
  refine ⟨x, w, by rw [e1]; exact ap_same T U ty e i hU hu hi ad rows.length cap y n1 hcap, ?_⟩
  have hσ : ups σ nm (.vec (k + ([] : List V).length)) = σ := by rw [List.length_nil, Nat.add_zero, ← hv]; exact ups_self σ nm
  rw [hσ, List.append_nil] at hK
  exact OpPost.same hs hK rx
 have hxl : 0 < xs.length := List.length_pos_iff.2 hx
 have grow : ∀ (base : Option Addr) (cap : Nat) (olds : List Value), x = .slice base rows.length cap → cap < k + xs.length → Reads P w i.size rows.length (.slice base rows.length cap) olds → olds.length = rows.length * i.size →
   (∀ (q j : Nat) (row v : V), rows[q]? = some row → row.cells[j]? = some v → ∃ y, olds[q * i.size + j]? = some y ∧ RepP w S v y) → (∀ row ∈ rows, row.cells.length = i.size) →
   ∃ x' w', (Builtin.append_ #[T, U] ty #[x, y]).run P w = .ok x' w' ∧ OpPost J w S F θ σ l K x' w' := by
  intro base cap olds ex hlt ho1 ho2 ho3 hwr
  subst ex
  have hrun := ap_grow (P := P) (w := w) T U ty e i z hU hu hi hz base rows.length cap xs.length olds y news ho1 n1 (by omega) (by rw [hk]; exact hb) (by omega)
  have hge : rows.length + xs.length ≤ grownCap w (rows.length + xs.length) cap e := grownCap_ge w _ cap e
  generalize hC : grownCap w (rows.length + xs.length) cap e = C at hrun hge
  obtain ⟨cs, hcs⟩ : ∃ cs : Array Value, cs = olds.toArray ++ news.toArray ++ Builtin.zeroCells z.cells (C - (rows.length + xs.length)) := ⟨_, rfl⟩
  rw [← hcs] at hrun
  have hcl : cs.toList = olds ++ news ++ (Builtin.zeroCells z.cells (C - (rows.length + xs.length))).toList := by rw [hcs]; simp
  have hsz : cs.size = C * i.size := by
   rw [hcs]
   simp only [Array.size_append, List.size_toArray, size_zeroCells, hzs, ho2, n2, ← Nat.add_mul]
   congr 1
   omega
  have hmul : (k + xs.length) * i.size ≤ C * i.size := Nat.mul_le_mul_right _ (by omega)
  have hfr := Fr.vmove hs (.cells cs e (0, 0)) nm i.size k (k + xs.length) hv (by omega)
  refine ⟨_, _, hrun, _, _, g, _, F, _, hK, St.vmove hst hs (.cells cs e (0, 0)) nm i.size k (k + xs.length) hv (by omega) (.inr ⟨w.heap.size, i.size, cs, e, upn_self _ _ _, heap_alloc_new' w.drew _, hw.symm, by rw [hsz]; exact hmul, hty⟩), hfr, ?_⟩
  have hcell : ∀ (q j : Nat) (row v : V), (rows ++ xs)[q]? = some row → row.cells[j]? = some v → ∃ y, cs.toList[q * i.size + j]? = some y ∧ RepP w S v y := by
   rw [hcl]; exact two_rows ho2 ho3 n3
  rw [← List.length_append] at *
  have := Rep.own (w := w.drew.alloc (.cells cs e (0, 0))) (S := fun b => S b ∨ ∃ m, θ nm = some (b, m)) (θ := upn θ nm (some (w.heap.size, i.size))) (σ := ups σ nm (.vec (k + xs.length))) (l := l)
   nm (rows ++ xs) w.heap.size 0 C i.size (fun q j => cs.toList.getD (q * i.size + j) undef) (by rw [upt_self]; intro h; cases h) (.inr ⟨i.size, k + xs.length, upn_self _ _ _, upt_self _ _ _, by simp [hk]⟩) hge ?_ ?_ ?_ ?_
  · exact this
  · intro row hrow
    rcases List.mem_append.1 hrow with hrow | hrow
    · exact hwr row hrow
    · exact (hxs row hrow).1
  · intro q j row v h1 h2
    obtain ⟨y, hy, hr⟩ := hcell q j row v h1 h2
    rw [Nat.zero_add, getD_of hy]
    have := cell_of_row (w.drew.alloc (.cells cs e (0, 0))) w.heap.size (q * i.size + j) cs e (0, 0) (heap_alloc_new' w.drew _)
    rw [this]
    simpa using hy
  · intro q j row v h1 h2
    obtain ⟨y, hy, hr⟩ := hcell q j row v h1 h2
    rw [getD_of hy]
    exact hr.mono (hfr.stable hs) hfr.smono
  · intro k' hk'
    rw [upt_self] at hk'
    injection hk' with hk'
    exact ⟨by simp; omega, fun _ => ⟨upn_self _ _ _, rfl, cs, e, heap_alloc_new' w.drew _, by rw [hsz]; exact Nat.le_refl _⟩⟩
 cases rx with
 | pure h => cases h
 | ownemp _ ad hne =>
  refine grow ad 0 [] rfl (by simp at hk; omega) (reads_nil _ _ _) (by simp) (fun q j row v h => by simp at h) (by simp)
 | own _ _ b off cap m ys hne hbs hcap hwr hc hr hf =>
  obtain ⟨hle, hfull⟩ := hf k hv
  obtain ⟨hθ, rfl, hco⟩ := hfull hk
  rcases hblk with ⟨h2, _⟩ | ⟨b', m', c, e', h2, h3, h4⟩
  · rw [hθ] at h2; cases h2
  have eb : b' = b ∧ m' = m := by rw [hθ] at h2; simp at h2; exact ⟨h2.1.symm, h2.2.symm⟩
  obtain ⟨rfl, rfl⟩ := eb
  have em : m' = i.size := by rw [h4.1, hw]
  subst em
  by_cases hroom : rows.length + xs.length ≤ cap
  ·
   obtain ⟨c2, e2, h5, h6⟩ := hco
   rw [h3] at h5
   injection h5 with h5
   injection h5 with h5 h7
   subst h5 h7
   have hfit : rows.length * i.size + news.length ≤ c.size := by
    rw [n2, ← Nat.add_mul]
    exact Nat.le_trans (Nat.mul_le_mul_right _ hroom) h6
   have hrun := ap_room (P := P) (w := w) T U ty e e' i hU hu hi b' rows.length cap xs.length c h3 y news n1 n4 hroom hfit
   obtain ⟨c', hc'⟩ : ∃ c' : Array Value, c' = (c.toList.take (rows.length * i.size) ++ news ++ c.toList.drop (rows.length * i.size + news.length)).toArray := ⟨_, rfl⟩
   rw [← hc'] at hrun
   have hcs : c'.size = c.size := by rw [hc']; have := splice_len c.toList news (rows.length * i.size) (by simpa using hfit); simpa using this
   have hget : ∀ q, c'[q]? = if rows.length * i.size ≤ q ∧ q < rows.length * i.size + news.length then news[q - rows.length * i.size]? else c.toList[q]? := by
    intro q; rw [hc', List.getElem?_toArray]; exact splice_get c.toList news (rows.length * i.size) (by simpa using hfit) q
   have hbig : (k + xs.length) * i.size ≤ c.size := by rw [← hk, Nat.add_mul, ← n2]; exact hfit
   have hfr := Fr.write hs nm b' i.size c c' e' (.vec (k + xs.length)) (live_vec hv) hθ h3 hcs (by
    rw [hv]
    refine ⟨⟨_, rfl, Nat.le_add_right _ _⟩, fun j hj => ?_⟩
    rw [hget, if_neg (by rw [hk]; omega)]; simp)
   refine ⟨_, _, hrun, _, _, g, S, F, θ, hK, St.write hst hs nm b' i.size c' _ (live_vec hv) hθ hfr (.inr ⟨b', i.size, c', e', hθ, setRow_heap w b' c c' _ _ h3, hw.symm, by rw [hcs]; exact hbig, h4.2.2⟩), hfr, ?_⟩
   have hcell : ∀ (q j : Nat) (row v : V), (rows ++ xs)[q]? = some row → row.cells[j]? = some v → ∃ y, c'[q * i.size + j]? = some y ∧ RepP w S v y := by
    intro q j row v hq hj
    by_cases cq : q < rows.length
    · rw [List.getElem?_append_left cq] at hq
      have hjl := (List.getElem?_eq_some_iff.1 hj).1
      rw [hwr row (mem_of_get hq)] at hjl
      have : (q + 1) * i.size ≤ rows.length * i.size := Nat.mul_le_mul_right _ cq
      rw [Nat.succ_mul] at this
      refine ⟨ys q j, ?_, hr q j row v hq hj⟩
      rw [hget, if_neg (by omega)]
      have h8 := hc q j row v hq hj
      rw [cell_of_row w b' _ c e' _ h3, Nat.zero_add] at h8
      simpa using h8
    · rw [List.getElem?_append_right (by omega)] at hq
      obtain ⟨yv, hy, hrr⟩ := n3 _ j row v hq hj
      have hlt := (List.getElem?_eq_some_iff.1 hy).1
      have e : q * i.size = rows.length * i.size + (q - rows.length) * i.size := by rw [← Nat.add_mul]; congr 1; omega
      refine ⟨yv, ?_, hrr⟩
      rw [hget, if_pos (by omega), show q * i.size + j - rows.length * i.size = (q - rows.length) * i.size + j from by omega]
      exact hy
   rw [← List.length_append]
   refine .own nm (rows ++ xs) b' 0 cap i.size (fun q j => c'.toList.getD (q * i.size + j) undef) (by rw [upt_self]; intro h; cases h) (.inr ⟨i.size, k + xs.length, hθ, upt_self _ _ _, by simp [hk]⟩) (by simp; omega) ?_ ?_ ?_ ?_
   · intro row hrow
     rcases List.mem_append.1 hrow with hrow | hrow
     · exact hwr row hrow
     · exact (hxs row hrow).1
   · intro q j row v h1 h2
     obtain ⟨yv, hy, hrr⟩ := hcell q j row v h1 h2
     rw [Nat.zero_add, cell_of_row _ _ _ c' e' (0, 0) (setRow_heap w b' c c' _ _ h3), hy, getD_of (by simpa using hy)]
   · intro q j row v h1 h2
     obtain ⟨yv, hy, hrr⟩ := hcell q j row v h1 h2
     rw [getD_of (by simpa using hy)]
     exact hrr.mono (hfr.stable hs) hfr.smono
   · intro k' hk'
     rw [upt_self] at hk'
     injection hk' with hk'
     exact ⟨by simp; omega, fun _ => ⟨hθ, rfl, c', e', setRow_heap w b' c c' _ _ h3, by rw [hcs]; exact h6⟩⟩
  · obtain ⟨olds, o1, o2, o3⟩ := olds_of (P := P) (cap := cap) h0 hwr (fun q j row v h1 h2 => ⟨hc q j row v h1 h2, hr q j row v h1 h2⟩)
    exact grow _ cap olds rfl (by omega) o1 o2 o3 hwr
theorem ap_arr {size bytes gen len : Nat} {T U ty e : TypeId} {i : TypeInfo} {z x y : Value} {nm : Nat} {rows xs : List V} (hst : Stable J) (hs : St J w S F θ σ l g)
  (hU : UTy P U) (hu : P.underlying T = some (.slice e)) (hi : P.info? e = some i) (hz : i.zero = some z) (hsize : i.size = size) (hby : i.bytes = bytes) (hzs : z.cells.size = size) (h0 : 0 < size)
  (rx : Rep w S θ σ l (.msl nm gen 0 len) x) (hnews : ∃ news : List Value, Reads P w size xs.length y news ∧ news.length = xs.length * size ∧ (∀ (i j : Nat) (row v : V), xs[i]? = some row → row.cells[j]? = some v → ∃ y, news[i * size + j]? = some y ∧ RepP w S v y) ∧ ∀ y ∈ news, y.oneCell' = true) (hv : σ nm = .arr gen rows) (hw : wd nm = size)
  (hxs : ∀ row ∈ xs, row.cells.length = size ∧ row.cells.all leafB = true) (hb : (len + xs.length) * bytes ≤ 140737488355328) (hn : len + xs.length ≤ 140737488355328)
  (hK : K (.msl nm (gen + 1) 0 (len + xs.length)) (ups σ nm (.arr (gen + 1) (rows.take len ++ xs))) g) :
  ∃ x' w', (Builtin.append_ #[T, U] ty #[x, y]).run P w = .ok x' w' ∧ OpPost J w S F θ σ l K x' w' := by
 subst hsize hby
 obtain ⟨news, n1, n2, n3, n4⟩ := hnews
 have hblk := hs.hblk nm
 rw [hv] at hblk
 have hused : ∀ rows', ups σ nm (.arr (gen + 1) rows') nm ≠ .unused := by intro rows'; rw [upt_self]; intro h; cases h
 have hg1 : ∀ rows', ∀ gen' rows1, ups σ nm (.arr (gen + 1) rows') nm = .arr gen' rows1 → gen + 1 ≤ gen' := by
  intro rows' gen' rows1 h
  rw [upt_self] at h
  injection h with h1 h2
  omega
 have grow : ∀ (base : Option Addr) (cap : Nat) (olds : List Value), x = .slice base len cap → cap < len + xs.length → Reads P w i.size len (.slice base len cap) olds → olds.length = (rows.take len).length * i.size → (rows.take len).length = len →
   (∀ (q j : Nat) (row v : V), (rows.take len)[q]? = some row → row.cells[j]? = some v → ∃ y, olds[q * i.size + j]? = some y ∧ RepP w S v y) → (∀ row ∈ rows.take len, row.cells.length = i.size) →
   ∃ x' w', (Builtin.append_ #[T, U] ty #[x, y]).run P w = .ok x' w' ∧ OpPost J w S F θ σ l K x' w' := by
  intro base cap olds ex hlt ho1 ho2 hlen ho3 hwr
  subst ex
  have hrun := ap_grow (P := P) (w := w) T U ty e i z hU hu hi hz base len cap xs.length olds y news ho1 n1 (by omega) hb (by omega)
  have hge : len + xs.length ≤ grownCap w (len + xs.length) cap e := grownCap_ge w _ cap e
  generalize hC : grownCap w (len + xs.length) cap e = C at hrun hge
  obtain ⟨cs, hcs⟩ : ∃ cs : Array Value, cs = olds.toArray ++ news.toArray ++ Builtin.zeroCells z.cells (C - (len + xs.length)) := ⟨_, rfl⟩
  rw [← hcs] at hrun
  have hcl : cs.toList = olds ++ news ++ (Builtin.zeroCells z.cells (C - (len + xs.length))).toList := by rw [hcs]; simp
  have hsz : cs.size = C * i.size := by
   rw [hcs]
   simp only [Array.size_append, List.size_toArray, size_zeroCells, hzs, ho2, n2, ← Nat.add_mul]
   congr 1
   omega
  have hmul : (len + xs.length) * i.size ≤ C * i.size := Nat.mul_le_mul_right _ hge
  have hfr := Fr.amove hs (.cells cs e (0, 0)) nm i.size gen rows (rows.take len ++ xs) hv
  have hcell : ∀ (q j : Nat) (row v : V), (rows.take len ++ xs)[q]? = some row → row.cells[j]? = some v → ∃ y, cs.toList[q * i.size + j]? = some y ∧ RepP w S v y := by
   rw [hcl]; exact two_rows ho2 ho3 n3
  have hwall : ∀ row ∈ rows.take len ++ xs, row.cells.length = i.size := by
   intro row hrow
   rcases List.mem_append.1 hrow with hrow | hrow
   · exact hwr row hrow
   · exact (hxs row hrow).1
  refine ⟨_, _, hrun, _, _, g, _, F, _, hK, St.amove hst hs (.cells cs e (0, 0)) nm i.size gen rows (rows.take len ++ xs) hv (.inr ⟨w.heap.size, i.size, cs, e, upn_self _ _ _, heap_alloc_new' w.drew _, hwall, ⟨hw.symm, by rw [hsz, List.length_append, hlen]; exact hmul⟩, fun q j row v h1 h2 => ?_⟩), hfr, ?_⟩
  · obtain ⟨yv, hy, hr⟩ := hcell q j row v h1 h2
    exact ⟨yv, by simpa using hy, hr.mono (hfr.stable hs) hfr.smono⟩
  · exact .msl nm (gen + 1) 0 (len + xs.length) _ rfl (hused _) (hg1 _) fun rows1 h1 => .inl ⟨w.heap.size, i.size, C, upn_self _ _ _, hge, by simp, ⟨cs, e, heap_alloc_new' w.drew _, by simp [hsz]⟩, by
     rw [upt_self] at h1
     injection h1 with _ h1
     rw [← h1, List.length_append, hlen]; omega⟩
 cases rx with
 | pure h => cases h
 | msl _ _ _ _ _ ho hne hg hx =>
  rcases hx rows hv with ⟨b, m, cap, hθ, hle, e1, hco, hlen⟩ | ⟨rfl, ad, e1⟩
  · rcases hblk with ⟨h2, _⟩ | ⟨b', m', c, e', h2, h3, h4, h5, h6⟩
    · rw [hθ] at h2; cases h2
    have eb : b' = b ∧ m' = m := by rw [hθ] at h2; simp at h2; exact ⟨h2.1.symm, h2.2.symm⟩
    obtain ⟨rfl, rfl⟩ := eb
    have em : m' = i.size := by rw [h5.1, hw]
    subst em
    have hlt : (rows.take len).length = len := by simp; omega
    have hwr : ∀ row ∈ rows.take len, row.cells.length = i.size := fun row hrow => h4 row (List.mem_of_mem_take hrow)
    have hrow : ∀ (q j : Nat) (row v : V), (rows.take len)[q]? = some row → row.cells[j]? = some v → ∃ y, c[q * i.size + j]? = some y ∧ RepP w S v y := by
     intro q j row v h7 h8
     rw [List.getElem?_take] at h7
     split at h7
     · exact h6 q j row v h7 h8
     · cases h7
    rw [Nat.zero_mul] at e1
    by_cases hroom : len + xs.length ≤ cap
    · obtain ⟨c2, e2, k5, k6⟩ := hco
      rw [h3] at k5
      injection k5 with k5
      injection k5 with k5 k7
      subst k5 k7
      rw [Nat.zero_add] at k6
      have hfit : len * i.size + news.length ≤ c.size := by
       rw [n2, ← Nat.add_mul]
       exact Nat.le_trans (Nat.mul_le_mul_right _ hroom) k6
      have hrun := ap_room (P := P) (w := w) T U ty e e' i hU hu hi b' len cap xs.length c h3 y news n1 n4 hroom hfit
      obtain ⟨c', hc'⟩ : ∃ c' : Array Value, c' = (c.toList.take (len * i.size) ++ news ++ c.toList.drop (len * i.size + news.length)).toArray := ⟨_, rfl⟩
      rw [← hc'] at hrun
      have hcs : c'.size = c.size := by rw [hc']; have := splice_len c.toList news (len * i.size) (by simpa using hfit); simpa using this
      have hget : ∀ q, c'[q]? = if len * i.size ≤ q ∧ q < len * i.size + news.length then news[q - len * i.size]? else c.toList[q]? := by
       intro q; rw [hc', List.getElem?_toArray]; exact splice_get c.toList news (len * i.size) (by simpa using hfit) q
      have hbig : (len + xs.length) * i.size ≤ c.size := by rw [Nat.add_mul, ← n2]; exact hfit
      have hfr := Fr.write hs nm b' i.size c c' e' (.arr (gen + 1) (rows.take len ++ xs)) (live_arr hv) hθ h3 hcs (by rw [hv]; exact ⟨rows, .inr ⟨_, rfl⟩⟩)
      subst e1
      refine ⟨_, _, hrun, _, _, g, S, F, θ, hK, St.write hst hs nm b' i.size c' _ (live_arr hv) hθ hfr (.inr ⟨b', i.size, c', e', hθ, setRow_heap w b' c c' _ _ h3, ?_, ⟨hw.symm, by rw [hcs, List.length_append, hlt]; exact hbig⟩, fun q j row v hq hj => ?_⟩), hfr, ?_⟩
      · intro row hr
        rcases List.mem_append.1 hr with hr | hr
        · exact hwr row hr
        · exact (hxs row hr).1
      · by_cases cq : q < len
        · rw [List.getElem?_append_left (by omega)] at hq
          have hjl := (List.getElem?_eq_some_iff.1 hj).1
          rw [hwr row (mem_of_get hq)] at hjl
          have : (q + 1) * i.size ≤ len * i.size := Nat.mul_le_mul_right _ cq
          rw [Nat.succ_mul] at this
          obtain ⟨yv, hy, hr⟩ := hrow q j row v hq hj
          refine ⟨yv, ?_, hr.mono (hfr.stable hs) hfr.smono⟩
          rw [hget, if_neg (by omega)]
          simpa using hy
        · rw [List.getElem?_append_right (by omega), hlt] at hq
          obtain ⟨yv, hy, hrr⟩ := n3 _ j row v hq hj
          have hlt' := (List.getElem?_eq_some_iff.1 hy).1
          have e : q * i.size = len * i.size + (q - len) * i.size := by rw [← Nat.add_mul]; congr 1; omega
          refine ⟨yv, ?_, hrr.mono (hfr.stable hs) hfr.smono⟩
          rw [hget, if_pos (by omega), show q * i.size + j - len * i.size = (q - len) * i.size + j from by omega]
          exact hy
      · exact .msl nm (gen + 1) 0 (len + xs.length) _ rfl (hused _) (hg1 _) fun rows1 h1 => .inl ⟨b', i.size, cap, hθ, hroom, by simp, ⟨c', e', setRow_heap w b' c c' _ _ h3, by rw [hcs, Nat.zero_add]; exact k6⟩, by
         rw [upt_self] at h1
         injection h1 with _ h1
         rw [← h1, List.length_append, hlt]; omega⟩
    · have hrow2 : ∀ (q j : Nat) (row v : V), (rows.take len)[q]? = some row → row.cells[j]? = some v → w.cell? ⟨b', 0 + q * i.size + j, none⟩ = some (c.getD (q * i.size + j) undef) ∧ RepP w S v (c.getD (q * i.size + j) undef) := by
       intro q j row v hq hj
       obtain ⟨yv, hy, hr⟩ := hrow q j row v hq hj
       have hi := Array.getElem?_eq_some_iff.1 hy
       have e2 : c.getD (q * i.size + j) undef = yv := by simp [Array.getD, hi.1, hi.2]
       rw [e2, cell_of_row w b' _ c e' _ h3, Nat.zero_add]
       exact ⟨hy, hr⟩
      obtain ⟨olds, o1, o2, o3⟩ := olds_of (P := P) (cap := cap) (ys := fun q j => c.getD (q * i.size + j) undef) h0 hwr hrow2
      rw [hlt] at o1
      exact grow _ cap olds e1 (by omega) o1 o2 hlt o3 hwr
  · by_cases hx : xs = []
    · subst hx
      have hnews : news = [] := List.eq_nil_of_length_eq_zero (by simpa using n2)
      subst hnews
      subst e1
      refine ⟨_, w, ap_same T U ty e i hU hu hi ad 0 0 y n1 (Nat.le_refl _), _, _, g, S, F, θ, hK, St.regen hst hs nm gen rows _ hv ?_, Fr.regen nm gen rows _ hv, ?_⟩
      · simp only [List.take_zero, List.append_nil]
        rcases hblk with ⟨h2, _⟩ | ⟨b', m', c, e', h2, h3, h4, h5, h6⟩
        · exact .inl ⟨h2, rfl⟩
        · exact .inr ⟨b', m', c, e', h2, h3, by simp, ⟨h5.1, by simp⟩, fun q j row v h => by simp at h⟩
      · exact .msl nm (gen + 1) 0 _ _ rfl (hused _) (hg1 _) fun rows1 h1 => .inr ⟨rfl, ad, rfl⟩
    · have hxl : 0 < xs.length := List.length_pos_iff.2 hx
      exact grow ad 0 [] e1 (by omega) (reads_nil _ _ _) (by simp) (by simp) (fun q j row v h => by simp at h) (by simp)
theorem sop_append {size bytes et : Nat} {y z : Opd} (hst : Stable J) (hs : St J w S F θ σ l g) (he : EnvRep w S θ σ l ρ a.tmps) (hc : chkOp P o.op (.append size bytes et y z) = true) (h : AWop P H ρ σ g (.append size bytes et y z) K) : RunsTo P o a w (OpPost J w S F θ σ l K) := by
 cases ho : o.op <;> rw [ho] at hc <;> simp only [chkOp, Bool.false_eq_true] at hc
 rename_i c
 simp only [Bool.and_eq_true] at hc
 obtain ⟨hc1, hc2⟩ := hc
 split at hc1
 · rename_i hcal
   split at hc2
   · rename_i p q t u hargs htys
     simp only [Bool.and_eq_true] at hc2
     obtain ⟨⟨⟨⟨hp, hq⟩, htu⟩, hsl⟩, hel⟩ := hc2
     obtain ⟨e, i, zv, hu, hi, hz, hsize, hby, hzs, h0⟩ := sliceZ_facts hsl
     have het : e = et := by
      unfold tElem at hel
      rw [hu] at hel
      exact Nat.eq_of_beq_eq_true hel
     have hU : UTy P u := by
      rcases Bool.or_eq_true_iff.1 htu with h1 | h1
      · have := Nat.eq_of_beq_eq_true h1
        subst this
        exact .inl ⟨e, hu⟩
      · unfold tString at h1
        split at h1
        · exact .inr (by assumption)
        · cases h1
     have rx := opd_rep he hp
     have ry := opd_rep he hq
     obtain ⟨callee, args, argTypes⟩ := c
     dsimp only at hcal hargs htys
     subst hcal
     have hargs' : args = #[p, q] := by rw [← hargs]
     have htys' : argTypes = #[t, u] := by rw [← htys]
     subst hargs' htys'
     have fin : (∃ x' w', (Builtin.append_ #[t, u] o.type #[a.eval p, a.eval q]).run P w = .ok x' w' ∧ OpPost J w S F θ σ l K x' w') → RunsTo P o a w (OpPost J w S F θ σ l K) := by
      rintro ⟨x', w', h1, h2⟩
      refine ⟨x', w', .inl ?_, h2⟩
      simp [execOp, ho, resolve, invoke, builtin, h1]
     simp only [AWop] at h
     split at h
     · rename_i nm rows xs hx hy
       rw [hx] at rx
       split at h
       · rename_i k hv
         obtain ⟨hk, hw, hxs, hb, hn, hK⟩ := h
         rw [Bool.and_eq_true] at hw
         exact fin (ap_vec hst hs hU hu hi hz hsize hby hzs h0 (by rw [het]; exact tyOk_of hw.2) rx (news_src hs ry hy h0 hxs) hv hk (Nat.eq_of_beq_eq_true hw.1) hxs hb hn hK)
       · exact h.elim
     · rename_i nm gen len xs hx hy
       rw [hx] at rx
       split at h
       · rename_i gen' rows hv
         obtain ⟨rfl, hw, hxs, hb, hn, hK⟩ := h
         exact fin (ap_arr hst hs hU hu hi hz hsize hby hzs h0 rx (news_src hs ry hy h0 hxs) hv (Nat.eq_of_beq_eq_true hw) hxs hb hn hK)
       · exact h.elim
     · exact h.elim
   · cases hc2
 · cases hc1
theorem flat_len {m : Nat} : ∀ {xs : List V}, (∀ row ∈ xs, row.cells.length = m) → (flatC xs).length = xs.length * m
 | [], _ => by simp [flatC]
 | r :: xs, h => by
  simp only [flatC, List.length_append, List.length_cons, flat_len (xs := xs) fun row hr => h row (by simp [hr]), h r (by simp), Nat.succ_mul]
  omega
theorem flat_get {m : Nat} : ∀ {xs : List V}, (∀ row ∈ xs, row.cells.length = m) → ∀ {q : Nat} {v : V}, (flatC xs)[q]? = some v → ∃ i j row, xs[i]? = some row ∧ row.cells[j]? = some v ∧ q = i * m + j
 | [], _, q, v, hq => by simp [flatC] at hq
 | r :: xs, h, q, v, hq => by
  simp only [flatC] at hq
  have hr := h r (by simp)
  by_cases c : q < r.cells.length
  · rw [List.getElem?_append_left c] at hq
    exact ⟨0, q, r, rfl, hq, by omega⟩
  · rw [List.getElem?_append_right (by omega)] at hq
    obtain ⟨i, j, row, h1, h2, h3⟩ := flat_get (xs := xs) (fun row hr => h row (by simp [hr])) hq
    exact ⟨i + 1, j, row, by simpa using h1, h2, by rw [Nat.succ_mul]; omega⟩
theorem flat_at {m : Nat} : ∀ {xs : List V}, (∀ row ∈ xs, row.cells.length = m) → ∀ {i j : Nat} {row v : V}, xs[i]? = some row → row.cells[j]? = some v → (flatC xs)[i * m + j]? = some v
 | [], _, i, j, row, v, h1, _ => by simp at h1
 | r :: xs, h, 0, j, row, v, h1, h2 => by
  simp only [List.getElem?_cons_zero, Option.some.injEq] at h1
  subst h1
  simp only [flatC]
  rw [List.getElem?_append_left (by have := (List.getElem?_eq_some_iff.1 h2).1; omega)]
  simpa using h2
 | r :: xs, h, i + 1, j, row, v, h1, h2 => by
  have hr := h r (by simp)
  simp only [flatC]
  rw [List.getElem?_append_right (by rw [Nat.succ_mul]; omega), show (i + 1) * m + j - r.cells.length = i * m + j from by rw [Nat.succ_mul]; omega]
  exact flat_at (xs := xs) (fun row hr => h row (by simp [hr])) (by simpa using h1) h2
theorem ap_rgrow {size bytes n cap : Nat} {T U ty e : TypeId} {i : TypeInfo} {z y : Value} {base : Option Addr} {olds : List Value} {lo : List V} {nm : Nat} {xs : List V} (hst : Stable J) (hs : St J w S F θ σ l g)
  (hU : UTy P U) (hu : P.underlying T = some (.slice e)) (hi : P.info? e = some i) (hz : i.zero = some z) (hsize : i.size = size) (hby : i.bytes = bytes) (hzs : z.cells.size = size)
  (ho : Reads P w size n (.slice base n cap) olds) (hol : olds.length = n * size) (hll : lo.length = n * size) (hcell : ∀ (q : Nat) (v : V), lo[q]? = some v → ∃ y, olds[q]? = some y ∧ Rep w S θ σ l v y)
  (hnews : ∃ news : List Value, Reads P w size xs.length y news ∧ news.length = xs.length * size ∧ (∀ (i j : Nat) (row v : V), xs[i]? = some row → row.cells[j]? = some v → ∃ y, news[i * size + j]? = some y ∧ RepP w S v y) ∧ ∀ y ∈ news, y.oneCell' = true)
  (hlt : cap < n + xs.length) (hb : (n + xs.length) * bytes ≤ 140737488355328) (hn : n + xs.length ≤ 140737488355328) (hxs : ∀ row ∈ xs, row.cells.length = size ∧ row.cells.all leafB = true)
  (hv : σ nm = .unused) (hty : tyOk nm e)
  (hK : ∀ b' c', n + xs.length ≤ c' → K (.rsl b' (n + xs.length) c') (ups σ nm (.box (.tag b' (lo ++ flatC xs ++ List.replicate ((c' - (n + xs.length)) * size) .any)))) g) :
  ∃ x' w', (Builtin.append_ #[T, U] ty #[.slice base n cap, y]).run P w = .ok x' w' ∧ OpPost J w S F θ σ l K x' w' := by
 subst hsize hby
 obtain ⟨news, n1, n2, n3, n4⟩ := hnews
 have hrun := ap_grow (P := P) (w := w) T U ty e i z hU hu hi hz base n cap xs.length olds y news ho n1 (by omega) hb (by omega)
 have hge : n + xs.length ≤ grownCap w (n + xs.length) cap e := grownCap_ge w _ cap e
 generalize grownCap w (n + xs.length) cap e = C at hrun hge
 obtain ⟨cs, hcs⟩ : ∃ cs : Array Value, cs = olds.toArray ++ news.toArray ++ Builtin.zeroCells z.cells (C - (n + xs.length)) := ⟨_, rfl⟩
 rw [← hcs] at hrun
 have hcl : cs.toList = olds ++ news ++ (Builtin.zeroCells z.cells (C - (n + xs.length))).toList := by rw [hcs]; simp
 have hfl := flat_len (m := i.size) (xs := xs) fun row hr => (hxs row hr).1
 have hsz : cs.size = (lo ++ flatC xs ++ List.replicate ((C - (n + xs.length)) * i.size) V.any).length := by
  rw [hcs]
  simp only [Array.size_append, List.size_toArray, size_zeroCells, hzs, hol, n2, List.length_append, hll, hfl, List.length_replicate]
 obtain ⟨hsd, hfd⟩ := St.drew hst hs
 have hfa := Fr.alloc hsd (.cells cs e (0, 0)) nm (lo ++ flatC xs ++ List.replicate ((C - (n + xs.length)) * i.size) V.any).length (.box (.tag w.heap.size (lo ++ flatC xs ++ List.replicate ((C - (n + xs.length)) * i.size) V.any))) hv
 have hfr := hfd.trans hsd hfa
 refine ⟨_, _, hrun, _, _, g, _, F, _, hK w.heap.size C hge, St.alloc hst hsd (.cells cs e (0, 0)) nm (lo ++ flatC xs ++ List.replicate ((C - (n + xs.length)) * i.size) V.any).length (.box (.tag w.heap.size (lo ++ flatC xs ++ List.replicate ((C - (n + xs.length)) * i.size) V.any))) hv
  ⟨w.heap.size, cs, e, upn_self _ _ _, heap_alloc_new' w.drew _, ⟨hsz, hty, rfl⟩, fun q v hq => ?_⟩, hfr, .pure (.rsl _ _ _ hge)⟩
 have hq : (lo ++ flatC xs ++ List.replicate ((C - (n + xs.length)) * i.size) V.any)[q]? = some v := hq
 have hql := (List.getElem?_eq_some_iff.1 hq).1
 have hget : ∀ k : Nat, cs[k]? = (olds ++ news ++ (Builtin.zeroCells z.cells (C - (n + xs.length))).toList)[k]? := fun k => by rw [← hcl]; simp
 by_cases c1 : q < lo.length
 · rw [List.append_assoc, List.getElem?_append_left c1] at hq
   obtain ⟨yv, hy, hr⟩ := hcell q v hq
   refine ⟨yv, ?_, hr.fr hfr hs⟩
   rw [hget, List.append_assoc, List.getElem?_append_left (by omega)]
   exact hy
 · by_cases c2 : q < lo.length + (flatC xs).length
   · rw [List.append_assoc, List.getElem?_append_right (by omega), List.getElem?_append_left (by omega)] at hq
     obtain ⟨a, j, row, h1, h2, h3⟩ := flat_get (fun row hr => (hxs row hr).1) hq
     obtain ⟨yv, hy, hr⟩ := n3 a j row v h1 h2
     refine ⟨yv, ?_, .pure (hr.mono (hfr.stable hs) hfr.smono)⟩
     rw [hget, List.append_assoc, List.getElem?_append_right (by omega), List.getElem?_append_left (by omega), show q - olds.length = a * i.size + j from by omega]
     exact hy
   · rw [List.getElem?_append_right (by simp; omega)] at hq
     have hva : v = .any := by
      rw [List.getElem?_replicate] at hq
      split at hq
      · cases hq; rfl
      · cases hq
     subst hva
     have hk : q < cs.size := by rw [hsz]; exact hql
     exact ⟨cs[q], Array.getElem?_eq_getElem hk, .pure (.any _)⟩
theorem sop_appR {size bytes et : Nat} {y z : Opd} (hst : Stable J) (hs : St J w S F θ σ l g) (he : EnvRep w S θ σ l ρ a.tmps) (hc : chkOp P o.op (.appR size bytes et y z) = true) (h : AWop P H ρ σ g (.appR size bytes et y z) K) : RunsTo P o a w (OpPost J w S F θ σ l K) := by
 cases ho : o.op <;> rw [ho] at hc <;> simp only [chkOp, Bool.false_eq_true] at hc
 rename_i c
 simp only [Bool.and_eq_true] at hc
 obtain ⟨hc1, hc2⟩ := hc
 split at hc1
 · rename_i hcal
   split at hc2
   · rename_i p q t u hargs htys
     simp only [Bool.and_eq_true] at hc2
     obtain ⟨⟨⟨⟨hp, hq⟩, htu⟩, hsl⟩, hel⟩ := hc2
     obtain ⟨e, i, zv, hu, hi, hz, hsize, hby, hzs, h0⟩ := sliceZ_facts hsl
     have het : e = et := by
      unfold tElem at hel
      rw [hu] at hel
      exact Nat.eq_of_beq_eq_true hel
     have hU : UTy P u := by
      rcases Bool.or_eq_true_iff.1 htu with h1 | h1
      · have := Nat.eq_of_beq_eq_true h1
        subst this
        exact .inl ⟨e, hu⟩
      · unfold tString at h1
        split at h1
        · exact .inr (by assumption)
        · cases h1
     have rx := opd_rep he hp
     have ry := opd_rep he hq
     obtain ⟨callee, args, argTypes⟩ := c
     dsimp only at hcal hargs htys
     subst hcal
     have hargs' : args = #[p, q] := by rw [← hargs]
     have htys' : argTypes = #[t, u] := by rw [← htys]
     subst hargs' htys'
     have fin : (∃ x' w', (Builtin.append_ #[t, u] o.type #[a.eval p, a.eval q]).run P w = .ok x' w' ∧ OpPost J w S F θ σ l K x' w') → RunsTo P o a w (OpPost J w S F θ σ l K) := by
      rintro ⟨x', w', h1, h2⟩
      refine ⟨x', w', .inl ?_, h2⟩
      simp [execOp, ho, resolve, invoke, builtin, h1]
     simp only [AWop] at h
     split at h
     · rename_i xs hx hy
       rw [hx] at rx
       obtain ⟨hne, hxs, hb, hn, nm, hv, hty, hK⟩ := h
       have hnews := news_src (P := P) hs ry hy h0 hxs
       suffices key : ∀ x, Rep w S θ σ l (.sl .nil []) x → ∃ ad, x = .slice ad 0 0 by
        obtain ⟨ad, e1⟩ := key _ rx
        refine fin ?_
        rw [e1]
        have hxl : 0 < xs.length := List.length_pos_iff.2 hne
        exact ap_rgrow (n := 0) (lo := []) (olds := []) hst hs hU hu hi hz hsize hby hzs (reads_nil _ _ _) (by simp) (by simp) (fun q v h => by simp at h) hnews (by omega) (by rw [Nat.zero_add]; exact hb) (by rw [Nat.zero_add]; exact hn) hxs hv (by rw [het]; exact tyOk_of hty)
         (fun b' c' hc' => by
           have := hK b' c' (by omega)
           simp only [Nat.zero_add, List.nil_append]
           exact this)
       intro x hr
       cases hr with
       | pure h1 =>
        cases h1 with
        | nilsl ad => exact ⟨ad, rfl⟩
     · rename_i b n cap xs hx hy
       rw [hx] at rx
       obtain ⟨hne, hxs, hb, hn, nm, ll, hσ, hcap, hroom, hgrow⟩ := h
       have hnews := news_src (P := P) hs ry hy h0 hxs
       obtain ⟨e1, hnc⟩ := rx.rsl_inv
       have hk := hs.hblk nm
       rw [hσ] at hk
       obtain ⟨b', cs, e', h2, h3, ⟨h4, h4t, h4g⟩, h5⟩ := hk
       have eb : b = b' := h4g
       subst eb
       have h4 : cs.size = ll.length := h4
       have hnl : n * size ≤ ll.length := Nat.le_trans (Nat.mul_le_mul_right _ hnc) hcap
       refine fin ?_
       rw [e1]
       by_cases hc : n + xs.length ≤ cap
       · obtain ⟨news, n1, n2, n3, n4⟩ := hnews
         have hfl := flat_len (m := size) (xs := xs) fun row hr => (hxs row hr).1
         have hfit : n * size + news.length ≤ cs.size := by
          rw [n2, ← Nat.add_mul, h4]
          exact Nat.le_trans (Nat.mul_le_mul_right _ hc) hcap
         subst hsize
         have hrun := ap_room (P := P) (w := w) t u o.type e e' i hU hu hi b n cap xs.length cs h3 _ news n1 n4 hc hfit
         obtain ⟨c', hc'⟩ : ∃ c' : Array Value, c' = (cs.toList.take (n * i.size) ++ news ++ cs.toList.drop (n * i.size + news.length)).toArray := ⟨_, rfl⟩
         rw [← hc'] at hrun
         have hcs : c'.size = cs.size := by rw [hc']; have := splice_len cs.toList news (n * i.size) (by simpa using hfit); simpa using this
         have hget : ∀ q, c'[q]? = if n * i.size ≤ q ∧ q < n * i.size + news.length then news[q - n * i.size]? else cs.toList[q]? := by
          intro q; rw [hc', List.getElem?_toArray]; exact splice_get cs.toList news (n * i.size) (by simpa using hfit) q
         have hlget : ∀ q, (ll.take (n * i.size) ++ flatC xs ++ ll.drop (n * i.size + (flatC xs).length))[q]? = if n * i.size ≤ q ∧ q < n * i.size + (flatC xs).length then (flatC xs)[q - n * i.size]? else ll[q]? := fun q =>
          splice_get ll (flatC xs) (n * i.size) (by rw [hfl, ← n2, ← h4]; exact hfit) q
         have hllen := splice_len ll (flatC xs) (n * i.size) (by rw [hfl, ← n2, ← h4]; exact hfit)
         have hfr := Fr.write hs nm b (V.tag b ll).cells.length cs c' e' (.box (.tag b (ll.take (n * i.size) ++ flatC xs ++ ll.drop (n * i.size + (flatC xs).length)))) (live_box hσ) h2 h3 hcs (by rw [hσ]; exact ⟨_, rfl⟩)
         refine ⟨_, _, hrun, _, _, g, S, F, θ, hroom hc, St.write hst hs nm b (V.tag b ll).cells.length c' _ (live_box hσ) h2 hfr ⟨b, c', e', ?_, setRow_heap w b cs c' _ _ h3, ⟨?_, h4t, rfl⟩, fun q v hq => ?_⟩, hfr, .pure (.rsl _ _ _ hc)⟩
         · rw [h2]
           show some (b, ll.length) = some (b, (ll.take (n * i.size) ++ flatC xs ++ ll.drop (n * i.size + (flatC xs).length)).length)
           rw [hllen]
         · show c'.size = (ll.take (n * i.size) ++ flatC xs ++ ll.drop (n * i.size + (flatC xs).length)).length
           rw [hcs, hllen, h4]
         · have hq : (ll.take (n * i.size) ++ flatC xs ++ ll.drop (n * i.size + (flatC xs).length))[q]? = some v := hq
           rw [hlget] at hq
           split at hq
           · rename_i hin
             obtain ⟨k, j, row, h6, h7, h8⟩ := flat_get (fun row hr => (hxs row hr).1) hq
             obtain ⟨yv, hy, hr⟩ := n3 k j row v h6 h7
             refine ⟨yv, ?_, .pure (hr.mono (hfr.stable hs) hfr.smono)⟩
             rw [hget, if_pos (by omega), h8]
             exact hy
           · rename_i hin
             obtain ⟨yv, hy, hr⟩ := h5 q v hq
             refine ⟨yv, ?_, hr.fr hfr hs⟩
             rw [hget, if_neg (by omega)]
             simpa using hy
       · obtain ⟨nm', hv', hty, hK⟩ := hgrow (by omega)
         have holds : Reads P w size n (.slice (some ⟨b, 0, none⟩) n cap) (cs.toList.take (n * size)) := by
          refine ⟨.inl ⟨_, cap, rfl⟩, fun w' hw' => ?_⟩
          refine run_firstCells_some w' size n _ _ cap (cs.toList.take (n * size)) (by simp; omega) (fun j v hj => ?_)
          rw [List.getElem?_take] at hj
          split at hj
          · have := cell_of_row w b j cs e' _ h3
            unfold World.cell? at this ⊢
            rw [hw', Addr.add_lit, Nat.zero_add]
            rw [this]
            simpa using hj
          · cases hj
         exact ap_rgrow (n := n) (lo := ll.take (n * size)) (olds := cs.toList.take (n * size)) hst hs hU hu hi hz hsize hby hzs holds (by simp; omega) (by simp; omega)
          (fun q v hq => by
            rw [List.getElem?_take] at hq
            split at hq
            · rename_i hlt
              obtain ⟨yv, hy, hr⟩ := h5 q v hq
              refine ⟨yv, ?_, hr⟩
              rw [List.getElem?_take, if_pos hlt]
              simpa using hy
            · cases hq) hnews (by omega) hb hn hxs hv' (by rw [het]; exact tyOk_of hty) hK
     · exact h.elim
   · cases hc2
 · cases hc1
end
section
variable {G : Type} {J : JT G} {w w' w'' : World} {S F S' F' S'' F'' : Nat → Prop} {θ θ' θ'' : Names} {σ σ' σ'' : Store} {l : Nat} {g g' : G}
theorem Fr.grow (hs : St J w S F θ σ l g) (hg : Grow w w') {N : Nat → Prop} (hN : ∀ b, N b → w.heap.size ≤ b) : Fr w S F θ σ w' (fun b => S b ∨ N b) F θ σ where
 size := hg.size
 os := hg.os
 tape := hg.tape
 output := hg.output
 same := fun b hb _ _ => hg.same b hb
 sized := fun b c e fr h => ⟨c, fr, by rw [hg.same b (Array.getElem?_eq_some_iff.1 h).1]; exact h, rfl, .inl rfl⟩
 vecs := fun nm' k b m' h1 h2 j hj => cell_of_heap (hg.same b (live_lt hs (live_vec h1) h2))
 smono := fun _ h => .inl h
 snew := fun b h => by
  rcases h with h | h
  · exact .inl h
  · exact .inr (.inr (.inr (hN b h)))
 live := fun _ h _ => h
 fsub := fun _ h _ => h
 kdead := fun _ h => h
 kbox := fun _ row h => .inr ⟨row, h, rfl⟩
 karr := fun _ gen rows h => .inr ⟨gen, rows, h, Nat.le_refl _, fun _ => ⟨rfl, Nat.le_refl _⟩⟩
 kvec := fun _ k h => .inr ⟨k, h, Nat.le_refl _, fun _ => rfl, fun _ _ h => .inl h⟩
 kmp := fun _ k ns vs h => .inr ⟨k, ns, vs, h, rfl⟩
theorem BlkOk.later (hs : St J w S F θ σ l g) (hfr : Fr w S F θ σ w' S' F' θ' σ') (nm : Nat) (e1 : σ' nm = σ nm) (e2 : θ' nm = θ nm) (hb : ∀ b m, (σ nm).live → θ nm = some (b, m) → w'.heap[b]? = w.heap[b]?) :
  BlkOk w' S' θ' σ' l nm (σ' nm) := by
 have hk := hs.hblk nm
 rw [e1]
 cases h : σ nm with
 | unused => rw [h] at hk; simp only [BlkOk] at hk ⊢; rw [e2]; exact hk
 | dead => trivial
 | box row =>
  rw [h] at hk
  simp only [BlkOk] at hk ⊢
  obtain ⟨b, c, e, h1, h2, h3, h4⟩ := hk
  refine ⟨b, c, e, by rw [e2]; exact h1, by rw [hb b _ (live_box h) h1]; exact h2, h3, fun j v hj => ?_⟩
  obtain ⟨y, hy, hr⟩ := h4 j v hj
  exact ⟨y, hy, hr.fr hfr hs⟩
 | arr gen rows =>
  rw [h] at hk
  simp only [BlkOk] at hk ⊢
  rcases hk with ⟨h1, h2⟩ | ⟨b, m, c, e, h1, h2, h3, h4, h5⟩
  · exact .inl ⟨by rw [e2]; exact h1, h2⟩
  · refine .inr ⟨b, m, c, e, by rw [e2]; exact h1, by rw [hb b _ (live_arr h) h1]; exact h2, h3, h4, fun i j row v h6 h7 => ?_⟩
    obtain ⟨y, hy, hr⟩ := h5 i j row v h6 h7
    exact ⟨y, hy, hr.mono (hfr.stable hs) hfr.smono⟩
 | vec k =>
  rw [h] at hk
  simp only [BlkOk] at hk ⊢
  rcases hk with ⟨h1, h2⟩ | ⟨b, m, c, e, h1, h2, h3⟩
  · exact .inl ⟨by rw [e2]; exact h1, h2⟩
  · exact .inr ⟨b, m, c, e, by rw [e2]; exact h1, by rw [hb b _ (live_vec h) h1]; exact h2, h3⟩
 | mp k ns vs =>
  rw [h] at hk
  simp only [BlkOk] at hk ⊢
  obtain ⟨r, es, clk, h1, h2, h3⟩ := hk
  exact ⟨r, es, clk, by rw [e2]; exact h1, by rw [hb r _ (live_mp h) h1]; exact h2, h3.mono (hfr.stable hs) hfr.smono⟩
theorem St.grow (hst : Stable J) (hs : St J w S F θ σ l g) (hg : Grow w w') {N : Nat → Prop} (hN : ∀ b, N b → w.heap.size ≤ b) (hN' : ∀ b, N b → b < w'.heap.size) : St J w' (fun b => S b ∨ N b) F θ σ l g := by
 have hfr := Fr.grow hs hg hN
 refine ⟨fun b hb => ?_, fun nm => BlkOk.later hs hfr nm rfl rfl fun b m h1 h2 => hg.same b (live_lt hs h1 h2), hs.hinj, fun b hb hS => ?_, fun b hb => ?_, ?_⟩
 · rcases hb with hb | hb
   · exact Nat.lt_of_lt_of_le (hs.hS b hb) hg.size
   · exact hN' b hb
 · obtain ⟨nm, m, h1, h2⟩ := hb
   rcases hS with hS | hS
   · exact hs.hliveS b ⟨nm, m, h1, h2⟩ hS
   · have := live_lt hs h1 h2; have := hN b hS; omega
 · obtain ⟨h1, h2, h3⟩ := hs.hF b hb
   refine ⟨Nat.lt_of_lt_of_le h1 hg.size, fun hS => ?_, h3⟩
   rcases hS with hS | hS
   · exact h2 hS
   · have := hN b hS; omega
 · exact hst.2 g w S F _ _ hs.hJ hs.hS (fun b hb' => (hs.hF b hb').1) (fun b hb' => by
    rcases hb' with hb' | hb'
    · exact hg.same b (hs.hS b hb')
    · exact hg.same b (hs.hF b hb').1) hfr.smono hfr.size hg.os hg.tape hg.output (fun b hb => by
    rcases hb with hb | hb
    · exact ⟨Nat.lt_of_lt_of_le (hs.hS b hb) hg.size, fun hf => (hs.hF b hf).2.1 hb⟩
    · exact ⟨hN' b hb, fun hf => by have := (hs.hF b hf).1; have := hN b hb; omega⟩) hfr.sizedS
theorem Rep.ext (hp : ∀ nm, σ nm ≠ .unused → σ' nm = σ nm ∧ θ' nm = θ nm) {v : V} {x : Value} (h : Rep w S θ σ l v x) : Rep w S θ' σ' l v x := by
 induction h with
 | pure h1 => exact .pure h1
 | agg vs xs hl _ ih => exact .agg vs xs hl ih
 | tup vs xs hl _ ih => exact .tup vs xs hl ih
 | fn f vs xs hl _ ih => exact .fn f vs xs hl ih
 | bptr nm j x ho hn h1 =>
  obtain ⟨e1, e2⟩ := hp nm hn
  exact .bptr nm j x ho (by rw [e1]; exact hn) (by rw [e1, e2]; exact h1)
 | ptr nm gen i j x ho hn hg h1 =>
  obtain ⟨e1, e2⟩ := hp nm hn
  exact .ptr nm gen i j x ho (by rw [e1]; exact hn) (by rw [e1]; exact hg) (by rw [e1, e2]; exact h1)
 | msl nm gen i len x ho hn hg h1 =>
  obtain ⟨e1, e2⟩ := hp nm hn
  exact .msl nm gen i len x ho (by rw [e1]; exact hn) (by rw [e1]; exact hg) (by rw [e1, e2]; exact h1)
 | own nm rows b off cap m ys hn hb hcap hw hcc hr hf =>
  obtain ⟨e1, e2⟩ := hp nm hn
  exact .own nm rows b off cap m ys (by rw [e1]; exact hn) (by rw [e1, e2]; exact hb) hcap hw hcc hr (by rw [e1, e2]; exact hf)
 | ownemp nm a hn =>
  obtain ⟨e1, e2⟩ := hp nm hn
  exact .ownemp nm a (by rw [e1]; exact hn)
 | cptro nm row b o j ys hn hb hcc hr =>
  obtain ⟨e1, e2⟩ := hp nm hn
  exact .cptro nm row b o j ys (by rw [e1]; exact hn) (by rw [e1, e2]; exact hb) hcc hr
 | rnd => exact .rnd
 | mp nm x ho hn h1 =>
  obtain ⟨e1, e2⟩ := hp nm hn
  exact .mp nm x ho (by rw [e1]; exact hn) (by rw [e1, e2]; exact h1)
 | ifv t v x _ ih => exact .ifv t v x ih
def restrN (pn : List Nat) (θ : Names) : Names := fun nm => bif memB nm pn then θ nm else none
def mergeN (pn : List Nat) (θ θ' : Names) : Names := fun nm => bif memB nm pn then θ' nm else θ nm
theorem memB_false {nm : Nat} {pn : List Nat} (h : nm ∉ pn) : memB nm pn = false := by
 cases hm : memB nm pn with
 | false => rfl
 | true => exact absurd ((memB_iff nm pn).1 hm) h
theorem restr_in {pn : List Nat} {nm : Nat} (h : nm ∈ pn) : restr pn σ nm = σ nm ∧ restrN pn θ nm = θ nm := by
 simp [restr, restrN, (memB_iff nm pn).2 h]
theorem restr_out {pn : List Nat} {nm : Nat} (h : nm ∉ pn) : restr pn σ nm = .unused ∧ restrN pn θ nm = none := by
 simp [restr, restrN, memB_false h]
theorem merge_in {pn : List Nat} {nm : Nat} (h : nm ∈ pn) : merge pn σ σ' nm = σ' nm ∧ mergeN pn θ θ' nm = θ' nm := by
 simp [merge, mergeN, (memB_iff nm pn).2 h]
theorem merge_out {pn : List Nat} {nm : Nat} (h : nm ∉ pn) : merge pn σ σ' nm = σ nm ∧ mergeN pn θ θ' nm = θ nm := by
 simp [merge, mergeN, memB_false h]
theorem live_restr {pn : List Nat} {b : Nat} (h : LiveB (restrN pn θ) (restr pn σ) b) : ∃ nm m, nm ∈ pn ∧ (σ nm).live ∧ θ nm = some (b, m) := by
 obtain ⟨nm, m, h1, h2⟩ := h
 by_cases hm : nm ∈ pn
 · obtain ⟨e1, e2⟩ := restr_in (σ := σ) (θ := θ) hm
   exact ⟨nm, m, hm, by rw [← e1]; exact h1, by rw [← e2]; exact h2⟩
 · rw [(restr_out (σ := σ) (θ := θ) hm).1] at h1; exact h1.elim
theorem kept_block {pn : List Nat} (hs : St J w S F θ σ l g) (hfr : Fr w S F (restrN pn θ) (restr pn σ) w' S' F' θ' σ') {nm b m : Nat} (hn : nm ∉ pn) (hl : (σ nm).live) (hb : θ nm = some (b, m)) : w'.heap[b]? = w.heap[b]? := by
 refine hfr.same b (live_lt hs hl hb) (fun h => ?_) (fun h => (hs.hF b h).2.2 ⟨nm, m, hl, hb⟩)
 obtain ⟨nm', m', h1, h2, h3⟩ := live_restr h
 exact hn (by rw [hs.hinj nm nm' b m m' hl h2 hb h3]; exact h1)
theorem merge_fr {pn : List Nat} (hs : St J w S F θ σ l g) (hfr : Fr w S F (restrN pn θ) (restr pn σ) w' S' F' θ' σ') : Fr w S F θ σ w' S' F' (mergeN pn θ θ') (merge pn σ σ') where
 size := hfr.size
 os := hfr.os
 tape := hfr.tape
 output := hfr.output
 same := fun b hb hl hF => hfr.same b hb (fun h => by
  obtain ⟨nm, m, _, h2, h3⟩ := live_restr h
  exact hl ⟨nm, m, h2, h3⟩) hF
 sized := fun b c e fr hc => by
  obtain ⟨c', f, h1, h2, h3⟩ := hfr.sized b c e fr hc
  refine ⟨c', f, h1, h2, h3.imp id fun h4 => ⟨h4.1, ?_⟩⟩
  rintro ⟨nm, m, h5, h6⟩
  by_cases hm : nm ∈ pn
  · obtain ⟨e1, e2⟩ := merge_in (σ := σ) (σ' := σ') (θ := θ) (θ' := θ') hm
    exact h4.2 ⟨nm, m, by rw [← e1]; exact h5, by rw [← e2]; exact h6⟩
  · obtain ⟨e1, e2⟩ := merge_out (σ := σ) (σ' := σ') (θ := θ) (θ' := θ') hm
    rw [e1] at h5
    rw [e2] at h6
    rcases hfr.snew b h4.1 with h | h | h | h
    · exact hs.hliveS b ⟨nm, m, h5, h6⟩ h
    · obtain ⟨nm', m', k1, k2, k3⟩ := live_restr h
      exact hm (by rw [hs.hinj nm nm' b m m' h5 k2 h6 k3]; exact k1)
    · exact (hs.hF b h).2.2 ⟨nm, m, h5, h6⟩
    · have := live_lt hs h5 h6; omega
 vecs := fun nm k b m h1 h2 j hj => by
  by_cases hm : nm ∈ pn
  · obtain ⟨e1, e2⟩ := restr_in (σ := σ) (θ := θ) hm
    exact hfr.vecs nm k b m (by rw [e1]; exact h1) (by rw [e2]; exact h2) j hj
  · exact cell_of_heap (kept_block hs hfr hm (live_vec h1) h2)
 smono := hfr.smono
 snew := fun b hb => by
  rcases hfr.snew b hb with h | h | h | h
  · exact .inl h
  · obtain ⟨nm, m, _, h2, h3⟩ := live_restr h
    exact .inr (.inl ⟨nm, m, h2, h3⟩)
  · exact .inr (.inr (.inl h))
  · exact .inr (.inr (.inr h))
 live := fun b => by
  rintro ⟨nm, m, h1, h2⟩ hlt
  by_cases hm : nm ∈ pn
  · obtain ⟨e1, e2⟩ := merge_in (σ := σ) (σ' := σ') (θ := θ) (θ' := θ') hm
    obtain ⟨nm', m', _, h3, h4⟩ := live_restr (hfr.live b ⟨nm, m, by rw [← e1]; exact h1, by rw [← e2]; exact h2⟩ hlt)
    exact ⟨nm', m', h3, h4⟩
  · obtain ⟨e1, e2⟩ := merge_out (σ := σ) (σ' := σ') (θ := θ) (θ' := θ') hm
    exact ⟨nm, m, by rw [← e1]; exact h1, by rw [← e2]; exact h2⟩
 fsub := hfr.fsub
 kdead := fun nm h => by
  by_cases hm : nm ∈ pn
  · rw [(merge_in (σ := σ) (σ' := σ') (θ := θ) (θ' := θ') hm).1]
    exact hfr.kdead nm (by rw [(restr_in (σ := σ) (θ := θ) hm).1]; exact h)
  · rw [(merge_out (σ := σ) (σ' := σ') (θ := θ) (θ' := θ') hm).1]; exact h
 kbox := fun nm row h => by
  by_cases hm : nm ∈ pn
  · obtain ⟨e1, e2⟩ := merge_in (σ := σ) (σ' := σ') (θ := θ) (θ' := θ') hm
    obtain ⟨e3, e4⟩ := restr_in (σ := σ) (θ := θ) hm
    rw [e1, e2, ← e4]
    exact hfr.kbox nm row (by rw [e3]; exact h)
  · obtain ⟨e1, e2⟩ := merge_out (σ := σ) (σ' := σ') (θ := θ) (θ' := θ') hm
    rw [e1, e2]; exact .inr ⟨row, h, rfl⟩
 karr := fun nm gen rows h => by
  by_cases hm : nm ∈ pn
  · obtain ⟨e1, e2⟩ := merge_in (σ := σ) (σ' := σ') (θ := θ) (θ' := θ') hm
    obtain ⟨e3, e4⟩ := restr_in (σ := σ) (θ := θ) hm
    rw [e1, e2, ← e4]
    exact hfr.karr nm gen rows (by rw [e3]; exact h)
  · obtain ⟨e1, e2⟩ := merge_out (σ := σ) (σ' := σ') (θ := θ) (θ' := θ') hm
    rw [e1, e2]; exact .inr ⟨gen, rows, h, Nat.le_refl _, fun _ => ⟨rfl, Nat.le_refl _⟩⟩
 kvec := fun nm k h => by
  by_cases hm : nm ∈ pn
  · obtain ⟨e1, e2⟩ := merge_in (σ := σ) (σ' := σ') (θ := θ) (θ' := θ') hm
    obtain ⟨e3, e4⟩ := restr_in (σ := σ) (θ := θ) hm
    rw [e1, e2, ← e4]
    exact hfr.kvec nm k (by rw [e3]; exact h)
  · obtain ⟨e1, e2⟩ := merge_out (σ := σ) (σ' := σ') (θ := θ) (θ' := θ') hm
    rw [e1, e2]; exact .inr ⟨k, h, Nat.le_refl _, fun _ => rfl, fun _ _ h => .inl h⟩
 kmp := fun nm k ns vs h => by
  by_cases hm : nm ∈ pn
  · obtain ⟨e1, e2⟩ := merge_in (σ := σ) (σ' := σ') (θ := θ) (θ' := θ') hm
    obtain ⟨e3, e4⟩ := restr_in (σ := σ) (θ := θ) hm
    rw [e1, e2, ← e4]
    exact hfr.kmp nm k ns vs (by rw [e3]; exact h)
  · obtain ⟨e1, e2⟩ := merge_out (σ := σ) (σ' := σ') (θ := θ) (θ' := θ') hm
    rw [e1, e2]; exact .inr ⟨k, ns, vs, h, rfl⟩
theorem merge_ext {pn : List Nat} (hun : ∀ nm, nm ∉ pn → σ' nm = .unused) (nm : Nat) (h : σ' nm ≠ .unused) : merge pn σ σ' nm = σ' nm ∧ mergeN pn θ θ' nm = θ' nm := by
 by_cases hm : nm ∈ pn
 · exact merge_in hm
 · exact absurd (hun nm hm) h
theorem merge_st {pn : List Nat} (hs : St J w S F θ σ l g) (hfr : Fr w S F (restrN pn θ) (restr pn σ) w' S' F' θ' σ') (hs' : St J w' S' F' θ' σ' l g') (hun : ∀ nm, nm ∉ pn → σ' nm = .unused) :
  St J w' S' F' (mergeN pn θ θ') (merge pn σ σ') l g' := by
 have hM := merge_fr hs hfr
 have clash : ∀ {n1 n2 b m m'}, n1 ∉ pn → (σ n1).live → θ n1 = some (b, m) → n2 ∈ pn → (σ' n2).live → θ' n2 = some (b, m') → False := by
  intro n1 n2 b m m' h1 h2 h3 h4 h5 h6
  obtain ⟨n3, m3, h7, h8, h9⟩ := live_restr (hfr.live b ⟨n2, m', h5, h6⟩ (live_lt hs h2 h3))
  exact h1 (by rw [hs.hinj n1 n3 b m m3 h2 h8 h3 h9]; exact h7)
 refine ⟨hs'.hS, fun nm => ?_, fun n1 n2 b m m' h1 h2 h3 h4 => ?_, ?_, fun b hb => ?_, hs'.hJ⟩
 · by_cases hm : nm ∈ pn
   · obtain ⟨e1, e2⟩ := merge_in (σ := σ) (σ' := σ') (θ := θ) (θ' := θ') hm
     have hk := hs'.hblk nm
     rw [e1]
     cases h : σ' nm with
     | unused => rw [h] at hk; simp only [BlkOk] at hk ⊢; rw [e2]; exact hk
     | dead => trivial
     | box row =>
      rw [h] at hk
      simp only [BlkOk] at hk ⊢
      obtain ⟨b, c, e, h1, h2, h3, h4⟩ := hk
      refine ⟨b, c, e, by rw [e2]; exact h1, h2, h3, fun j v hj => ?_⟩
      obtain ⟨y, hy, hr⟩ := h4 j v hj
      exact ⟨y, hy, hr.ext (merge_ext hun)⟩
     | arr gen rows => rw [h] at hk; simp only [BlkOk] at hk ⊢; rw [e2]; exact hk
     | vec k => rw [h] at hk; simp only [BlkOk] at hk ⊢; rw [e2]; exact hk
     | mp k ns vs => rw [h] at hk; simp only [BlkOk] at hk ⊢; rw [e2]; exact hk
   · obtain ⟨e1, e2⟩ := merge_out (σ := σ) (σ' := σ') (θ := θ) (θ' := θ') hm
     exact BlkOk.later hs hM nm e1 e2 fun b m h1 h2 => kept_block hs hfr hm h1 h2
 · by_cases m1 : n1 ∈ pn
   · obtain ⟨e1, e2⟩ := merge_in (σ := σ) (σ' := σ') (θ := θ) (θ' := θ') m1
     rw [e1] at h1
     rw [e2] at h3
     by_cases m2 : n2 ∈ pn
     · obtain ⟨e3, e4⟩ := merge_in (σ := σ) (σ' := σ') (θ := θ) (θ' := θ') m2
       exact hs'.hinj n1 n2 b m m' h1 (by rw [← e3]; exact h2) h3 (by rw [← e4]; exact h4)
     · obtain ⟨e3, e4⟩ := merge_out (σ := σ) (σ' := σ') (θ := θ) (θ' := θ') m2
       exact (clash m2 (by rw [← e3]; exact h2) (by rw [← e4]; exact h4) m1 h1 h3).elim
   · obtain ⟨e1, e2⟩ := merge_out (σ := σ) (σ' := σ') (θ := θ) (θ' := θ') m1
     rw [e1] at h1
     rw [e2] at h3
     by_cases m2 : n2 ∈ pn
     · obtain ⟨e3, e4⟩ := merge_in (σ := σ) (σ' := σ') (θ := θ) (θ' := θ') m2
       exact (clash m1 h1 h3 m2 (by rw [← e3]; exact h2) (by rw [← e4]; exact h4)).elim
     · obtain ⟨e3, e4⟩ := merge_out (σ := σ) (σ' := σ') (θ := θ) (θ' := θ') m2
       exact hs.hinj n1 n2 b m m' h1 (by rw [← e3]; exact h2) h3 (by rw [← e4]; exact h4)
 · rintro b ⟨nm, m, h1, h2⟩ hS
   by_cases hm : nm ∈ pn
   · obtain ⟨e1, e2⟩ := merge_in (σ := σ) (σ' := σ') (θ := θ) (θ' := θ') hm
     exact hs'.hliveS b ⟨nm, m, by rw [← e1]; exact h1, by rw [← e2]; exact h2⟩ hS
   · obtain ⟨e1, e2⟩ := merge_out (σ := σ) (σ' := σ') (θ := θ) (θ' := θ') hm
     rw [e1] at h1
     rw [e2] at h2
     rcases hfr.snew b hS with h | h | h | h
     · exact hs.hliveS b ⟨nm, m, h1, h2⟩ h
     · obtain ⟨n3, m3, h7, h8, h9⟩ := live_restr h
       exact hm (by rw [hs.hinj nm n3 b m m3 h1 h8 h2 h9]; exact h7)
     · exact (hs.hF b h).2.2 ⟨nm, m, h1, h2⟩
     · have := live_lt hs h1 h2; omega
 · obtain ⟨k1, k2, k3⟩ := hs'.hF b hb
   refine ⟨k1, k2, ?_⟩
   rintro ⟨nm, m, h1, h2⟩
   by_cases hm : nm ∈ pn
   · obtain ⟨e1, e2⟩ := merge_in (σ := σ) (σ' := σ') (θ := θ) (θ' := θ') hm
     exact k3 ⟨nm, m, by rw [← e1]; exact h1, by rw [← e2]; exact h2⟩
   · obtain ⟨e1, e2⟩ := merge_out (σ := σ) (σ' := σ') (θ := θ) (θ' := θ') hm
     rw [e1] at h1
     rw [e2] at h2
     exact (hs.hF b (hfr.fsub b hb (live_lt hs h1 h2))).2.2 ⟨nm, m, h1, h2⟩
end
section
variable {G : Type} {J : JT G} {w w' w'' : World} {S F S' F' S'' F'' : Nat → Prop} {θ θ' θ'' : Names} {σ σ' σ'' : Store} {l : Nat} {g g' : G}
variable {P : Program} {o : Oper} {a : Act} {ρ : Env} {K : V → Store → G → Prop} {H : HT G}
theorem findNow_int {q k : IntKind} {n : Int} : ∀ (ns : List Int) (es : List MapEntry) (i0 : Nat), es.length = ns.length → (∀ (i : Nat) (m : Int) (e : MapEntry), ns[i]? = some m → es[i]? = some e → e.key = .int k m) →
  Instr.findNow (.int q) (.int k n) es i0 = some ((ns.idxOf? n).bind fun i => es[i]?.map fun e => (i0 + i, e.val))
 | [], [], i0, _, _ => by simp [Instr.findNow]
 | m :: ns, e :: es, i0, hl, hk => by
  have he := hk 0 m e rfl rfl
  have ih := findNow_int (q := q) (n := n) ns es (i0 + 1) (by simpa using hl) (fun i m' e' h1 h2 => hk (i + 1) m' e' (by simpa using h1) (by simpa using h2))
  simp only [Instr.findNow, he, Instr.sameNow, if_true]
  by_cases hm : n = m
  · subst hm
    simp [List.idxOf?_cons]
  · have hm' : ¬ m = n := fun h => hm h.symm
    have h1 : (n == m) = false := by simpa using hm
    have h2 : (m == n) = false := by simpa using hm'
    rw [h1]
    simp only
    rw [ih, List.idxOf?_cons, h2]
    cases ns.idxOf? n with
    | none => rfl
    | some i => simp [Nat.add_assoc, Nat.add_comm 1 i]
 | [], _ :: _, _, hl, _ => by simp at hl
 | _ :: _, [], _, hl, _ => by simp at hl
theorem findKey_run {Kt : TypeId} {q k : IntKind} {ns : List Int} {vs : List V} {es : Array MapEntry} {n : Int} (hK : P.underlying Kt = some (.int q)) (M : MapRep w' S k ns vs es) (w : World) :
  (Instr.findKey Kt (.int k n) es.toList).run P w = .ok ((ns.idxOf? n).bind fun i => es[i]?.map fun e => (i, e.val)) w := by
 have h := findNow_int (q := q) (n := n) ns es.toList 0 (by rw [← M.1]; simp) (fun i m e h1 h2 => M.2.2.1 i m e h1 (by simpa using h2))
 simp [Instr.findKey, run_underlying hK, h]
theorem checkKey_run {Kt : TypeId} {q k : IntKind} {n : Int} (hK : P.underlying Kt = some (.int q)) (b : Bool) (w : World) : (Instr.checkKey b 10000 Kt (.int k n)).run P w = .ok () w := by
 show (Instr.checkKey b (9999 + 1) Kt (.int k n)).run P w = _
 generalize 9999 = m
 simp [Instr.checkKey, run_underlying hK]
theorem idx_val {k : IntKind} {ns : List Int} {vs : List V} {es : Array MapEntry} (M : MapRep w S k ns vs es) {n : Int} {i : Nat} (h : ns.idxOf? n = some i) : i < ns.length ∧ ∃ v e, vs[i]? = some v ∧ es[i]? = some e ∧ RepP w S v e.val ∧ e.key = .int k n := by
 have h1 : ns.findIdx? (· == n) = some i := h
 have h2 := List.findIdx?_eq_some_iff_getElem.1 h1
 obtain ⟨hi, h3, _⟩ := h2
 have hv : i < vs.length := by rw [M.2.1]; exact hi
 have he : i < es.size := by rw [M.1]; exact hi
 have h4 : ns[i] = n := by simpa using h3
 exact ⟨hi, vs[i], es[i], List.getElem?_eq_getElem hv, Array.getElem?_eq_getElem he, M.2.2.2 i _ _ (List.getElem?_eq_getElem hv) (Array.getElem?_eq_getElem he), M.2.2.1 i n _ (by rw [List.getElem?_eq_getElem hi, h4]) (Array.getElem?_eq_getElem he)⟩
theorem run_getMap {w : World} {r : Nat} {es : Array MapEntry} {clk : Nat} (hb : w.heap[r]? = some (.map es clk)) : (getObj r).run P w = .ok (.map es clk) w := by
 simp [getObj, Sem.run, hb]
theorem mgetv_some {k : IntKind} {ns : List Int} {vs : List V} {es : Array MapEntry} (M : MapRep w S k ns vs es) {n : Int} {i : Nat} (h : ns.idxOf? n = some i) : ∃ v e, mgetv ns vs n = some v ∧ es[i]? = some e ∧ RepP w S v e.val := by
 obtain ⟨_, v, e, h1, h2, h3, _⟩ := idx_val M h
 exact ⟨v, e, by simp [mgetv, h, h1], h2, h3⟩
theorem mgetv_none {ns : List Int} {vs : List V} {n : Int} (h : ns.idxOf? n = none) : mgetv ns vs n = none := by simp [mgetv, h]
theorem map_obj {v : V} {x : Value} (hs : St J w S F θ σ l g) (r : Rep w S θ σ l v x) {k : IntKind} {ns : List Int} {vs : List V} (h : mapOf σ v = some (k, ns, vs)) : ∃ r es clk, x = .map (some r) ∧ w.heap[r]? = some (.map es clk) ∧ MapRep w S k ns vs es := by
 unfold mapOf at h
 split at h
 · simp only [Option.some.injEq, Prod.mk.injEq] at h
   obtain ⟨rfl, rfl, rfl⟩ := h
   exact r.mps_inv
 · split at h
   · rename_i nm _ k' ns' vs' hσ
     simp only [Option.some.injEq, Prod.mk.injEq] at h
     obtain ⟨rfl, rfl, rfl⟩ := h
     obtain ⟨b, hb, rfl⟩ := r.mp_inv _ _ _ hσ
     have hk := hs.hblk nm
     rw [hσ] at hk
     obtain ⟨b', es, clk, h1, h2, h3⟩ := hk
     have e : b' = b := by rw [hb] at h1; simp at h1; exact h1.symm
     subst e
     exact ⟨b', es, clk, rfl, h2, h3⟩
   · cases h
 · cases h
theorem tMapI_inv {T : TypeId} (h : tMapI P T = true) : ∃ Kt E q, P.underlying T = some (.map Kt E) ∧ P.underlying Kt = some (.int q) := by
 unfold tMapI at h
 split at h
 · rename_i Kt E hT
   split at h
   · rename_i q hq; exact ⟨Kt, E, q, hT, hq⟩
   · cases h
 · cases h
theorem sop_mget {ok : Bool} {zero : V} {x i : Opd} (hs : St J w S F θ σ l g) (he : EnvRep w S θ σ l ρ a.tmps) (hc : chkOp P o.op (.mget ok zero x i) = true) (h : AWop P H ρ σ g (.mget ok zero x i) K) : RunsTo P o a w (OpPost J w S F θ σ l K) := by
 cases ho : o.op <;> rw [ho] at hc <;> simp only [chkOp, Bool.false_eq_true] at hc
 rename_i T x' i' ok'
 simp only [Bool.and_eq_true] at hc
 obtain ⟨⟨⟨⟨hc1, hc2⟩, hc3⟩, hc4⟩, hc5⟩ := hc
 have eok : ok' = ok := by simpa using hc3
 subst eok
 obtain ⟨Kt, E, q, hT, hq⟩ := tMapI_inv hc4
 simp only [tMapZ, hT] at hc5
 unfold tZero at hc5
 split at hc5
 · rename_i inf hi
   split at hc5
   · rename_i z hz
     simp only [Bool.and_eq_true] at hc5
     have rz : RepP w S zero z := constV_rep hc5.1.1
     have r1 := opd_rep he hc1
     have r2 := opd_rep he hc2
     simp only [AWop] at h
     split at h
     · rename_i k ns vs k' n hm hn
       rw [hn] at r2
       have e2 := r2.int_inv
       cases hkk : kEq k k' with
       | false => rw [hkk] at h; exact h.elim
       | true =>
        rw [hkk] at h
        have ek := kEq_eq hkk
        subst ek
        obtain ⟨r, es, clk, e1, hh, M⟩ := map_obj hs r1 hm
        have hfk := findKey_run (P := P) (n := n) hq M w
        cases hx : ns.idxOf? n with
        | none =>
         rw [hx] at hfk
         simp only [cond_true, mgetv_none hx] at h
         refine ⟨if ok' then .tuple #[z, .bool false] else z, w, .inl ?_, OpPost.same hs h ?_⟩
         · simp [execOp, ho, Instr.lookup, e1, e2, run_underlying hT, run_getMap hh, checkKey_run hq, hfk, zeroValue, typeInfo, hi, hz]
         · cases ok' with
           | false => exact .pure rz
           | true =>
            refine .tup _ [z, .bool false] rfl fun j v y h1 h2 => ?_
            match j with
            | 0 => simp at h1 h2; subst h1 h2; exact .pure rz
            | 1 => simp at h1 h2; subst h1 h2; exact .pure (.bool _)
            | j + 2 => simp at h1
        | some j0 =>
         rw [hx] at hfk
         obtain ⟨v, e, h1, h2, h3⟩ := mgetv_some M hx
         simp only [cond_true, h1] at h
         refine ⟨if ok' then .tuple #[e.val, .bool true] else e.val, w, .inl ?_, OpPost.same hs h ?_⟩
         · simp [execOp, ho, Instr.lookup, e1, e2, run_underlying hT, run_getMap hh, checkKey_run hq, hfk, h2]
         · cases ok' with
           | false => exact .pure h3
           | true =>
            refine .tup _ [e.val, .bool true] rfl fun j v y h1 h2 => ?_
            match j with
            | 0 => simp at h1 h2; subst h1 h2; exact .pure h3
            | 1 => simp at h1 h2; subst h1 h2; exact .pure (.bool _)
            | j + 2 => simp at h1
     · exact h.elim
   · cases hc5
 · cases hc5
theorem sop_mlen {x : Opd} (hs : St J w S F θ σ l g) (he : EnvRep w S θ σ l ρ a.tmps) (hc : chkOp P o.op (.mlen x) = true) (h : AWop P H ρ σ g (.mlen x) K) : RunsTo P o a w (OpPost J w S F θ σ l K) := by
 cases ho : o.op <;> rw [ho] at hc <;> simp only [chkOp, Bool.false_eq_true] at hc
 rename_i c
 simp only [Bool.and_eq_true] at hc
 obtain ⟨hc1, hc2⟩ := hc
 obtain ⟨callee, args, argTypes⟩ := c
 dsimp only at hc1 hc2
 have hcal : callee = .builtin .len := by split at hc1 <;> first | rfl | cases hc1
 subst hcal
 have hsh : ∃ y' t, args = #[y'] ∧ argTypes[0]? = some t ∧ chkOpd y' x = true ∧ tMapI P t = true := by
  split at hc2
  · rename_i y' t rest hargs htys
    simp only [Bool.and_eq_true] at hc2
    exact ⟨y', t, by rw [← hargs], by rw [← Array.getElem?_toList, htys]; rfl, hc2.1, hc2.2⟩
  · cases hc2
 obtain ⟨y', t, rfl, htys', hc2, hc3⟩ := hsh
 obtain ⟨Kt, E, q, hT, hq⟩ := tMapI_inv hc3
 have r1 := opd_rep he hc2
 simp only [AWop] at h
 split at h
 · rename_i k ns vs hm
   obtain ⟨r, es, clk, e1, hh, M⟩ := map_obj hs r1 hm
   refine ⟨.int .i64 ns.length, w, .inl ?_, OpPost.same hs h (.pure (.int _ _))⟩
   simp [execOp, ho, resolve, invoke, builtin, Builtin.len_, e1, htys', run_underlying hT, goInt, run_getMap hh, M.1]
 · exact h.elim
theorem sop_mkifc {t : Nat} {x : Opd} (hs : St J w S F θ σ l g) (he : EnvRep w S θ σ l ρ a.tmps) (hc : chkOp P o.op (.mkifc t x) = true) (h : AWop P H ρ σ g (.mkifc t x) K) : RunsTo P o a w (OpPost J w S F θ σ l K) := by
 cases ho : o.op <;> rw [ho] at hc <;> simp only [chkOp, Bool.false_eq_true] at hc
 rename_i T x'
 simp only [Bool.and_eq_true] at hc
 obtain ⟨⟨h1, h2⟩, h3⟩ := hc
 have e := Nat.eq_of_beq_eq_true h1
 subst e
 refine ⟨_, w, .inl ?_, OpPost.same hs h (.ifv T _ _ (opd_rep he h2))⟩
 unfold tConc at h3
 cases hu : P.underlying T with
 | none => rw [hu] at h3; cases h3
 | some d =>
  rw [hu] at h3
  cases d <;> first | (simp at h3; done) | simp [execOp, ho, Instr.makeInterface, run_underlying hu]
theorem sop_tass {t : Nat} {x : Opd} (hs : St J w S F θ σ l g) (he : EnvRep w S θ σ l ρ a.tmps) (hc : chkOp P o.op (.tass t x) = true) (h : AWop P H ρ σ g (.tass t x) K) : RunsTo P o a w (OpPost J w S F θ σ l K) := by
 cases ho : o.op <;> rw [ho] at hc <;> simp only [chkOp, Bool.false_eq_true] at hc
 rename_i x' xT T ok
 cases ok <;> simp only [Bool.false_eq_true] at hc
 simp only [Bool.and_eq_true] at hc
 obtain ⟨⟨h1, h2⟩, h3⟩ := hc
 have e := Nat.eq_of_beq_eq_true h1
 subst e
 have r1 := opd_rep he h2
 simp only [AWop] at h
 split at h
 · rename_i t' v hv
   rw [hv] at r1
   obtain ⟨y, e1, r2⟩ := r1.ifv_inv
   cases hb : Nat.beq T t' with
   | false => rw [hb] at h; exact h.elim
   | true =>
    rw [hb] at h
    have e := Nat.eq_of_beq_eq_true hb
    subst e
    refine ⟨y, w, .inl ?_, OpPost.same hs h r2⟩
    unfold tConc at h3
    cases hu : P.underlying T with
    | none => rw [hu] at h3; cases h3
    | some d =>
     rw [hu] at h3
     cases d <;> first | (simp at h3; done) | simp [execOp, ho, Instr.typeAssert, run_underlying hu, e1]
 · exact h.elim
theorem sop_mkMap {nm : Nat} {k : IntKind} (hst : Stable J) (hs : St J w S F θ σ l g) (hc : chkOp P o.op (.mkMap nm k) = true) (h : AWop P H ρ σ g (.mkMap nm k) K) : RunsTo P o a w (OpPost J w S F θ σ l K) := by
 cases ho : o.op <;> rw [ho] at hc <;> simp only [chkOp, Bool.false_eq_true] at hc
 rename_i T rs
 simp only [Bool.and_eq_true] at hc
 have er : rs = none := by simpa using hc.1
 subst er
 simp only [AWop] at h
 split at h
 · rename_i hu
   refine ⟨_, _, .inl ?_, _, _, g, S, F, _, h, St.alloc hst hs (.map #[] 0) nm 0 (.mp k [] []) hu ⟨w.heap.size, #[], 0, upn_self _ _ _, heap_alloc_new' w _, rfl, rfl, fun i n e h => by simp at h, fun i v e h => by simp at h⟩, Fr.alloc hs _ nm 0 _ hu,
    .mp nm (.map (some w.heap.size)) rfl (by rw [upt_self]; intro h; cases h) fun k' ns vs _ => ⟨w.heap.size, upn_self _ _ _, rfl⟩⟩
   simp [execOp, ho, Instr.makeMap]
 · exact h.elim
theorem putObj_size (w : World) (r : Nat) (ob : Obj) : (w.putObj r ob).heap.size = w.heap.size := by simp [World.putObj]
theorem Fr.mwrite (hs : St J w S F θ σ l g) (nm r : Nat) (es es' : Array MapEntry) (clk clk' : Nat) {k k' : IntKind} {ns ns' : List Int} {vs vs' : List V} (hv : σ nm = .mp k ns vs) (hθ : θ nm = some (r, 0)) (hb : w.heap[r]? = some (.map es clk)) :
  Fr w S F θ σ (w.putObj r (.map es' clk')) S F θ (ups σ nm (.mp k' ns' vs')) where
 size := by rw [putObj_size]; exact Nat.le_refl _
 os := rfl
 tape := rfl
 output := ⟨rfl, by first | exact fun _ => Nat.le_refl _ | exact fun _ => Nat.le_succ _⟩
 same := fun b' _ hl' _ => World.putObj_heap_other (fun e => hl' (by subst e; exact ⟨nm, 0, live_mp hv, hθ⟩))
 sized := fun b' c0 e0 fr h => by
  have e : b' ≠ r := fun e => by rw [e, hb] at h; cases h
  exact ⟨c0, fr, by rw [World.putObj_heap_other e]; exact h, rfl, .inl rfl⟩
 vecs := fun nm' q b' m' h1 h2 j hj => by
  refine cell_of_heap (World.putObj_heap_other fun e => ?_)
  subst e
  have e2 := hs.hinj nm nm' b' 0 m' (live_mp hv) (live_vec h1) hθ h2
  subst e2
  rw [hv] at h1
  cases h1
 smono := fun _ h => h
 snew := fun _ h => .inl h
 live := fun b' => by
  rintro ⟨n1, m1, h1, h2⟩ hlt
  by_cases e : n1 = nm
  · subst e; exact ⟨n1, m1, live_mp hv, h2⟩
  · rw [upt_ne σ _ e] at h1; exact ⟨n1, m1, h1, h2⟩
 fsub := fun _ h _ => h
 kdead := fun n h => by rw [upt_ne σ _ (fun e => by rw [e, hv] at h; cases h)]; exact h
 kbox := fun n row h => by
  have e : n ≠ nm := fun e => by rw [e, hv] at h; cases h
  exact .inr ⟨row, by rw [upt_ne σ _ e]; exact h, rfl⟩
 karr := fun n gen rows h => by
  have e : n ≠ nm := fun e => by rw [e, hv] at h; cases h
  exact .inr ⟨gen, rows, by rw [upt_ne σ _ e]; exact h, Nat.le_refl _, fun _ => ⟨rfl, Nat.le_refl _⟩⟩
 kvec := fun n q h => by
  have e : n ≠ nm := fun e => by rw [e, hv] at h; cases h
  exact .inr ⟨q, by rw [upt_ne σ _ e]; exact h, Nat.le_refl _, fun _ => rfl, fun b m hb => .inl hb⟩
 kmp := fun n q ns0 vs0 h => by
  by_cases e : n = nm
  · subst e; exact .inr ⟨k', ns', vs', upt_self _ _ _, rfl⟩
  · exact .inr ⟨q, ns0, vs0, by rw [upt_ne σ _ e]; exact h, rfl⟩
theorem St.mwrite (hst : Stable J) (hs : St J w S F θ σ l g) (nm r : Nat) (es es' : Array MapEntry) (clk clk' : Nat) {k k' : IntKind} {ns ns' : List Int} {vs vs' : List V} (hv : σ nm = .mp k ns vs) (hθ : θ nm = some (r, 0)) (hb : w.heap[r]? = some (.map es clk))
  (hM : MapRep w S k' ns' vs' es') : St J (w.putObj r (.map es' clk')) S F θ (ups σ nm (.mp k' ns' vs')) l g := by
 have hfr := Fr.mwrite hs nm r es es' clk clk' (k' := k') (ns' := ns') (vs' := vs') hv hθ hb
 have hl : (σ nm).live := live_mp hv
 refine St.step hst hs hfr nm (fun nm' e => ⟨upt_ne σ _ e, rfl⟩) (fun nm' b' m' e h1 h2 => World.putObj_heap_other fun eb => ?_) (fun b' hb' => World.putObj_heap_other fun eb => ?_)
  (by rw [upt_self]; exact ⟨r, es', clk', hθ, World.putObj_heap_same (Array.getElem?_eq_some_iff.1 hb).1, hM.mono (hfr.stable hs) hfr.smono⟩) (fun b' m' _ hb' => ?_) (fun b' hb' => ⟨by rw [putObj_size]; exact hs.hS b' hb', fun hf => (hs.hF b' hf).2.1 hb'⟩) (fun b' nm' m' hb' e h1 h2 => hs.hliveS b' ⟨nm', m', h1, h2⟩ hb')
 · subst eb; exact e (hs.hinj nm' nm b' m' 0 h1 hl h2 hθ)
 · subst eb; exact (hs.hF b' hb').2.2 ⟨nm, 0, hl, hθ⟩
 · refine ⟨hs.hliveS b' ⟨nm, m', hl, hb'⟩, fun hf => (hs.hF b' hf).2.2 ⟨nm, m', hl, hb'⟩, fun nm' m'' e h1 h2 => e (hs.hinj nm' nm b' m'' m' h1 hl h2 hb')⟩
theorem mset_rep {k : IntKind} {ns : List Int} {vs : List V} {es : Array MapEntry} {n : Int} {v : V} {y : Value} (M : MapRep w S k ns vs es) (hy : RepP w S v y) {i : Nat} (hi : ns.idxOf? n = some i) :
  MapRep w S k ns (vs.set i v) (es.modify i fun e => { e with key := .int k n, val := y }) := by
 obtain ⟨h1, v0, e0, h2, h3, h4, h5⟩ := idx_val M hi
 refine ⟨by simp [M.1], by simp [M.2.1], fun j m e hj he => ?_, fun j u e hj he => ?_⟩
 · rw [Array.getElem?_modify] at he
   split at he
   · rename_i e1
     subst e1
     rw [h3] at he
     simp at he
     subst he
     have := M.2.2.1 i m e0 hj h3
     rw [h5] at this
     exact this
   · exact M.2.2.1 j m e hj he
 · rw [Array.getElem?_modify] at he
   split at he
   · rename_i e1
     subst e1
     rw [h3] at he
     simp at he
     subst he
     rw [List.getElem?_set_self (List.getElem?_eq_some_iff.1 h2).1] at hj
     simp at hj
     subst hj
     exact hy
   · rename_i e1
     rw [List.getElem?_set_ne e1] at hj
     exact M.2.2.2 j u e hj he
theorem mpush_rep {k : IntKind} {ns : List Int} {vs : List V} {es : Array MapEntry} {n : Int} {v : V} {y : Value} (M : MapRep w S k ns vs es) (hy : RepP w S v y) (clk : Nat) :
  MapRep w S k (ns ++ [n]) (vs ++ [v]) (es.push { key := .int k n, val := y, born := clk }) := by
 have hm1 := M.1
 have hm2 := M.2.1
 refine ⟨by simp [M.1], by simp [M.2.1], fun j m e hj he => ?_, fun j u e hj he => ?_⟩
 · rw [Array.getElem?_push] at he
   split at he
   · rename_i e1
     simp at he
     subst he
     rw [e1, List.getElem?_append_right (by omega), show es.size - ns.length = 0 from by omega] at hj
     simp at hj
     rw [hj]
   · rename_i e1
     have hlt := (Array.getElem?_eq_some_iff.1 he).1
     rw [List.getElem?_append_left (by omega)] at hj
     exact M.2.2.1 j m e hj he
 · rw [Array.getElem?_push] at he
   split at he
   · rename_i e1
     simp at he
     subst he
     rw [e1, List.getElem?_append_right (by omega), show es.size - vs.length = 0 from by omega] at hj
     simp at hj
     subst hj
     exact hy
   · rename_i e1
     have hlt := (Array.getElem?_eq_some_iff.1 he).1
     rw [List.getElem?_append_left (by omega)] at hj
     exact M.2.2.2 j u e hj he
theorem keep_run {k : IntKind} {n : Int} (w : World) : (Instr.keyThatStays (.int k n) (.int k n)).run P w = .ok (.int k n) w := by
 have h : Instr.sameBits 10000 (.int k n) (.int k n) = true := by simp [Instr.sameBits]
 simp [Instr.keyThatStays, h]
theorem run_setMap {w : World} {r : Nat} {es : Array MapEntry} {clk : Nat} (hb : w.heap[r]? = some (.map es clk)) (ob : Obj) : (setObj r ob).run P w = .ok () (w.putObj r ob) := by
 simp [setObj, Sem.run, hb, World.putObj]
theorem sop_mput {x i v : Opd} (hst : Stable J) (hs : St J w S F θ σ l g) (he : EnvRep w S θ σ l ρ a.tmps) (hc : chkOp P o.op (.mput x i v) = true) (h : AWop P H ρ σ g (.mput x i v) K) : RunsTo P o a w (OpPost J w S F θ σ l K) := by
 have hsh : ∃ T m' k' v', (o.op = .mapUpdate T m' k' v' ∨ o.op = .insert T m' k' v') ∧ chkOpd m' x = true ∧ chkOpd k' i = true ∧ chkOpd v' v = true ∧ tMapI P T = true := by
  cases ho : o.op <;> rw [ho] at hc <;> simp only [chkOp, Bool.false_eq_true, Bool.and_eq_true] at hc
  · exact ⟨_, _, _, _, .inr rfl, hc.1.1.1, hc.1.1.2, hc.1.2, hc.2⟩
  · exact ⟨_, _, _, _, .inl rfl, hc.1.1.1, hc.1.1.2, hc.1.2, hc.2⟩
 obtain ⟨T, m', k', v', ho, hc1, hc2, hc3, hc4⟩ := hsh
 obtain ⟨Kt, E, q, hT, hq⟩ := tMapI_inv hc4
 have r1 := opd_rep he hc1
 have r2 := opd_rep he hc2
 have r3 := opd_rep he hc3
 simp only [AWop] at h
 split at h
 · rename_i nm kk n hm hn
   rw [hm] at r1
   rw [hn] at r2
   have e2 := r2.int_inv
   split at h
   · rename_i k ns vs hσ
     cases hb : (kEq k kk && pureB (ev ρ v)) with
     | false => rw [hb] at h; exact h.elim
     | true =>
      rw [hb] at h
      rw [Bool.and_eq_true] at hb
      have ek := kEq_eq hb.1
      subst ek
      have ry := r3.toP hb.2
      obtain ⟨r, hθ, e1⟩ := r1.mp_inv _ _ _ hσ
      have hk := hs.hblk nm
      rw [hσ] at hk
      obtain ⟨r', es, clk, h1, hh, M⟩ := hk
      have er : r' = r := by rw [hθ] at h1; simp at h1; exact h1.symm
      subst er
      have hfk := findKey_run (P := P) (n := n) hq M w
      simp only [cond_true] at h
      cases hx : ns.idxOf? n with
      | none =>
       rw [hx] at hfk
       simp only [msetB, hx] at h
       refine ⟨undef, w.putObj r' (.map (es.push { key := .int k n, val := a.eval v', born := clk }) (clk + 1)), .inr ⟨?_, rfl⟩, _, _, g, S, F, θ, h, St.mwrite hst hs nm r' es _ clk (clk + 1) hσ hθ hh (mpush_rep M ry clk), Fr.mwrite hs nm r' es _ clk (clk + 1) hσ hθ hh, .pure (.tup [] [] rfl (by intro i v x h; simp at h))⟩
       rcases ho with ho | ho <;> simp [execOp, ho, Instr.mapUpdate, e1, e2, run_underlying hT, run_getMap hh, checkKey_run hq, hfk, run_setMap hh]
      | some j0 =>
       rw [hx] at hfk
       obtain ⟨_, _, e, _, h2, _, h5⟩ := idx_val M hx
       simp only [msetB, hx] at h
       refine ⟨undef, w.putObj r' (.map (es.modify j0 fun e => { e with key := .int k n, val := a.eval v' }) clk), .inr ⟨?_, rfl⟩, _, _, g, S, F, θ, h, St.mwrite hst hs nm r' es _ clk clk hσ hθ hh (mset_rep M ry hx), Fr.mwrite hs nm r' es _ clk clk hσ hθ hh, .pure (.tup [] [] rfl (by intro i v x h; simp at h))⟩
       rcases ho with ho | ho <;> simp [execOp, ho, Instr.mapUpdate, e1, e2, run_underlying hT, run_getMap hh, checkKey_run hq, hfk, h2, h5, keep_run, run_setMap hh]
   · exact h.elim
 · exact h.elim
theorem mdel_rep {k : IntKind} {ns : List Int} {vs : List V} {es : Array MapEntry} (M : MapRep w S k ns vs es) {i : Nat} (hi : i < ns.length) :
  MapRep w S k (ns.eraseIdx i) (vs.eraseIdx i) (es.eraseIdxIfInBounds i) := by
 have hm1 := M.1
 have hm2 := M.2.1
 have hie : i < es.size := by omega
 have e1 : es.eraseIdxIfInBounds i = es.eraseIdx i hie := by simp [Array.eraseIdxIfInBounds, hie]
 have get : ∀ j, (es.eraseIdx i hie)[j]? = if j < i then es[j]? else es[j + 1]? := fun j => by
  rw [Array.getElem?_eraseIdx]
 rw [e1]
 refine ⟨by simp [List.length_eraseIdx, hi]; omega, by simp [List.length_eraseIdx, hm2, hi], fun j m e hj he => ?_, fun j u e hj he => ?_⟩
 · rw [List.getElem?_eraseIdx] at hj
   rw [get] at he
   split at hj
   · rename_i c; rw [if_pos c] at he; exact M.2.2.1 j m e hj he
   · rename_i c; rw [if_neg c] at he; exact M.2.2.1 (j + 1) m e hj he
 · rw [List.getElem?_eraseIdx] at hj
   rw [get] at he
   split at hj
   · rename_i c; rw [if_pos c] at he; exact M.2.2.2 j u e hj he
   · rename_i c; rw [if_neg c] at he; exact M.2.2.2 (j + 1) u e hj he
theorem sop_mdel {x i : Opd} (hst : Stable J) (hs : St J w S F θ σ l g) (he : EnvRep w S θ σ l ρ a.tmps) (hc : chkOp P o.op (.mdel x i) = true) (h : AWop P H ρ σ g (.mdel x i) K) : RunsTo P o a w (OpPost J w S F θ σ l K) := by
 cases ho : o.op <;> rw [ho] at hc <;> simp only [chkOp, Bool.false_eq_true] at hc
 rename_i c
 simp only [Bool.and_eq_true] at hc
 obtain ⟨hc1, hc2⟩ := hc
 obtain ⟨callee, args, argTypes⟩ := c
 dsimp only at hc1 hc2
 have hcal : callee = .builtin .delete := by split at hc1 <;> first | rfl | cases hc1
 subst hcal
 have hsh : ∃ x' i' t, args = #[x', i'] ∧ argTypes[0]? = some t ∧ chkOpd x' x = true ∧ chkOpd i' i = true ∧ tMapI P t = true := by
  split at hc2
  · rename_i x' i' t rest hargs htys
    simp only [Bool.and_eq_true] at hc2
    exact ⟨x', i', t, by rw [← hargs], by rw [← Array.getElem?_toList, htys]; rfl, hc2.1.1, hc2.1.2, hc2.2⟩
  · cases hc2
 obtain ⟨x', i', t, rfl, htys', hc2, hc3, hc4⟩ := hsh
 obtain ⟨Kt, E, q, hT, hq⟩ := tMapI_inv hc4
 have r1 := opd_rep he hc2
 have r2 := opd_rep he hc3
 simp only [AWop] at h
 split at h
 · rename_i nm kk n hm hn
   rw [hm] at r1
   rw [hn] at r2
   have e2 := r2.int_inv
   split at h
   · rename_i k ns vs hσ
     cases hb : kEq k kk with
     | false => rw [hb] at h; exact h.elim
     | true =>
      rw [hb] at h
      have ek := kEq_eq hb
      subst ek
      obtain ⟨r, hθ, e1⟩ := r1.mp_inv _ _ _ hσ
      have hk := hs.hblk nm
      rw [hσ] at hk
      obtain ⟨r', es, clk, h1, hh, M⟩ := hk
      have er : r' = r := by rw [hθ] at h1; simp at h1; exact h1.symm
      subst er
      have hfk := findKey_run (P := P) (n := n) hq M w
      simp only [cond_true] at h
      cases hx : ns.idxOf? n with
      | none =>
       rw [hx] at hfk
       simp only [mdelB, hx] at h
       refine ⟨.tuple #[], w.putObj r' (.map es clk), .inl ?_, _, _, g, S, F, θ, h, St.mwrite hst hs nm r' es _ clk clk hσ hθ hh M, Fr.mwrite hs nm r' es _ clk clk hσ hθ hh, .pure (.tup [] [] rfl (by intro i v x h; simp at h))⟩
       simp [execOp, ho, resolve, invoke, builtin, Builtin.delete_, e1, e2, htys', run_underlying hT, run_getMap hh, checkKey_run hq, hfk, run_setMap hh]
      | some j0 =>
       rw [hx] at hfk
       obtain ⟨hi, _, e, _, h2, _, _⟩ := idx_val M hx
       simp only [mdelB, hx] at h
       refine ⟨.tuple #[], w.putObj r' (.map (es.eraseIdxIfInBounds j0) clk), .inl ?_, _, _, g, S, F, θ, h, St.mwrite hst hs nm r' es _ clk clk hσ hθ hh (mdel_rep M hi), Fr.mwrite hs nm r' es _ clk clk hσ hθ hh, .pure (.tup [] [] rfl (by intro i v x h; simp at h))⟩
       simp [execOp, ho, resolve, invoke, builtin, Builtin.delete_, e1, e2, htys', run_underlying hT, run_getMap hh, checkKey_run hq, hfk, h2, run_setMap hh]
   · exact h.elim
 · exact h.elim
theorem sop_boxR {et size : Nat} {y : Opd} (hst : Stable J) (hs : St J w S F θ σ l g) (he : EnvRep w S θ σ l ρ a.tmps) (hc : chkOp P o.op (.boxR et size y) = true) (h : AWop P H ρ σ g (.boxR et size y) K) : RunsTo P o a w (OpPost J w S F θ σ l K) := by
 cases ho : o.op <;> rw [ho] at hc <;> simp only [chkOp, Bool.false_eq_true] at hc
 rename_i T x'
 rw [Bool.and_eq_true] at hc
 obtain ⟨hc, hT⟩ := hc
 have e := Nat.eq_of_beq_eq_true hT
 subst e
 have r1 := opd_rep he hc
 simp only [AWop] at h
 cases hb : (rowB (ev ρ y) && Nat.beq size (ev ρ y).cells.length) with
 | false => rw [hb] at h; exact h.elim
 | true =>
  rw [hb] at h
  simp only [Bool.and_eq_true] at hb
  obtain ⟨nm, hu, hty, h⟩ := h
  obtain ⟨xs, hx, hl, hr⟩ := cells_rep hb.1 r1
  have hfr := Fr.alloc hs (.cells xs.toArray T) nm (ev ρ y).cells.length (.box (.tag w.heap.size (ev ρ y).cells)) hu
  refine ⟨_, _, .inl ?_, _, _, g, S, F, _, h w.heap.size, St.alloc hst hs _ nm _ _ hu ⟨w.heap.size, xs.toArray, T, upn_self _ _ _, heap_alloc_new' w _, ⟨by show xs.toArray.size = (ev ρ y).cells.length; simpa using hl, tyOk_of hty, rfl⟩, fun j u hj => ?_⟩, hfr, .pure (.raw _ 0)⟩
  · simp [execOp, ho, Instr.box, newVar_run, hx]
  · have hj : (ev ρ y).cells[j]? = some u := hj
    have hlt := (List.getElem?_eq_some_iff.1 hj).1
    have hy : xs[j]? = some xs[j] := List.getElem?_eq_getElem (by omega)
    exact ⟨xs[j], by simp, (hr j u _ hj hy).fr hfr hs⟩
end
section
variable {G : Type} {J : JT G} {w w' w'' : World} {S F S' F' S'' F'' : Nat → Prop} {θ θ' θ'' : Names} {σ σ' σ'' : Store} {l : Nat} {g g' : G}
variable {P : Program} {o : Oper} {a : Act} {ρ : Env} {K : V → Store → G → Prop} {H : HT G}
theorem reps_append {R : V → Value → Prop} {vs us : List V} {xs ys : List Value} (h1 : Reps R vs xs) (h2 : Reps R us ys) : Reps R (vs ++ us) (xs ++ ys) := by
 refine ⟨by simp [h1.1, h2.1], fun i v x hv hx => ?_⟩
 by_cases c : i < vs.length
 · rw [List.getElem?_append_left c] at hv
   rw [List.getElem?_append_left (by rw [← h1.1]; exact c)] at hx
   exact h1.2 i v x hv hx
 · rw [List.getElem?_append_right (by omega)] at hv
   rw [List.getElem?_append_right (by rw [← h1.1]; omega)] at hx
   exact h2.2 _ v x hv (by rw [h1.1]; exact hx)
theorem reps_pure {vs : List V} {xs : List Value} (h : Reps (Rep w S θ σ l) vs xs) (hp : pureL vs = true) : Reps (RepP w S) vs xs :=
 ⟨h.1, fun i v x hv hx => (h.2 i v x hv hx).toP ((pureL_iff vs).1 hp v (mem_of_get hv))⟩
theorem reps_map {R R' : V → Value → Prop} {f : V → V} {vs : List V} {xs : List Value} (h : Reps R vs xs) (hf : ∀ v x, v ∈ vs → R v x → R' (f v) x) : Reps R' (vs.map f) xs := by
 refine ⟨by simpa using h.1, fun i v x hv hx => ?_⟩
 rw [List.getElem?_map] at hv
 cases h4 : vs[i]? with
 | none => simp [h4] at hv
 | some u => simp [h4] at hv; subst hv; exact hf u x (mem_of_get h4) (h.2 i u x h4 hx)
def wf (ro : Option Nat) : Fence := { Fence.wide with round := ro }
theorem callsIn_wf {ro : Option Nat} {f : FuncId} {args : Array Value} {R : Ending → World → Prop} (h : CallsIn Fence.wide 0 P f args w R) : CallsIn (wf ro) 0 P f args w R := h
theorem roundIn_wf {ro : Option Nat} {lf : Nat} {f : FuncId} {tmps : Array Value} {assign body : Code} {R : Ending → World → Prop} (h : RoundIn Fence.wide 0 P lf f tmps assign body w R) : RoundIn (wf ro) 0 P lf f tmps assign body w R := h
theorem runs_wp {next : Act → World → Prop} {Q : Exit → Act → World → Prop} {ro : Option Nat} (hd : ∀ c, o.op ≠ .defer c) (h : RunsTo P o a w (OpPost J w S F θ σ l K))
  (hn : ∀ x w', OpPost J w S F θ σ l K x w' → next (a.put o.dst x) w') : o.wpIn (wf ro) 0 P a w next Q := by
 refine ⟨fun _ _ => trivial, ?_⟩
 rw [Oper.semAt_eq _ _ _ hd]
 obtain ⟨x, w', h1, h2⟩ := h
 rcases h1 with h1 | ⟨h1, rfl⟩
 · rw [h1]; exact hn x w' h2
 · rw [h1]; exact hn undef w' h2
theorem chk_not_defer {aop : AOp} (hc : chkOp P o.op aop = true) : ∀ c, o.op ≠ .defer c := by
 intro c e
 rw [e] at hc
 cases aop <;> simp [chkOp] at hc
theorem find_callable {f : Nat} (h : callable P f = true) : ∃ fn, P.funcs[f]? = some fn ∧ fn.name ≠ "runtime.NumGoroutine" ∧ fn.body.isSome = true := by
 unfold callable at h
 split at h
 · rename_i fn hf
   simp only [Bool.and_eq_true, bne_iff_ne, ne_eq] at h
   exact ⟨fn, hf, h.1, h.2⟩
 · cases h
theorem call_run {f : Nat} (h : callable P f = true) (args : Array Value) (w : World) : (callFunc f args).run P w = .ok (.enter f args) w := by
 obtain ⟨fn, hf, hn, hb⟩ := find_callable h
 obtain ⟨c, hc⟩ := Option.isSome_iff_exists.1 hb
 simp [callFunc, hf, hn, hc]
theorem call_op {c : Call} {f : Nat} {fa : Operand} {caps : List Value} (hop : o.op = .call c) (hcal : c.callee = .value fa) (hf : a.eval fa = .func (.func f) #[] caps.toArray) (hb : callable P f = true) (w : World) :
  (execOp a.eval o).run P w = .ok (.enter f ((c.args.toList.map a.eval) ++ caps).toArray) w := by
 obtain ⟨callee, args, argTypes⟩ := c
 dsimp only at hcal
 subst hcal
 have e : ((args.toList.map a.eval) ++ caps).toArray = args.map a.eval ++ caps.toArray := by
  apply Array.ext'
  simp
 rw [e]
 simp [execOp, hop, resolve, hf, Deferred.ofValue, invoke, call_run hb]
theorem yield_op {c : Call} {l : Nat} {fa : Operand} (hop : o.op = .call c) (hcal : c.callee = .value fa) (hf : a.eval fa = .func (.yield l) #[] #[]) (w : World) :
  (execOp a.eval o).run P w = (Instr.yield l (c.args.toList.map a.eval).toArray).run P w := by
 obtain ⟨callee, args, argTypes⟩ := c
 dsimp only at hcal
 subst hcal
 have e : (args.toList.map a.eval).toArray = args.map a.eval := by
  apply Array.ext'
  simp
 rw [e]
 simp [execOp, hop, resolve, hf, Deferred.ofValue, invoke]
theorem call_wp {m : Mode} {f : Opd} {args : List Opd} {next : Act → World → Prop} {Q : Exit → Act → World → Prop} {ro : Option Nat} (hst : Stable J) (hM : MonoH H) (hH : HokS P J H l) (hs : St J w S F θ σ l g) (he : EnvRep w S θ σ l ρ a.tmps)
  (hc : chkOp P o.op (.call m f args) = true) (h : AWop P H ρ σ g (.call m f args) K) (hn : ∀ x w', OpPost J w S F θ σ l K x w' → next (a.put o.dst x) w') : o.wpIn (wf ro) 0 P a w next Q := by
 have hd := chk_not_defer hc
 refine ⟨fun _ _ => trivial, ?_⟩
 rw [Oper.semAt_eq _ _ _ hd]
 cases ho : o.op <;> rw [ho] at hc <;> simp only [chkOp, Bool.false_eq_true] at hc
 rename_i c
 simp only [Bool.and_eq_true] at hc
 obtain ⟨hc1, hc2⟩ := hc
 split at hc1
 · rename_i fa hcal
   have rf := opd_rep he hc1
   have ra := opds_rep he hc2
   simp only [AWop] at h
   generalize hv : ev ρ f = v at h rf
   generalize hvs : args.map (ev ρ) = vs at h ra
   have hlen := ra.1
   unfold AWcall at h
   split at h
   ·
    rename_i fid caps
    obtain ⟨r, ⟨hcb, hfn⟩, hpf, hk⟩ := h
    obtain ⟨cs, hfe, hcl, hcr⟩ := rf.fn_inv
    have hall : Reps (Rep w S θ σ l) (vs ++ caps) ((c.args.toList.map a.eval) ++ cs) := reps_append ra ⟨hcl, hcr⟩
    rw [call_op ho hcal hfe hcb]
    refine ⟨(fun h => by cases h), ?_⟩
    by_cases hp : pureL (vs ++ caps) = true
    · have hcall := hfn w S _ hs.hS (hst.1 _ _ _ _ hs.hJ) (reps_map (reps_pure hall hp) (fun v x _ hr => hr.er σ 6))
      refine (callsIn_wf hcall).mono fun e w' he' => ?_
      obtain ⟨x', S', rfl, hr, hS1, hS2, hg⟩ := he'
      refine hn x' w' ⟨r, σ, g, _, F, θ, hk, St.grow hst hs hg (N := fun b => S' b ∧ w.heap.size ≤ b) (fun b hb => hb.2) (fun b hb => hS2 b hb.1), Fr.grow hs hg (fun b hb => hb.2), .pure (hr.mono (fun _ _ => rfl) fun b hb => ?_)⟩
      rcases hS1 b hb with h1 | h1
      · exact .inl h1
      · exact .inr ⟨hb, h1⟩
    · have hfl : flatB r = true := by
       cases hfr : flatB r with
       | true => rfl
       | false =>
        rw [hfr] at hpf
        simp at hpf
        exact absurd hpf hp
      have hcall := hfn w (All w) _ (fun b hb => hb) ((hst.1 _ _ _ _ hs.hJ).same (fun _ _ => rfl) hs.hS) (reps_map hall (fun v x _ hr => hr.er hs 6))
      refine (callsIn_wf hcall).mono fun e w' he' => ?_
      obtain ⟨x', S', rfl, hr, hS1, hS2, hg⟩ := he'
      exact hn x' w' ⟨r, σ, g, _, F, θ, hk, St.grow hst hs hg (N := fun _ => False) (fun b hb => hb.elim) (fun b hb => hb.elim), Fr.grow hs hg (fun b hb => hb.elim), .pure (hr.flat hfl)⟩
   ·
    rename_i pn fid caps
    obtain ⟨hcl1, hcl2, ⟨hcb, hct⟩, hk⟩ : _ ∧ _ ∧ _ ∧ True := ⟨h.1, h.2.1, h.2.2, trivial⟩
    obtain ⟨cs, hfe, hcl, hcr⟩ := rf.fn_inv
    have hall : Reps (Rep w S θ σ l) (vs ++ caps) ((c.args.toList.map a.eval) ++ cs) := reps_append ra ⟨hcl, hcr⟩
    have hr0 : Reps (Rep w S (restrN pn θ) (restr pn σ) l) (vs ++ caps) ((c.args.toList.map a.eval) ++ cs) :=
     ⟨hall.1, fun i v x h1 h2 => (hall.2 i v x h1 h2).restr (fun nm hm => restr_in hm) ((closedL_iff pn _).1 hcl1 v (mem_of_get h1))⟩
    have hs0 : St J w S F (restrN pn θ) (restr pn σ) l g := hs.restr (fun nm hm => restr_in hm) (fun nm hm => restr_out hm) (fun nm hm row hrow => (closedSt_iff pn σ pn).1 hcl2 nm hm row hrow)
    have hcall := hct J l hst hM hH w S F _ _ hs0 hr0
    rw [call_op ho hcal hfe hcb]
    refine ⟨(fun h => by cases h), (callsIn_wf hcall).mono fun e w' he' => ?_⟩
    obtain ⟨r, x', σ', g', S', F', θ', rfl, hK, hs', hr', hfr, hun⟩ := he'
    exact hn x' w' ⟨r, merge pn σ σ', g', S', F', mergeN pn θ θ', hK, merge_st hs hfr hs' hun, merge_fr hs hfr, hr'.ext (merge_ext hun)⟩
   ·
    obtain ⟨hp, hk⟩ := h
    have hfe := rf.rnd_inv
    have hs0 : St J w S F (restrN [] θ) (restr [] σ) l g := hs.restr (pn := []) (fun nm hm => by cases hm) (fun nm hm => restr_out hm) (fun nm hm => by cases hm)
    have e1 : restr [] σ = σ0 := by funext nm; exact (restr_out (σ := σ) (θ := θ) (List.not_mem_nil)).1
    have e2 : restrN [] θ = θ0 := by funext nm; exact (restr_out (σ := σ) (θ := θ) (List.not_mem_nil)).2
    obtain ⟨lf, tmps, asg, body, hy, hro⟩ := hH vs (c.args.toList.map a.eval) g w S F _ (by rw [← e1, ← e2]; exact hs0) (reps_pure ra hp) hk
    rw [yield_op ho hcal hfe, hy]
    refine ⟨(fun h => by cases h), (roundIn_wf hro).mono fun e w' he' => ?_⟩
    obtain ⟨r, x', g', S', F', rfl, hK, hr', hs', hfr⟩ := he'
    have hfr' : Fr w S F (restrN [] θ) (restr [] σ) w' S' F' θ0 σ0 := by rw [e1, e2]; exact hfr
    have e3 : merge [] σ σ0 = σ := by funext nm; exact (merge_out (σ := σ) (σ' := σ0) (θ := θ) (θ' := θ0) (List.not_mem_nil)).1
    have h1 := merge_st hs hfr' hs' (fun nm _ => rfl)
    have h2 := merge_fr hs hfr'
    rw [e3] at h1 h2
    exact hn x' w' ⟨r, σ, g', S', F', _, hK, h1, h2, .pure hr'⟩
   ·
    rename_i fid caps
    obtain ⟨pn, hcl1, hcl2, hcb, hct⟩ := h
    obtain ⟨cs, hfe, hcl, hcr⟩ := rf.fn_inv
    have hall : Reps (Rep w S θ σ l) (vs ++ caps) ((c.args.toList.map a.eval) ++ cs) := reps_append ra ⟨hcl, hcr⟩
    have hr0 : Reps (Rep w S (restrN pn θ) (restr pn σ) l) (vs ++ caps) ((c.args.toList.map a.eval) ++ cs) :=
     ⟨hall.1, fun i v x h1 h2 => (hall.2 i v x h1 h2).restr (fun nm hm => restr_in hm) ((closedL_iff pn _).1 hcl1 v (mem_of_get h1))⟩
    have hs0 : St J w S F (restrN pn θ) (restr pn σ) l g := hs.restr (fun nm hm => restr_in hm) (fun nm hm => restr_out hm) (fun nm hm row hrow => (closedSt_iff pn σ pn).1 hcl2 nm hm row hrow)
    have hcall := hct J l hst hM hH w S F _ _ hs0 hr0
    rw [call_op ho hcal hfe hcb]
    refine ⟨(fun h => by cases h), (callsIn_wf hcall).mono fun e w' he' => ?_⟩
    obtain ⟨r, x', σ', g', S', F', θ', rfl, hK, hs', hr', hfr, hun⟩ := he'
    exact hn x' w' ⟨r, merge pn σ σ', g', S', F', mergeN pn θ θ', hK, merge_st hs hfr hs' hun, merge_fr hs hfr, hr'.ext (merge_ext hun)⟩
   · exact h.elim
 · cases hc1
theorem acall_wp {m : Mode} {fid : Nat} {vs caps : List V} {xs : List Value} {next : Act → World → Prop} {Q : Exit → Act → World → Prop} {ro : Option Nat} (hst : Stable J) (hM : MonoH H) (hH : HokS P J H l) (hs : St J w S F θ σ l g)
  (hd : ∀ c, o.op ≠ .defer c) (hall : Reps (Rep w S θ σ l) (vs ++ caps) xs) (hop : callable P fid = true → (execOp a.eval o).run P w = .ok (.enter fid xs.toArray) w)
  (h : AWcall P H σ g m (.fn fid caps) vs K) (hn : ∀ x w', OpPost J w S F θ σ l K x w' → next (a.put o.dst x) w') : o.wpIn (wf ro) 0 P a w next Q := by
 refine ⟨fun _ _ => trivial, ?_⟩
 rw [Oper.semAt_eq _ _ _ hd]
 unfold AWcall at h
 split at h
 ·
  rename_i fid' caps' hf
  cases hf
  obtain ⟨r, ⟨hcb, hfn⟩, hpf, hk⟩ := h
  rw [hop hcb]
  refine ⟨(fun h => by cases h), ?_⟩
  by_cases hp : pureL (vs ++ caps) = true
  · have hcall := hfn w S _ hs.hS (hst.1 _ _ _ _ hs.hJ) (reps_map (reps_pure hall hp) (fun v x _ hr => hr.er σ 6))
    refine (callsIn_wf hcall).mono fun e w' he' => ?_
    obtain ⟨x', S', rfl, hr, hS1, hS2, hg⟩ := he'
    refine hn x' w' ⟨r, σ, g, _, F, θ, hk, St.grow hst hs hg (N := fun b => S' b ∧ w.heap.size ≤ b) (fun b hb => hb.2) (fun b hb => hS2 b hb.1), Fr.grow hs hg (fun b hb => hb.2), .pure (hr.mono (fun _ _ => rfl) fun b hb => ?_)⟩
    rcases hS1 b hb with h1 | h1
    · exact .inl h1
    · exact .inr ⟨hb, h1⟩
  · have hfl : flatB r = true := by
     cases hfr : flatB r with
     | true => rfl
     | false =>
      rw [hfr] at hpf
      simp at hpf
      exact absurd hpf hp
    have hcall := hfn w (All w) _ (fun b hb => hb) ((hst.1 _ _ _ _ hs.hJ).same (fun _ _ => rfl) hs.hS) (reps_map hall (fun v x _ hr => hr.er hs 6))
    refine (callsIn_wf hcall).mono fun e w' he' => ?_
    obtain ⟨x', S', rfl, hr, hS1, hS2, hg⟩ := he'
    exact hn x' w' ⟨r, σ, g, _, F, θ, hk, St.grow hst hs hg (N := fun _ => False) (fun b hb => hb.elim) (fun b hb => hb.elim), Fr.grow hs hg (fun b hb => hb.elim), .pure (hr.flat hfl)⟩
 ·
  rename_i pn fid' caps' hf
  cases hf
  obtain ⟨hcl1, hcl2, ⟨hcb, hct⟩, hk⟩ : _ ∧ _ ∧ _ ∧ True := ⟨h.1, h.2.1, h.2.2, trivial⟩
  have hr0 : Reps (Rep w S (restrN pn θ) (restr pn σ) l) (vs ++ caps) xs :=
   ⟨hall.1, fun i v x h1 h2 => (hall.2 i v x h1 h2).restr (fun nm hm => restr_in hm) ((closedL_iff pn _).1 hcl1 v (mem_of_get h1))⟩
  have hs0 : St J w S F (restrN pn θ) (restr pn σ) l g := hs.restr (fun nm hm => restr_in hm) (fun nm hm => restr_out hm) (fun nm hm row hrow => (closedSt_iff pn σ pn).1 hcl2 nm hm row hrow)
  have hcall := hct J l hst hM hH w S F _ _ hs0 hr0
  rw [hop hcb]
  refine ⟨(fun h => by cases h), (callsIn_wf hcall).mono fun e w' he' => ?_⟩
  obtain ⟨r, x', σ', g', S', F', θ', rfl, hK, hs', hr', hfr, hun⟩ := he'
  exact hn x' w' ⟨r, merge pn σ σ', g', S', F', mergeN pn θ θ', hK, merge_st hs hfr hs' hun, merge_fr hs hfr, hr'.ext (merge_ext hun)⟩
 · rename_i hf; cases hf
 · rename_i fid' caps' hf
   cases hf
   obtain ⟨pn, hcl1, hcl2, hcb, hct⟩ := h
   have hr0 : Reps (Rep w S (restrN pn θ) (restr pn σ) l) (vs ++ caps) xs :=
    ⟨hall.1, fun i v x h1 h2 => (hall.2 i v x h1 h2).restr (fun nm hm => restr_in hm) ((closedL_iff pn _).1 hcl1 v (mem_of_get h1))⟩
   have hs0 : St J w S F (restrN pn θ) (restr pn σ) l g := hs.restr (fun nm hm => restr_in hm) (fun nm hm => restr_out hm) (fun nm hm row hrow => (closedSt_iff pn σ pn).1 hcl2 nm hm row hrow)
   have hcall := hct J l hst hM hH w S F _ _ hs0 hr0
   rw [hop hcb]
   refine ⟨(fun h => by cases h), (callsIn_wf hcall).mono fun e w' he' => ?_⟩
   obtain ⟨r, x', σ', g', S', F', θ', rfl, hK, hs', hr', hfr, hun⟩ := he'
   exact hn x' w' ⟨r, merge pn σ σ', g', S', F', mergeN pn θ θ', hK, merge_st hs hfr hs' hun, merge_fr hs hfr, hr'.ext (merge_ext hun)⟩
 · exact h.elim
theorem methF_inv {t : TypeId} {name : String} {f : Nat} {pr : Bool} (h : methF P t name = some (f, pr)) : ∃ i m e, P.info? t = some i ∧ i.methods.find? (·.name == name) = some m ∧ m.path.toList = [] ∧ m.func = some (f, pr) ∧ P.underlying t = some (.pointer e) ∧ (pr = false → (P.underlying e).isSome = true ∧ tAgg P e = false) := by
 unfold methF at h
 split at h
 · rename_i i hi
   split at h
   · rename_i m hm
     split at h
     · rename_i f' pr' hp hf
       split at h
       · rename_i e hu
         refine ⟨i, m, e, hi, hm, hp, ?_, hu, ?_⟩
         · split at h <;> first | (cases h; done) | (cases h; exact hf)
         · intro hpr
           subst hpr
           unfold tAgg
           cases hd : P.underlying e with
           | none => rw [hd] at h; cases pr' <;> simp at h
           | some d =>
            rw [hd] at h
            refine ⟨rfl, ?_⟩
            cases d <;> first | rfl | (exfalso; cases pr' <;> simp at h; done)
       · cases h
     · cases h
   · cases h
 · cases h
theorem meth_true {t : TypeId} {name : String} {f : Nat} {v : Value} (h : methF P t name = some (f, true)) (w : World) : (Go.method (P.types.size + Made.depth) t v name).run P w = .ok (f, v) w := by
 obtain ⟨i, m, e, hi, hm, hp, hf, hu, _⟩ := methF_inv h
 have hz : P.types.size + Made.depth = (P.types.size + Made.depth - 1) + 1 := by unfold Made.depth; omega
 rw [hz]
 simp [Go.method, typeInfo, hi, hm, hp, hf, follow, receiverAt, run_underlying hu, Place.get]
theorem wrap_run {A : Array TypeId} {T : TypeId} {ad : Addr} {s1 s2 : ByteArray} (w : World) : (Builtin.ssaWrapNilChk_ A T #[.pointer (some ad), .string s1, .string s2]).run P w = .ok (.pointer (some ad)) w := rfl
theorem meth_false {t : TypeId} {name : String} {f : Nat} {b j : Nat} {y : Value} (h : methF P t name = some (f, false)) {w : World} (hc : w.cell? ⟨b, j, none⟩ = some y) : (Go.method (P.types.size + Made.depth) t (.pointer (some ⟨b, j, none⟩)) name).run P w = .ok (f, y) w := by
 obtain ⟨i, m, e, hi, hm, hp, hf, hu, hag⟩ := methF_inv h
 obtain ⟨h1, h2⟩ := hag rfl
 have hz : P.types.size + Made.depth = (P.types.size + Made.depth - 1) + 1 := by unfold Made.depth; omega
 rw [hz]
 have hpe : m.path = #[] := by simpa using hp
 simp [Go.method, typeInfo, hi, hm, hpe, hf, follow, receiverAt, run_underlying hu, Place.get, wrap_run, strVal, asAddr, loadVar, isAgg_run h1, h2, hc]
theorem callM_wp {m : Mode} {name : String} {x : Opd} {args : List Opd} {next : Act → World → Prop} {Q : Exit → Act → World → Prop} {ro : Option Nat} (hst : Stable J) (hM : MonoH H) (hH : HokS P J H l) (hs : St J w S F θ σ l g) (he : EnvRep w S θ σ l ρ a.tmps)
  (hc : chkOp P o.op (.callM m name x args) = true) (h : AWop P H ρ σ g (.callM m name x args) K) (hn : ∀ x w', OpPost J w S F θ σ l K x w' → next (a.put o.dst x) w') : o.wpIn (wf ro) 0 P a w next Q := by
 have hd := chk_not_defer hc
 cases ho : o.op <;> rw [ho] at hc <;> simp only [chkOp, Bool.false_eq_true] at hc
 rename_i c
 simp only [Bool.and_eq_true] at hc
 obtain ⟨hc1, hc2⟩ := hc
 obtain ⟨callee, cargs, argTypes⟩ := c
 dsimp only at hc1 hc2
 split at hc1
 · rename_i r n
   simp only [Bool.and_eq_true] at hc1
   obtain ⟨hc3, hc4⟩ := hc1
   have en : n = name := by simpa using hc3
   subst en
   have rx := opd_rep he hc4
   have ra := opds_rep he hc2
   simp only [AWop] at h
   split at h
   · rename_i t v hv
     rw [hv] at rx
     obtain ⟨y, ey, ry⟩ := rx.ifv_inv
     have run : ∀ (f : Nat) (u : Value), (Go.method (P.types.size + Made.depth) t y n).run P w = .ok (f, u) w → callable P f = true → (execOp a.eval o).run P w = .ok (.enter f (u :: cargs.toList.map a.eval).toArray) w := fun f u hm hcb => by
      have e : (u :: cargs.toList.map a.eval).toArray = #[u] ++ cargs.map a.eval := by
       apply Array.ext'
       simp
      have e2 : (cargs.map a.eval).extract 0 cargs.size = cargs.map a.eval := by
       apply Array.ext'
       simp only [Array.toList_extract, Array.toList_map]
       simp [List.take_of_length_le]
      have e3 : (#[Value.iface t y] ++ cargs.map a.eval)[0]? = some (.iface t y) := by
       rw [Array.getElem?_append_left (by simp)]
       rfl
      rw [e]
      simp [execOp, ho, resolve, invoke, ey, callMethod, e2, e3, hm, call_run hcb]
     split at h
     · rename_i f hmf
       have hall : Reps (Rep w S θ σ l) ((v :: args.map (ev ρ)) ++ []) (y :: cargs.toList.map a.eval) := by
        rw [List.append_nil]
        exact reps_append (us := args.map (ev ρ)) (vs := [v]) (xs := [y]) ⟨rfl, fun i v' x' h1 h2 => by
         cases i with
         | zero => simp at h1 h2; subst h1 h2; exact ry
         | succ i => simp at h1⟩ ra
       exact acall_wp hst hM hH hs hd hall (run f y (meth_true hmf w)) h hn
     · rename_i f hmf
       split at h
       · rename_i b j
         obtain ⟨nm, ll, u, hσ, hu, h⟩ := h
         have ery := ry.raw_inv
         subst ery
         have hk := hs.hblk nm
         rw [hσ] at hk
         obtain ⟨b', cc, e', h2, h3, ⟨h4, h4t, h4g⟩, h5⟩ := hk
         have eb : b = b' := h4g
         subst eb
         obtain ⟨z, hz, hr⟩ := h5 j u hu
         have hcell : w.cell? ⟨b, j, none⟩ = some z := by simpa [World.cell?, h3] using hz
         have hall : Reps (Rep w S θ σ l) ((u :: args.map (ev ρ)) ++ []) (z :: cargs.toList.map a.eval) := by
          rw [List.append_nil]
          exact reps_append (us := args.map (ev ρ)) (vs := [u]) (xs := [z]) ⟨rfl, fun i v' x' h1 h2 => by
           cases i with
           | zero => simp at h1 h2; subst h1 h2; exact hr
           | succ i => simp at h1⟩ ra
         exact acall_wp hst hM hH hs hd hall (run f z (meth_false hmf hcell)) h hn
       · exact h.elim
     · exact h.elim
   · exact h.elim
 · cases hc1
theorem op_wp {aop : AOp} {next : Act → World → Prop} {Q : Exit → Act → World → Prop} {ro : Option Nat} (hst : Stable J) (hM : MonoH H) (hH : HokS P J H l) (hs : St J w S F θ σ l g) (he : EnvRep w S θ σ l ρ a.tmps)
  (hc : chkOp P o.op aop = true) (h : AWop P H ρ σ g aop K) (hn : ∀ x w', OpPost J w S F θ σ l K x w' → next (a.put o.dst x) w') : o.wpIn (wf ro) 0 P a w next Q := by
 have hd := chk_not_defer hc
 cases aop with
 | mov x => exact runs_wp hd (sop_mov hs he hc h) hn
 | newVec nm => exact runs_wp hd (sop_newVec hst hs hc h) hn
 | newArr nm => exact runs_wp hd (sop_newArr hst hs hc h) hn
 | pick c x y => exact runs_wp hd (sop_pick hs he hc h) hn
 | bin op st et x y => exact runs_wp hd (sop_bin hs he hc h) hn
 | not x => exact runs_wp hd (sop_not hs he hc h) hn
 | dead => exact absurd h (by simp [AWop])
 | len s x => exact runs_wp hd (sop_len hs he hc h) hn
 | alloc nm z => exact runs_wp hd (sop_alloc hst hs hc h) hn
 | box nm size x => exact runs_wp hd (sop_box hst hs he hc h) hn
 | build z ps => exact runs_wp hd (sop_build hs he hc h) hn
 | bsl size xs => exact runs_wp hd (sop_bsl hst hs he hc h) hn
 | bslO nm size xs => exact runs_wp hd (sop_bslO hst hs he hc h) hn
 | load agg size x => exact runs_wp hd (sop_load hs he hc h) hn
 | store size x y => exact runs_wp hd (sop_store hst hs he hc h) hn
 | faddr off x => exact runs_wp hd (sop_faddr hs he hc h) hn
 | field agg size off x => exact runs_wp hd (sop_field hs he hc h) hn
 | iaddr size x i => exact runs_wp hd (sop_iaddr hs he hc h) hn
 | index x i => exact runs_wp hd (sop_index hs he hc h) hn
 | idxA len x i => exact runs_wp hd (sop_idxA hs he hc h) hn
 | extract x i => exact runs_wp hd (sop_extract hs he hc h) hn
 | append size bytes x y => exact runs_wp hd (sop_append hst hs he hc h) hn
 | appR size bytes x y => exact runs_wp hd (sop_appR hst hs he hc h) hn
 | slice s size x lo hi => exact runs_wp hd (sop_slice hs he hc h) hn
 | cut0 x => exact runs_wp hd (sop_cut0 hs he hc h) hn
 | mkSl nm size bytes z x y => exact runs_wp hd (sop_mkSl hst hs he hc h) hn
 | mkVec nm size bytes x y => exact runs_wp hd (sop_mkVec hst hs he hc h) hn
 | mkfn f caps => exact runs_wp hd (sop_mkfn hs he hc h) hn
 | conv k x => exact runs_wp hd (sop_conv hs he hc h) hn
 | nilck x => exact runs_wp hd (sop_nilck hs he hc h) hn
 | bslA nm size xs => exact runs_wp hd (sop_bslA hst hs he hc h) hn
 | clear size bytes z x => exact runs_wp hd (sop_clear hst hs he hc h) hn
 | isnil neg x => exact runs_wp hd (sop_isnil hs he hc h) hn
 | isnili neg x => exact runs_wp hd (sop_isnili hs he hc h) hn
 | max x y => exact runs_wp hd (sop_max hs he hc h) hn
 | min x y => exact runs_wp hd (sop_min hs he hc h) hn
 | call m f args => exact call_wp hst hM hH hs he hc h hn
 | callM m name x args => exact callM_wp hst hM hH hs he hc h hn
 | mkMap nm k => exact runs_wp hd (sop_mkMap hst hs hc h) hn
 | boxR et size x => exact runs_wp hd (sop_boxR hst hs he hc h) hn
 | mget ok z x i => exact runs_wp hd (sop_mget hs he hc h) hn
 | mput x i v => exact runs_wp hd (sop_mput hst hs he hc h) hn
 | mdel x i => exact runs_wp hd (sop_mdel hst hs he hc h) hn
 | mlen x => exact runs_wp hd (sop_mlen hs he hc h) hn
 | mkifc t x => exact runs_wp hd (sop_mkifc hs he hc h) hn
 | tass t x => exact runs_wp hd (sop_tass hs he hc h) hn
end
def AOp.opds : AOp → List Opd
 | .mov x => [x]
 | .newVec _ => []
 | .newArr _ => []
 | .pick c a b => [c, a, b]
 | .bin _ _ _ x y => [x, y]
 | .not x => [x]
 | .len _ x => [x]
 | .alloc _ _ => []
 | .box _ _ x => [x]
 | .build _ ps => ps.map fun p => p.2.2
 | .bsl _ xs => xs
 | .bslO _ _ xs => xs
 | .load _ _ a => [a]
 | .store _ a x => [a, x]
 | .faddr _ x => [x]
 | .field _ _ _ x => [x]
 | .iaddr _ x i => [x, i]
 | .index x i => [x, i]
 | .idxA _ x i => [x, i]
 | .extract x _ => [x]
 | .append _ _ _ x y => [x, y]
 | .appR _ _ _ x y => [x, y]
 | .slice _ _ x lo hi => x :: (lo.toList ++ hi.toList)
 | .cut0 x => [x]
 | .mkSl _ _ _ _ a b => [a, b]
 | .mkVec _ _ _ a b => [a, b]
 | .mkfn _ caps => caps
 | .conv _ x => [x]
 | .nilck x => [x]
 | .isnil _ x => [x]
 | .isnili _ x => [x]
 | .bslA _ _ xs => xs
 | .clear _ _ _ x => [x]
 | .max x y => [x, y]
 | .min x y => [x, y]
 | .dead => []
 | .call _ f args => f :: args
 | .callM _ _ x args => x :: args
 | .mkMap _ _ => []
 | .boxR _ _ x => [x]
 | .mget _ _ x i => [x, i]
 | .mput x i v => [x, i, v]
 | .mdel x i => [x, i]
 | .mlen x => [x]
 | .mkifc _ x => [x]
 | .tass _ x => [x]
def AOp.isE : AOp → Bool
 | .mov _ | .pick .. | .bin .. | .not _ | .build .. | .bsl .. | .field .. | .index .. | .idxA .. | .extract .. | .cut0 _ | .mkfn .. | .conv .. | .max .. | .min .. | .mkifc .. | .tass .. => true
 | _ => false
def AOp.isR (o : AOp) : Bool := o.isE || (match o with
 | .load .. | .faddr .. | .iaddr .. | .slice .. | .len .. | .nilck .. | .call .f _ _ | .mget .. | .mlen .. => true
 | _ => false)
section
variable {G : Type} {P : Program} {H : HT G} {ρ ρ' : Env} {σ σ' : Store} {g g' : G} {K K' : V → Store → G → Prop}
theorem abin_split {op : BinOp} {st : Bool} {et : List LT} {x y : V} {Kv : V → Prop} (h : abin op st et x y Kv) : ∃ v, Kv v ∧ ∀ K' : V → Prop, K' v → abin op st et x y K' := by
 unfold abin at h ⊢
 split at h <;> first
  | exact h.elim
  | exact ⟨_, h.2, fun K' hk => ⟨h.1, hk⟩⟩
  | (cases hk : kEq _ _ with
     | false => rw [hk] at h; exact h.elim
     | true =>
      rw [hk] at h
      simp only [cond_true] at h ⊢
      first
       | exact ⟨_, h.2.2, fun K' hk => ⟨h.1, h.2.1, hk⟩⟩
       | exact ⟨_, h.2, fun K' hk => ⟨h.1, hk⟩⟩
       | exact ⟨_, h, fun K' hk => hk⟩)
  | (cases he : eqv st et x y with
     | none => rw [he] at h; exact h.elim
     | some b =>
      rw [he] at h
      exact ⟨_, h, fun K' hk => hk⟩)
theorem E_split {o : AOp} (he : o.isE = true) (h : AWop P H ρ σ g o K) : ∃ v, K v σ g ∧ ∀ (σ' : Store) (g' : G) (K' : V → Store → G → Prop), K' v σ' g' → AWop P H ρ σ' g' o K' := by
 cases o <;> simp only [AOp.isE, Bool.false_eq_true] at he
 case mov x => exact ⟨_, h, fun σ' g' K' hk => hk⟩
 case pick c a b =>
  simp only [AWop] at h ⊢
  split at h
  · exact ⟨_, h, fun σ' g' K' hk => hk⟩
  · exact h.elim
 case bin op st et x y =>
  simp only [AWop] at h ⊢
  obtain ⟨v, h1, h2⟩ := abin_split h
  exact ⟨v, h1, fun σ' g' K' hk => h2 _ hk⟩
 case not x =>
  simp only [AWop] at h ⊢
  split at h
  · exact ⟨_, h, fun σ' g' K' hk => hk⟩
  · exact h.elim
 case build z ps =>
  simp only [AWop] at h ⊢
  split at h
  · exact ⟨_, h, fun σ' g' K' hk => hk⟩
  · exact h.elim
 case bsl size xs =>
  simp only [AWop] at h ⊢
  exact ⟨_, h.2, fun σ' g' K' hk => ⟨h.1, hk⟩⟩
 case field agg size off x =>
  simp only [AWop] at h ⊢
  split at h
  · split at h
    · exact ⟨_, h, fun σ' g' K' hk => hk⟩
    · exact h.elim
  · exact h.elim
 case index x i =>
  simp only [AWop] at h ⊢
  split at h
  · obtain ⟨h0, c, hc, hk⟩ := h
    exact ⟨_, hk, fun σ' g' K' hk => ⟨h0, c, hc, hk⟩⟩
  · exact h.elim
 case idxA len x i =>
  simp only [AWop] at h ⊢
  split at h
  · obtain ⟨h0, h1, c, hc, hk⟩ := h
    exact ⟨_, hk, fun σ' g' K' hk => ⟨h0, h1, c, hc, hk⟩⟩
  · exact h.elim
 case extract x i =>
  simp only [AWop] at h ⊢
  split at h
  · split at h
    · exact ⟨_, h, fun σ' g' K' hk => hk⟩
    · exact h.elim
  · exact h.elim
 case cut0 x =>
  simp only [AWop] at h ⊢
  split at h
  · exact ⟨_, h, fun σ' g' K' hk => hk⟩
  · exact h.elim
 case mkfn f caps => exact ⟨_, h, fun σ' g' K' hk => hk⟩
 case conv k x =>
  simp only [AWop] at h ⊢
  split at h
  · exact ⟨_, h.2, fun σ' g' K' hk => ⟨h.1, hk⟩⟩
  · exact h.elim
 case max x y =>
  simp only [AWop] at h ⊢
  split at h
  · cases hk : kEq _ _ with
    | false => rw [hk] at h; exact h.elim
    | true => rw [hk] at h; exact ⟨_, h, fun σ' g' K' hk => hk⟩
  · exact h.elim
 case min x y =>
  simp only [AWop] at h ⊢
  split at h
  · cases hk : kEq _ _ with
    | false => rw [hk] at h; exact h.elim
    | true => rw [hk] at h; exact ⟨_, h, fun σ' g' K' hk => hk⟩
  · exact h.elim
 case mkifc t x => exact ⟨_, h, fun σ' g' K' hk => hk⟩
 case tass t x =>
  simp only [AWop] at h ⊢
  split at h
  · cases hb : Nat.beq t _ with
    | false => rw [hb] at h; exact h.elim
    | true => rw [hb] at h; exact ⟨_, h, fun σ' g' K' hk => hk⟩
  · exact h.elim
theorem R_split {o : AOp} (he : o.isR = true) (h : AWop P H ρ σ g o K) : ∃ v, K v σ g ∧ ∀ (K' : V → Store → G → Prop), K' v σ g → AWop P H ρ σ g o K' := by
 unfold AOp.isR at he
 cases hE : o.isE with
 | true =>
  obtain ⟨v, h1, h2⟩ := E_split hE h
  exact ⟨v, h1, fun K' hk => h2 σ g K' hk⟩
 | false =>
  rw [hE] at he
  simp only [Bool.false_or] at he
  split at he
  case h_10 => cases he
  case h_1 agg size a =>
   simp only [AWop] at h ⊢
   split at h
   · split at h
     · split at h
       · exact ⟨_, h, fun K' hk => hk⟩
       · exact h.elim
     · exact h.elim
   · split at h
     · obtain ⟨h0, row, hr, h⟩ := h
       split at h
       · exact ⟨_, h, fun K' hk => ⟨h0, row, hr, by simp only [*]⟩⟩
       · exact h.elim
     · exact h.elim
   · split at h
     · exact ⟨_, h, fun K' hk => hk⟩
     · exact h.elim
   · obtain ⟨nm, ll, v, h1, h2, h⟩ := h
     exact ⟨_, h, fun K' hk => ⟨nm, ll, v, h1, h2, hk⟩⟩
   · exact h.elim
  case h_2 off x =>
   simp only [AWop] at h ⊢
   split at h
   · exact ⟨_, h, fun K' hk => hk⟩
   · split at h
     · exact ⟨_, h, fun K' hk => hk⟩
     · exact h.elim
   · split at h
     · exact ⟨_, h.2, fun K' hk => ⟨h.1, hk⟩⟩
     · exact h.elim
   · exact ⟨_, h, fun K' hk => hk⟩
   · exact h.elim
  case h_3 size x i =>
   simp only [AWop] at h ⊢
   split at h
   · obtain ⟨h0, row, hr, hw, h⟩ := h
     exact ⟨_, h, fun K' hk => ⟨h0, row, hr, hw, hk⟩⟩
   · split at h
     · obtain ⟨h0, h1, h2, h3, h⟩ := h
       exact ⟨_, h, fun K' hk => ⟨h0, h1, h2, h3, hk⟩⟩
     · exact h.elim
   · obtain ⟨h0, h1, h⟩ := h
     exact ⟨_, h, fun K' hk => ⟨h0, h1, hk⟩⟩
   · exact h.elim
  case h_4 s size x lo hi =>
   simp only [AWop] at h ⊢
   split at h
   · obtain ⟨h0, h1, h2, h⟩ := h
     exact ⟨_, h, fun K' hk => ⟨h0, h1, h2, hk⟩⟩
   · obtain ⟨h0, h1, h2, h3, h⟩ := h
     exact ⟨_, h, fun K' hk => ⟨h0, h1, h2, h3, hk⟩⟩
   · obtain ⟨h0, h1, h⟩ := h
     exact ⟨_, h, fun K' hk => ⟨h0, h1, hk⟩⟩
   · obtain ⟨h0, h1, h2, h⟩ := h
     exact ⟨_, h, fun K' hk => ⟨h0, h1, h2, hk⟩⟩
   · split at h
     · obtain ⟨h0, h1, h2, h3, h⟩ := h
       exact ⟨_, h, fun K' hk => ⟨h0, h1, h2, h3, hk⟩⟩
     · exact h.elim
   · split at h
     · obtain ⟨h0, h1, h2, h3, h4, h⟩ := h
       exact ⟨_, h, fun K' hk => ⟨h0, h1, h2, h3, h4, hk⟩⟩
     · exact h.elim
   · obtain ⟨h0, h1, h2, h⟩ := h
     exact ⟨_, h, fun K' hk => ⟨h0, h1, h2, hk⟩⟩
   · exact h.elim
  case h_5 s x =>
   simp only [AWop] at h ⊢
   split at h
   · exact ⟨_, h, fun K' hk => hk⟩
   · split at h
     · exact ⟨_, h.2, fun K' hk => ⟨h.1, hk⟩⟩
     · exact h.elim
   · exact ⟨_, h, fun K' hk => hk⟩
   · exact ⟨_, h, fun K' hk => hk⟩
   · exact h.elim
  case h_6 x =>
   simp only [AWop] at h ⊢
   split at h
   · split at h
     · exact ⟨_, h, fun K' hk => hk⟩
     · exact h.elim
   · exact ⟨_, h, fun K' hk => hk⟩
   · exact ⟨_, h, fun K' hk => hk⟩
   · exact ⟨_, h, fun K' hk => hk⟩
   · exact ⟨_, h, fun K' hk => hk⟩
   · exact h.elim
  case h_7 f args =>
   simp only [AWop] at h ⊢
   unfold AWcall at h ⊢
   split at h
   · rename_i fid caps e1
     obtain ⟨r, h1, h2, h3⟩ := h
     exact ⟨r, h3, fun K' hk => ⟨r, h1, h2, hk⟩⟩
   · exact absurd ‹Mode.f = Mode.s _› (by intro h; cases h)
   · exact absurd ‹Mode.f = Mode.y› (by intro h; cases h)
   · exact absurd ‹Mode.f = Mode.d› (by intro h; cases h)
   · exact h.elim
  case h_8 ok z x i =>
   simp only [AWop] at h ⊢
   split at h
   · rename_i k ns vs k' n e1 e2
     cases hb : kEq k k' with
     | false => rw [hb] at h; exact h.elim
     | true => rw [hb] at h; exact ⟨_, h, fun K' hk => by simp only [cond_true]; exact hk⟩
   · exact h.elim
  case h_9 x =>
   simp only [AWop] at h ⊢
   split at h
   · exact ⟨_, h, fun K' hk => hk⟩
   · exact h.elim
theorem er_cells {σ : Store} {n : Nat} {v : V} (h : ∀ l, v ≠ .agg l) (ht : ∀ b l, v ≠ .tag b l) : (er σ n v).cells = [er σ n v] := by
 cases n with
 | zero => rfl
 | succ n =>
  cases v with
  | agg l => exact absurd rfl (h l)
  | tag b l => exact absurd rfl (ht b l)
  | bptr nm j =>
   simp only [er]
   split <;> rfl
  | msl nm gen i len =>
   simp only [er]
   split
   · cases Nat.beq gen _ <;> rfl
   · rfl
  | ptr nm gen i j =>
   simp only [er]
   split
   · cases Nat.beq gen _
     · rfl
     · simp only [cond_true]
       split <;> rfl
   · rfl
  | mp nm =>
   simp only [er]
   split <;> rfl
  | _ => rfl
theorem er_weakL {w : World} {S : Nat → Prop} {σ σ' : Store} {n : Nat} (ih : ∀ {v : V} {x : Value}, RepP w S (er σ' n v) x → RepP w S (er σ n v) x) {l : List V} {xs : List Value}
  (h : ∀ (i : Nat) (v : V) (x : Value), (l.map (er σ' n))[i]? = some v → xs[i]? = some x → RepP w S v x) (i : Nat) (v : V) (x : Value) (hv : (l.map (er σ n))[i]? = some v) (hx : xs[i]? = some x) : RepP w S v x := by
 rw [List.getElem?_map] at hv
 cases hu : l[i]? with
 | none => rw [hu] at hv; cases hv
 | some u =>
  rw [hu] at hv
  cases hv
  exact ih (h i _ x (by rw [List.getElem?_map, hu]; rfl) hx)
theorem er_weak {w : World} {S : Nat → Prop} {σ σ' : Store} (hσ : ∀ m, σ' m = σ m ∨ σ m = .unused) : ∀ (n : Nat) {v : V} {x : Value}, RepP w S (er σ' n v) x → RepP w S (er σ n v) x
 | 0, _, x, _ => .any x
 | n + 1, v, x, h => by
  have ih : ∀ {v : V} {x : Value}, RepP w S (er σ' n v) x → RepP w S (er σ n v) x := fun h => er_weak hσ n h
  cases v with
  | agg l =>
   simp only [er] at h ⊢
   cases h with
   | agg _ xs hl h => exact .agg _ xs (by simpa using hl) (er_weakL ih h)
  | tup l =>
   simp only [er] at h ⊢
   cases h with
   | tup _ xs hl h => exact .tup _ xs (by simpa using hl) (er_weakL ih h)
  | fn f l =>
   simp only [er] at h ⊢
   cases h with
   | fn _ _ xs hl h => exact .fn _ _ xs (by simpa using hl) (er_weakL ih h)
  | bptr nm j =>
   rcases hσ nm with e | e
   · simp only [er] at h ⊢
     rw [e] at h
     split
     · rename_i l hb
       rw [hb] at h
       simp only at h
       cases h with
       | cptr _ b o j ys hS hc hr =>
        refine .cptr _ b o j ys hS (fun i v hv => ?_) (fun i v hv => ?_)
        · have hv : (l.map (er σ n))[i]? = some v := hv
          rw [List.getElem?_map] at hv
          cases hu : l[i]? with
          | none => rw [hu] at hv; cases hv
          | some u => exact hc i (er σ' n u) (show (l.map (er σ' n))[i]? = _ by rw [List.getElem?_map, hu]; rfl)
        · have hv : (l.map (er σ n))[i]? = some v := hv
          rw [List.getElem?_map] at hv
          cases hu : l[i]? with
          | none => rw [hu] at hv; cases hv
          | some u =>
           rw [hu] at hv
           cases hv
           exact ih (hr i (er σ' n u) (show (l.map (er σ' n))[i]? = _ by rw [List.getElem?_map, hu]; rfl))
     · exact .any x
     · exact .any x
     · rename_i u hna hnt hng hb
       rw [hb] at h
       have hu : ∀ l, u ≠ .agg l := fun l hl => hna l hl
       have hg : ∀ b l, u ≠ .tag b l := fun b l hl => hng b l hl
       have h : RepP w S (.cptr .p (er σ' n u) j) x := by
        cases u with
        | agg l => exact absurd rfl (hu l)
        | tup l => exact absurd rfl (hnt l)
        | tag b l => exact absurd rfl (hg b l)
        | _ => exact h
       cases h with
       | cptr _ b o j ys hS hc hr =>
        have c1 := er_cells (σ := σ) (n := n) hu hg
        have c2 := er_cells (σ := σ') (n := n) hu hg
        refine .cptr _ b o j ys hS (fun i v hv => ?_) (fun i v hv => ?_)
        · rw [c1] at hv
          rw [c2] at hc
          cases i with
          | zero => exact hc 0 _ rfl
          | succ i => simp at hv
        · rw [c1] at hv
          rw [c2] at hr
          cases i with
          | zero =>
           simp only [List.getElem?_cons_zero, Option.some.injEq] at hv
           subst hv
           exact ih (hr 0 _ rfl)
          | succ i => simp at hv
     · exact .any x
   · simp only [er, e]
     exact .any x
  | msl nm gen i len =>
   rcases hσ nm with e | e
   · simp only [er] at h ⊢
     rw [e] at h
     exact h
   · simp only [er, e]
     exact .any x
  | ptr nm gen i j =>
   rcases hσ nm with e | e
   · simp only [er] at h ⊢
     rw [e] at h
     exact h
   · simp only [er, e]
     exact .any x
  | mp nm =>
   rcases hσ nm with e | e
   · simp only [er] at h ⊢
     rw [e] at h
     exact h
   · simp only [er, e]
     exact .any x
  | ifv t v =>
   simp only [er] at h ⊢
   cases h with
   | ifv _ _ y h => exact .ifv _ _ _ (ih h)
  | _ => exact h
theorem mapOf_fresh {nm : Nat} {b : Blk} (hu : σ nm = .unused) {v : V} {m : IntKind × List Int × List V} (h : mapOf σ v = some m) : mapOf (ups σ nm b) v = some m := by
 cases v <;> simp only [mapOf] at h ⊢ <;> first | exact h | (cases h; done) | skip
 rename_i q
 unfold ups
 cases hb : Nat.beq q nm with
 | false => exact h
 | true =>
  have := Nat.eq_of_beq_eq_true hb
  subst this
  rw [hu] at h
  cases h
theorem Fn_weak {σ σ' : Store} (hσ : ∀ m, σ' m = σ m ∨ σ m = .unused) {f n : Nat} {l : List V} {r : V} (h : Fn P f (l.map (er σ n)) r) : Fn P f (l.map (er σ' n)) r :=
 ⟨h.1, fun w S xs hS hgl hx => h.2 w S xs hS hgl ⟨by simpa using hx.1, er_weakL (er_weak hσ n) hx.2⟩⟩
theorem R_fresh {o : AOp} (he : o.isR = true) (h : AWop P H ρ σ g o K) : ∃ v, K v σ g ∧ ∀ (nm : Nat) (b : Blk), σ nm = .unused → ∀ (K' : V → Store → G → Prop), K' v (ups σ nm b) g → AWop P H ρ (ups σ nm b) g o K' := by
 have same : ∀ {nm : Nat} {b : Blk}, σ nm = .unused → ∀ {m : Nat} {c : Blk}, σ m = c → c ≠ .unused → ups σ nm b m = c := by
  intro nm b hu m c hm hc
  unfold ups
  cases hb : Nat.beq m nm with
  | false => exact hm
  | true =>
   have := Nat.eq_of_beq_eq_true hb
   subst this
   rw [hu] at hm
   exact absurd hm.symm hc
 unfold AOp.isR at he
 cases hE : o.isE with
 | true =>
  obtain ⟨v, h1, h2⟩ := E_split hE h
  exact ⟨v, h1, fun nm b hu K' hk => h2 _ g K' hk⟩
 | false =>
  rw [hE] at he
  simp only [Bool.false_or] at he
  split at he
  case h_10 => cases he
  case h_1 agg size a =>
   simp only [AWop] at h ⊢
   split at h
   · split at h
     · rename_i hb
       split at h
       · exact ⟨_, h, fun nm b hu K' hk => by rw [same hu hb (by simp)]; simp only [*]⟩
       · exact h.elim
     · exact h.elim
   · split at h
     · rename_i hb
       obtain ⟨h0, row, hr, h⟩ := h
       split at h
       · exact ⟨_, h, fun nm b hu K' hk => by rw [same hu hb (by simp)]; exact ⟨h0, row, hr, by simp only [*]⟩⟩
       · exact h.elim
     · exact h.elim
   · split at h
     · exact ⟨_, h, fun nm b hu K' hk => hk⟩
     · exact h.elim
   · obtain ⟨m, ll, v, h1, h2, h⟩ := h
     exact ⟨_, h, fun nm b hu K' hk => ⟨m, ll, v, same hu h1 (by simp), h2, hk⟩⟩
   · exact h.elim
  case h_2 off x =>
   simp only [AWop] at h ⊢
   split at h
   · exact ⟨_, h, fun nm b hu K' hk => hk⟩
   · split at h
     · rename_i hb
       exact ⟨_, h, fun nm b hu K' hk => by rw [same hu hb (by simp)]; exact hk⟩
     · exact h.elim
   · split at h
     · rename_i hb
       exact ⟨_, h.2, fun nm b hu K' hk => by rw [same hu hb (by simp)]; exact ⟨h.1, hk⟩⟩
     · exact h.elim
   · exact ⟨_, h, fun nm b hu K' hk => hk⟩
   · exact h.elim
  case h_3 size x i =>
   simp only [AWop] at h ⊢
   split at h
   · obtain ⟨h0, row, hr, hw, h⟩ := h
     exact ⟨_, h, fun nm b hu K' hk => ⟨h0, row, hr, hw, hk⟩⟩
   · split at h
     · rename_i hb
       obtain ⟨h0, h1, h2, h3, h⟩ := h
       exact ⟨_, h, fun nm b hu K' hk => by rw [same hu hb (by simp)]; exact ⟨h0, h1, h2, h3, hk⟩⟩
     · exact h.elim
   · obtain ⟨h0, h1, h⟩ := h
     exact ⟨_, h, fun nm b hu K' hk => ⟨h0, h1, hk⟩⟩
   · exact h.elim
  case h_4 s size x lo hi =>
   simp only [AWop] at h ⊢
   split at h
   · obtain ⟨h0, h1, h2, h⟩ := h
     exact ⟨_, h, fun nm b hu K' hk => ⟨h0, h1, h2, hk⟩⟩
   · obtain ⟨h0, h1, h2, h3, h⟩ := h
     exact ⟨_, h, fun nm b hu K' hk => ⟨h0, h1, h2, h3, hk⟩⟩
   · obtain ⟨h0, h1, h⟩ := h
     exact ⟨_, h, fun nm b hu K' hk => ⟨h0, h1, hk⟩⟩
   · obtain ⟨h0, h1, h2, h⟩ := h
     exact ⟨_, h, fun nm b hu K' hk => ⟨h0, h1, h2, hk⟩⟩
   · split at h
     · rename_i hb
       obtain ⟨h0, h1, h2, h3, h⟩ := h
       exact ⟨_, h, fun nm b hu K' hk => by rw [same hu hb (by simp)]; exact ⟨h0, h1, h2, h3, hk⟩⟩
     · exact h.elim
   · split at h
     · rename_i hb
       obtain ⟨h0, h1, h2, h3, h4, h⟩ := h
       exact ⟨_, h, fun nm b hu K' hk => by rw [same hu hb (by simp)]; exact ⟨h0, h1, h2, h3, h4, hk⟩⟩
     · exact h.elim
   · obtain ⟨h0, h1, h2, h⟩ := h
     exact ⟨_, h, fun nm b hu K' hk => ⟨h0, h1, h2, hk⟩⟩
   · exact h.elim
  case h_5 s x =>
   simp only [AWop] at h ⊢
   split at h
   · exact ⟨_, h, fun nm b hu K' hk => hk⟩
   · split at h
     · rename_i hb
       exact ⟨_, h.2, fun nm b hu K' hk => by rw [same hu hb (by simp)]; exact ⟨h.1, hk⟩⟩
     · exact h.elim
   · exact ⟨_, h, fun nm b hu K' hk => hk⟩
   · exact ⟨_, h, fun nm b hu K' hk => hk⟩
   · exact h.elim
  case h_6 x =>
   simp only [AWop] at h ⊢
   split at h
   · split at h
     · rename_i hb
       exact ⟨_, h, fun nm b hu K' hk => by rw [same hu hb (by simp)]; exact hk⟩
     · exact h.elim
   · exact ⟨_, h, fun nm b hu K' hk => hk⟩
   · exact ⟨_, h, fun nm b hu K' hk => hk⟩
   · exact ⟨_, h, fun nm b hu K' hk => hk⟩
   · exact ⟨_, h, fun nm b hu K' hk => hk⟩
   · exact h.elim
  case h_7 f args =>
   simp only [AWop] at h ⊢
   unfold AWcall at h ⊢
   split at h
   · rename_i fid caps e1
     obtain ⟨r, h1, h2, h3⟩ := h
     refine ⟨r, h3, fun nm b hu K' hk => ⟨r, Fn_weak (fun m => ?_) h1, h2, hk⟩⟩
     unfold ups
     cases hb : Nat.beq m nm with
     | false => exact .inl rfl
     | true =>
      have := Nat.eq_of_beq_eq_true hb
      subst this
      exact .inr hu
   · exact absurd ‹Mode.f = Mode.s _› (by intro h; cases h)
   · exact absurd ‹Mode.f = Mode.y› (by intro h; cases h)
   · exact absurd ‹Mode.f = Mode.d› (by intro h; cases h)
   · exact h.elim
  case h_8 ok z x i =>
   simp only [AWop] at h ⊢
   split at h
   · rename_i k ns vs k' n e1 e2
     cases hb : kEq k k' with
     | false => rw [hb] at h; exact h.elim
     | true =>
      rw [hb] at h
      exact ⟨_, h, fun nm b hu K' hk => by first | (rw [mapOf_fresh hu e1, e2]; simp only [hb, cond_true]; exact hk) | (rw [mapOf_fresh hu e1]; simp only [e2, hb, cond_true]; exact hk) | (rw [mapOf_fresh hu e1]; exact hk)⟩
   · exact h.elim
  case h_9 x =>
   simp only [AWop] at h ⊢
   split at h
   · rename_i k ns vs e1
     exact ⟨_, h, fun nm b hu K' hk => by rw [mapOf_fresh hu e1]; exact hk⟩
   · exact h.elim
def AOp.isA : AOp → Bool
 | .newVec _ | .newArr _ | .alloc .. | .box .. | .bslO .. | .mkSl .. | .mkVec .. => true
 | _ => false
theorem A_split {o : AOp} (ha : o.isA = true) (h : AWop P H ρ σ g o K) : ∃ nm b v, σ nm = .unused ∧ K v (ups σ nm b) g ∧ ∀ K' : V → Store → G → Prop, K' v (ups σ nm b) g → AWop P H ρ σ g o K' := by
 cases o <;> try (simp [AOp.isA] at ha; done)
 all_goals simp only [AWop] at h ⊢
 case newVec nm =>
  split at h
  · rename_i hu; exact ⟨nm, _, _, hu, h, fun K' hk => hk⟩
  · exact h.elim
 case newArr nm =>
  split at h
  · rename_i hu; exact ⟨nm, _, _, hu, h, fun K' hk => hk⟩
  · exact h.elim
 case alloc nm z =>
  split at h
  · rename_i hu; exact ⟨nm, _, _, hu, h, fun K' hk => hk⟩
  · exact h.elim
 case box nm size x =>
  split at h
  · rename_i hu
    cases hb : (rowB (ev ρ x) && Nat.beq size (ev ρ x).cells.length) with
    | false => rw [hb] at h; exact h.elim
    | true => rw [hb] at h; exact ⟨nm, _, _, hu, h, fun K' hk => hk⟩
  · exact h.elim
 case bslO nm size xs =>
  split at h
  · rename_i hu; exact ⟨nm, _, _, hu, h.2.2, fun K' hk => ⟨h.1, h.2.1, hk⟩⟩
  · exact h.elim
 case mkSl nm size bytes zero a b =>
  split at h
  · rename_i hu _ _
    obtain ⟨h0, h1, h2, h3, h4, h5, h⟩ := h
    exact ⟨nm, _, _, hu, h, fun K' hk => ⟨h0, h1, h2, h3, h4, h5, hk⟩⟩
  · exact h.elim
 case mkVec nm size bytes a b =>
  split at h
  · rename_i hu _ _
    obtain ⟨h0, h1, h2, h3, h4, h⟩ := h
    exact ⟨nm, _, _, hu, h, fun K' hk => ⟨h0, h1, h2, h3, h4, hk⟩⟩
  · exact h.elim
def AOp.tot : AOp → Bool
 | .mov _ | .mkfn .. => true
 | _ => false
theorem T_split {o : AOp} (ht : o.tot = true) : ∃ v, ∀ (σ : Store) (g : G) (K : V → Store → G → Prop), AWop P H ρ σ g o K ↔ K v σ g := by
 cases o <;> try (simp [AOp.tot] at ht; done)
 case mov x => exact ⟨ev ρ x, fun σ g K => Iff.rfl⟩
 case mkfn f caps => exact ⟨_, fun σ g K => Iff.rfl⟩
theorem AWop_loc {o : AOp} (hl : ∀ x ∈ o.opds, ev ρ x = ev ρ' x) : AWop P H ρ σ g o K ↔ AWop P H ρ' σ g o K := by
 have parts : ∀ (ps : List (Nat × Nat × Opd)) (l : List V), (∀ x ∈ ps.map (fun p => p.2.2), ev ρ x = ev ρ' x) → partsOf ρ l ps = partsOf ρ' l ps := by
  intro ps
  induction ps with
  | nil => intro l _; rfl
  | cons p ps ih =>
   intro l h
   obtain ⟨off, size, x⟩ := p
   simp only [partsOf]
   rw [h x (by simp)]
   split
   · exact ih _ (fun y hy => h y (by simp only [List.map_cons, List.mem_cons]; exact .inr hy))
   · rfl
 have maps : ∀ xs : List Opd, (∀ x ∈ xs, ev ρ x = ev ρ' x) → xs.map (ev ρ) = xs.map (ev ρ') := fun xs h => List.map_congr_left h
 cases o <;> simp only [AOp.opds, List.mem_cons, List.not_mem_nil, or_false, forall_eq_or_imp, forall_eq] at hl <;> simp only [AWop]
 case mov x => rw [hl]
 case pick c a b => rw [hl.1, hl.2.1, hl.2.2]
 case bin op st et x y => rw [hl.1, hl.2]
 case not x => rw [hl]
 case len s x => rw [hl]
 case box nm size x => rw [hl]
 case build z ps => rw [parts ps z hl]
 case bsl size xs => rw [maps xs hl]
 case bslO nm size xs => rw [maps xs hl]
 case load agg size a => rw [hl]
 case store size a x => rw [hl.1, hl.2]
 case faddr off x => rw [hl]
 case field agg size off x => rw [hl]
 case iaddr size x i => rw [hl.1, hl.2]
 case index x i => rw [hl.1, hl.2]
 case idxA len x i => rw [hl.1, hl.2]
 case extract x i => rw [hl]
 case append size bytes et x y => rw [hl.1, hl.2]
 case appR size bytes et x y => rw [hl.1, hl.2]
 case slice s size x lo hi =>
  have e1 : lo.map (ev ρ) = lo.map (ev ρ') := by
   cases lo with
   | none => rfl
   | some y => simp only [Option.map_some]; rw [hl.2 y (by simp)]
  have e2 : hi.map (ev ρ) = hi.map (ev ρ') := by
   cases hi with
   | none => rfl
   | some y => simp only [Option.map_some]; rw [hl.2 y (by simp)]
  rw [hl.1, e1, e2]
 case cut0 x => rw [hl]
 case mkSl nm size bytes zero a b => rw [hl.1, hl.2]
 case mkVec nm size bytes a b => rw [hl.1, hl.2]
 case mkfn f caps => rw [maps caps hl]
 case conv k x => rw [hl]
 case nilck x => rw [hl]
 case isnil neg x => rw [hl]
 case isnili neg x => rw [hl]
 case bslA nm size xs => rw [maps xs hl]
 case clear size bytes z x => rw [hl]
 case max x y => rw [hl.1, hl.2]
 case min x y => rw [hl.1, hl.2]
 case call m f args => rw [hl.1, maps args hl.2]
 case callM m n x args => rw [hl.1, maps args hl.2]
 case boxR et size x => rw [hl]
 case mget ok z x i => rw [hl.1, hl.2]
 case mput x i v => rw [hl.1, hl.2.1, hl.2.2]
 case mdel x i => rw [hl.1, hl.2]
 case mlen x => rw [hl]
 case mkifc t x => rw [hl]
 case tass t x => rw [hl]
def gate (ρ : Env) : Option (Nat × Bool) → Option Bool
 | none => some true
 | some (s, want) => match ρ s with
   | .bool b => some (b == want)
   | .tup [] => some false
   | _ => none
theorem upd_id (ρ : Env) (s : Nat) {v : V} (h : ρ s = v) : upd ρ s v = ρ := by
 funext t
 unfold upd
 cases hb : Nat.beq t s with
 | true => rw [Nat.eq_of_beq_eq_true hb]; simp [h]
 | false => rfl
theorem AWit_gate {dst : Option Nat} {gd : Option (Nat × Bool)} {o : AOp} {K : Env → Store → G → Prop} : AWit P H (.op dst gd o) ρ σ g K ↔
  match gate ρ gd with
  | some true => AWop P H ρ σ g o fun v σ' g' => K (put ρ dst v) σ' g'
  | some false => K (put ρ dst (.tup [])) σ g
  | none => False := by
 cases gd with
 | none => simp only [AWit, gate, force_eq]
 | some p =>
  obtain ⟨s, want⟩ := p
  simp only [AWit, gate, force_eq]
  cases hs : ρ s with
  | bool b =>
   cases b <;> cases want <;> simp only [splitB] <;> simp [upd_id ρ s hs]
  | tup l => cases l <;> simp
  | _ => simp
theorem CT_mono {f : Nat} {args : List V} {pn : List Nat} {K K' : V → Store → G → Prop} (hk : ∀ v σ' g', K v σ' g' → K' v σ' g') (h : CT P H f args pn σ g K) : CT P H f args pn σ g K' := by
 refine ⟨h.1, fun J l h1 h2 h3 w S F θ xs h4 h5 => (h.2 J l h1 h2 h3 w S F θ xs h4 h5).mono fun e w' he => ?_⟩
 obtain ⟨r, x', σ', g', S', F', θ', h6, h7, h8⟩ := he
 exact ⟨r, x', σ', g', S', F', θ', h6, hk _ _ _ h7, h8⟩
theorem AWcall_mono (hM : MonoH H) {m : Mode} {f : V} {args : List V} {K K' : V → Store → G → Prop} (hk : ∀ v σ' g', K v σ' g' → K' v σ' g') (h : AWcall P H σ g m f args K) : AWcall P H σ g m f args K' := by
 unfold AWcall at h ⊢
 split at h
 · obtain ⟨r, h1, h2, h3⟩ := h
   exact ⟨r, h1, h2, hk _ _ _ h3⟩
 · exact ⟨h.1, h.2.1, CT_mono (fun _ _ _ h => hk _ _ _ h) h.2.2⟩
 · exact ⟨h.1, hM _ _ _ _ (fun _ _ h => hk _ _ _ h) h.2⟩
 · obtain ⟨pn, h1, h2, h3⟩ := h
   exact ⟨pn, h1, h2, CT_mono (fun _ _ _ h => hk _ _ _ h) h3⟩
 · exact h.elim
theorem AWop_mono (hM : MonoH H) {o : AOp} {K K' : V → Store → G → Prop} (hk : ∀ v σ' g', K v σ' g' → K' v σ' g') (h : AWop P H ρ σ g o K) : AWop P H ρ σ g o K' := by
 by_cases hR : o.isR = true
 · obtain ⟨v, h1, h2⟩ := R_split hR h
   exact h2 K' (hk _ _ _ h1)
 · cases o <;> try (exact absurd rfl hR)
   all_goals simp only [AWop] at h ⊢
   case isnili neg x =>
    split at h
    · exact hk _ _ _ h
    · exact h.elim
   case isnil neg x =>
    split at h
    · exact fun b hb => hk _ _ _ (h b hb)
    · exact h.elim
   case bslA nm size xs =>
    split at h
    · exact ⟨h.1, h.2.1, hk _ _ _ h.2.2⟩
    · exact h.elim
   case clear size bytes z x =>
    split at h
    · split at h
      · exact ⟨h.1, h.2.1, h.2.2.1, hk _ _ _ h.2.2.2⟩
      · exact h.elim
    · exact h.elim
   case newVec nm =>
    split at h
    · exact hk _ _ _ h
    · exact h.elim
   case newArr nm =>
    split at h
    · exact hk _ _ _ h
    · exact h.elim
   case alloc nm z =>
    split at h
    · exact hk _ _ _ h
    · exact h.elim
   case box nm size x =>
    split at h
    · cases hb : (rowB (ev ρ x) && Nat.beq size (ev ρ x).cells.length) with
      | false => rw [hb] at h; exact h.elim
      | true => rw [hb] at h; exact hk _ _ _ h
    · exact h.elim
   case bslO nm size xs =>
    split at h
    · exact ⟨h.1, h.2.1, hk _ _ _ h.2.2⟩
    · exact h.elim
   case store size a x =>
    split at h
    · split at h
      · split at h
        · exact hk _ _ _ h
        · exact h.elim
      · exact h.elim
    · split at h
      · obtain ⟨h0, h1, row, hr, h⟩ := h
        refine ⟨h0, h1, row, hr, ?_⟩
        split at h
        · exact hk _ _ _ h
        · exact h.elim
      · exact h.elim
    · obtain ⟨nm, ll, ll', h1, h2, h⟩ := h
      exact ⟨nm, ll, ll', h1, h2, hk _ _ _ h⟩
    · exact h.elim
   case append size bytes et x y =>
    split at h
    · split at h
      · obtain ⟨h0, h1, h2, h3, h4, h⟩ := h
        exact ⟨h0, h1, h2, h3, h4, hk _ _ _ h⟩
      · exact h.elim
    · split at h
      · obtain ⟨h0, h1, h2, h3, h4, h⟩ := h
        exact ⟨h0, h1, h2, h3, h4, hk _ _ _ h⟩
      · exact h.elim
    · exact h.elim
   case appR size bytes et x y =>
    split at h
    · obtain ⟨h0, h1, h2, h3, nm, h4, h5, h⟩ := h
      exact ⟨h0, h1, h2, h3, nm, h4, h5, fun b c hc => hk _ _ _ (h b c hc)⟩
    · obtain ⟨h0, h1, h2, h3, nm, ll, h4, h5, h6, h7⟩ := h
      refine ⟨h0, h1, h2, h3, nm, ll, h4, h5, fun hc => hk _ _ _ (h6 hc), fun hc => ?_⟩
      obtain ⟨nm', h8, h9, h⟩ := h7 hc
      exact ⟨nm', h8, h9, fun b c hc => hk _ _ _ (h b c hc)⟩
    · exact h.elim
   case mkSl nm size bytes zero a b =>
    split at h
    · obtain ⟨h0, h1, h2, h3, h4, h5, h⟩ := h
      exact ⟨h0, h1, h2, h3, h4, h5, hk _ _ _ h⟩
    · exact h.elim
   case mkVec nm size bytes a b =>
    split at h
    · obtain ⟨h0, h1, h2, h3, h4, h⟩ := h
      exact ⟨h0, h1, h2, h3, h4, hk _ _ _ h⟩
    · exact h.elim
   case call m f args => exact AWcall_mono hM hk h
   case callM m n x args =>
    split at h
    · split at h
      · exact AWcall_mono hM hk h
      · split at h
        · obtain ⟨nm, ll, u, h1, h2, h⟩ := h
          exact ⟨nm, ll, u, h1, h2, AWcall_mono hM hk h⟩
        · exact h.elim
      · exact h.elim
    · exact h.elim
   case boxR et size x =>
    cases hb : (rowB (ev ρ x) && Nat.beq size (ev ρ x).cells.length) with
    | false => rw [hb] at h; exact h.elim
    | true =>
     rw [hb] at h
     obtain ⟨nm, h1, h2, h3⟩ := h
     exact ⟨nm, h1, h2, fun b => hk _ _ _ (h3 b)⟩
   case mkMap nm k =>
    split at h
    · exact hk _ _ _ h
    · exact h.elim
   case mput x i v =>
    split at h
    · split at h
      · rename_i k ns vs _
        cases hb : (kEq k _ && pureB (ev ρ v)) with
        | false => rw [hb] at h; exact h.elim
        | true => rw [hb] at h; exact hk _ _ _ h
      · exact h.elim
    · exact h.elim
   case mdel x i =>
    split at h
    · split at h
      · rename_i k ns vs _
        cases hb : kEq k _ with
        | false => rw [hb] at h; exact h.elim
        | true => rw [hb] at h; exact hk _ _ _ h
      · exact h.elim
    · exact h.elim
theorem AWit_mono (hM : MonoH H) {it : GItem} {K K' : Env → Store → G → Prop} (hk : ∀ ρ' σ' g', K ρ' σ' g' → K' ρ' σ' g') (h : AWit P H it ρ σ g K) : AWit P H it ρ σ g K' := by
 cases it with
 | frz t =>
  simp only [AWit] at h ⊢
  split at h
  · split at h
    · exact hk _ _ _ h
    · exact h.elim
  · split at h
    · exact ⟨h.1, hk _ _ _ h.2⟩
    · exact h.elim
  · split at h
    · exact ⟨h.1, hk _ _ _ h.2⟩
    · exact h.elim
  · exact hk _ _ _ h
  · obtain ⟨nm, ll, rows, m, h1, h2, h3, h4, h5, h⟩ := h
    exact ⟨nm, ll, rows, m, h1, h2, h3, h4, h5, hk _ _ _ h⟩
  · split at h
    · exact hk _ _ _ h
    · exact h.elim
  · exact h.elim
 | op dst gd o =>
  rw [AWit_gate] at h ⊢
  split at h
  · exact AWop_mono hM (fun _ _ _ h => hk _ _ _ h) h
  · exact hk _ _ _ h
  · exact h.elim
theorem AWits_mono (hM : MonoH H) {l : List GItem} : ∀ {ρ : Env} {σ : Store} {g : G} {K K' : Env → Store → G → Prop} (_ : ∀ ρ' σ' g', K ρ' σ' g' → K' ρ' σ' g') (_ : AWits P H l ρ σ g K), AWits P H l ρ σ g K' := by
 induction l with
 | nil => intro ρ σ g K K' hk h; exact hk _ _ _ h
 | cons it r ih => intro ρ σ g K K' hk h; exact AWit_mono hM (fun ρ' σ' g' h => ih hk h) h
def AOp.isN : AOp → Bool
 | .call .f _ _ => true
 | .call .. => false
 | .isnil .. => false
 | .isnili .. => false
 | .bslA .. => false
 | .clear .. => false
 | .appR .. => false
 | .callM .. => false
 | .mkMap .. => false
 | .boxR .. => false
 | .mput .. => false
 | .mdel .. => false
 | _ => true
theorem N_split {o : AOp} (hn : o.isN = true) {K : V → Store → G → Prop} (h : AWop P H ρ σ g o K) : ∃ v σ' g', K v σ' g' ∧ ∀ K' : V → Store → G → Prop, K' v σ' g' → AWop P H ρ σ g o K' := by
 by_cases hR : o.isR = true
 · obtain ⟨v, h1, h2⟩ := R_split hR h
   exact ⟨v, σ, g, h1, h2⟩
 · cases o <;> try (exact absurd rfl hR)
   all_goals simp only [AWop] at h ⊢
   case isnil neg x => cases hn
   case isnili neg x => cases hn
   case bslA nm size xs => cases hn
   case clear size bytes z x => cases hn
   case appR size bytes et x y => cases hn
   case callM m n x args => cases hn
   case mkMap nm k => cases hn
   case boxR et size x => cases hn
   case mput x i v => cases hn
   case mdel x i => cases hn
   case newVec nm =>
    split at h
    · exact ⟨_, _, _, h, fun K' hk => hk⟩
    · exact h.elim
   case newArr nm =>
    split at h
    · exact ⟨_, _, _, h, fun K' hk => hk⟩
    · exact h.elim
   case alloc nm z =>
    split at h
    · exact ⟨_, _, _, h, fun K' hk => hk⟩
    · exact h.elim
   case box nm size x =>
    split at h
    · cases hb : (rowB (ev ρ x) && Nat.beq size (ev ρ x).cells.length) with
      | false => rw [hb] at h; exact h.elim
      | true => rw [hb] at h; exact ⟨_, _, _, h, fun K' hk => hk⟩
    · exact h.elim
   case bslO nm size xs =>
    split at h
    · exact ⟨_, _, _, h.2.2, fun K' hk => ⟨h.1, h.2.1, hk⟩⟩
    · exact h.elim
   case store size a x =>
    split at h
    · split at h
      · split at h
        · exact ⟨_, _, _, h, fun K' hk => hk⟩
        · exact h.elim
      · exact h.elim
    · split at h
      · obtain ⟨h0, h1, row, hr, h⟩ := h
        split at h
        · rename_i e; subst h0; exact ⟨_, _, _, h, fun K' hk => ⟨rfl, h1, row, hr, by rw [e]; exact hk⟩⟩
        · exact h.elim
      · exact h.elim
    · obtain ⟨nm, ll, ll', h1, h2, h⟩ := h
      exact ⟨_, _, _, h, fun K' hk => ⟨nm, ll, ll', h1, h2, hk⟩⟩
    · exact h.elim
   case append size bytes et x y =>
    split at h
    · split at h
      · obtain ⟨h0, h1, h2, h3, h4, h⟩ := h
        exact ⟨_, _, _, h, fun K' hk => ⟨h0, h1, h2, h3, h4, hk⟩⟩
      · exact h.elim
    · split at h
      · obtain ⟨h0, h1, h2, h3, h4, h⟩ := h
        exact ⟨_, _, _, h, fun K' hk => ⟨h0, h1, h2, h3, h4, hk⟩⟩
      · exact h.elim
    · exact h.elim
   case mkSl nm size bytes zero a b =>
    split at h
    · obtain ⟨h0, h1, h2, h3, h4, h5, h⟩ := h
      exact ⟨_, _, _, h, fun K' hk => ⟨h0, h1, h2, h3, h4, h5, hk⟩⟩
    · exact h.elim
   case mkVec nm size bytes a b =>
    split at h
    · obtain ⟨h0, h1, h2, h3, h4, h⟩ := h
      exact ⟨_, _, _, h, fun K' hk => ⟨h0, h1, h2, h3, h4, hk⟩⟩
    · exact h.elim
   case call m f args =>
    cases m with
    | f => exact absurd rfl hR
    | s pn => cases hn
    | y => cases hn
    | d => cases hn
def slotOf : Opd → List Nat
 | .t n => [n]
 | .c _ => []
def slots : List Opd → List Nat
 | [] => []
 | x :: r => slotOf x ++ slots r
def GItem.reads : GItem → List Nat
 | .op _ gd o => (match gd with
   | some (s, _) => [s]
   | none => []) ++ slots o.opds
 | .frz t => [t]
def GItem.dst : GItem → Option Nat
 | .op dst _ _ => dst
 | .frz t => some t
def notIn (d : Option Nat) (l : List Nat) : Bool := match d with
 | none => true
 | some d => !memB d l
def apart : Option Nat → Option Nat → Bool
 | some d, some d' => !Nat.beq d d'
 | _, _ => true
def indep (x y : GItem) : Bool := match x, y with
 | .op dx gx ox, .op dy gy oy => apart dx dy && notIn dx (GItem.reads (.op dy gy oy)) && notIn dy (GItem.reads (.op dx gx ox)) && ((ox.isN && ((ox.isR && oy.isR) || ox.isE || oy.isE || (ox.isR && oy.isA))) || (oy.tot && gy.isNone))
 | _, _ => false
theorem put_swap {dx dy : Option Nat} (h : apart dx dy = true) (v u : V) : put (put ρ dx v) dy u = put (put ρ dy u) dx v := by
 cases dx with
 | none => cases dy <;> rfl
 | some a =>
  cases dy with
  | none => rfl
  | some b =>
   simp only [apart, Bool.not_eq_true'] at h
   have hne : a ≠ b := fun e => by rw [e] at h; simp at h
   funext t
   simp only [put, upd]
   cases h1 : Nat.beq t a with
   | false => simp
   | true =>
    cases h2 : Nat.beq t b with
    | false => simp
    | true => exact absurd ((Nat.eq_of_beq_eq_true h1).symm.trans (Nat.eq_of_beq_eq_true h2)) hne
theorem put_other {d : Option Nat} {l : List Nat} (h : notIn d l = true) (v : V) {t : Nat} (ht : t ∈ l) : put ρ d v t = ρ t := by
 cases d with
 | none => rfl
 | some a =>
  simp only [put, upd]
  cases h1 : Nat.beq t a with
  | false => rfl
  | true =>
   have e := Nat.eq_of_beq_eq_true h1
   subst e
   simp only [notIn, Bool.not_eq_true'] at h
   have : ∀ l : List Nat, t ∈ l → memB t l = true := by
    intro l
    induction l with
    | nil => intro h; cases h
    | cons b r ih =>
     intro h
     simp only [memB]
     rcases List.mem_cons.1 h with rfl | h
     · simp
     · rw [ih h]; cases Nat.beq t b <;> rfl
   rw [this l ht] at h
   cases h
theorem slots_mem {l : List Opd} {n : Nat} (h : Opd.t n ∈ l) : n ∈ slots l := by
 induction l with
 | nil => cases h
 | cons x r ih =>
  simp only [slots, List.mem_append]
  rcases List.mem_cons.1 h with rfl | h
  · exact .inl (by simp [slotOf])
  · exact .inr (ih h)
theorem ev_other {d : Option Nat} {dst : Option Nat} {gd : Option (Nat × Bool)} {o : AOp} (h : notIn d (GItem.reads (.op dst gd o)) = true) (v : V) : ∀ x ∈ o.opds, ev ρ x = ev (put ρ d v) x := by
 intro x hx
 cases x with
 | c u => rfl
 | t n => exact (put_other h v (List.mem_append.2 (.inr (slots_mem hx)))).symm
theorem gate_other {d : Option Nat} {dst : Option Nat} {gd : Option (Nat × Bool)} {o : AOp} (h : notIn d (GItem.reads (.op dst gd o)) = true) (v : V) : gate (put ρ d v) gd = gate ρ gd := by
 cases gd with
 | none => rfl
 | some p =>
  obtain ⟨s, want⟩ := p
  simp only [gate]
  rw [put_other h v (List.mem_append.2 (.inl (List.mem_singleton.2 rfl)))]
theorem AWit_swap (hM : MonoH H) {x y : GItem} (hi : indep x y = true) {K : Env → Store → G → Prop} (h : AWit P H x ρ σ g fun ρ1 σ1 g1 => AWit P H y ρ1 σ1 g1 K) :
  AWit P H y ρ σ g fun ρ1 σ1 g1 => AWit P H x ρ1 σ1 g1 K := by
 unfold indep at hi
 split at hi
 case h_2 => cases hi
 rename_i dx gx ox dy gy oy
 simp only [Bool.and_eq_true, Bool.or_eq_true] at hi
 obtain ⟨⟨⟨ha, hxy⟩, hyx⟩, hcl⟩ := hi
 rw [AWit_gate] at h ⊢
 split at h
 · rename_i hgx
   have h' : AWop P H ρ σ g ox fun v σ1 g1 => (match gate ρ gy with
     | some true => AWop P H ρ σ1 g1 oy fun u σ2 g2 => K (put (put ρ dx v) dy u) σ2 g2
     | some false => K (put (put ρ dx v) dy (.tup [])) σ1 g1
     | none => False) := by
    refine AWop_mono hM (fun v σ1 g1 h => ?_) h
    rw [AWit_gate, gate_other hxy] at h
    split at h
    · rename_i hgy
      try rw [hgy]
      exact (AWop_loc (ev_other hxy v)).2 h
    · rename_i hgy; try rw [hgy]
      exact h
    · exact h.elim
   have back : ∀ u σ2 g2, AWop P H ρ σ2 g2 ox (fun v σ3 g3 => K (put (put ρ dx v) dy u) σ3 g3) → AWit P H (.op dx gx ox) (put ρ dy u) σ2 g2 K := by
    intro u σ2 g2 hx
    rw [AWit_gate, gate_other hyx, hgx]
    refine (AWop_loc (ev_other hyx u)).1 (AWop_mono hM (fun v σ3 g3 h => ?_) hx)
    rw [← put_swap ha]
    exact h
   rcases hcl with ⟨hN, hcls⟩ | ⟨hT, hgn⟩
   rotate_left
   · have hgy : gy = none := by
      cases gy with
      | none => rfl
      | some _ => cases hgn
     subst hgy
     obtain ⟨u, hu⟩ := T_split (P := P) (H := H) (ρ := ρ) hT
     refine (hu _ _ _).2 (back u σ g (AWop_mono hM (fun v σ3 g3 h => ?_) h'))
     exact (hu _ _ _).1 h
   cases hgy : gate ρ gy with
   | none =>
    rw [hgy] at h'
    obtain ⟨v, σ1, g1, h1, _⟩ := N_split hN h'
    exact h1
   | some t =>
    rw [hgy] at h'
    cases t with
    | false =>
     obtain ⟨v, σ1, g1, h1, h2⟩ := N_split hN h'
     exact back _ _ _ (h2 _ h1)
    | true =>
     rcases hcls with ((⟨hcx, hcy⟩ | hcx) | hcy) | ⟨hcx, hcy⟩
     · obtain ⟨v, h1, h2⟩ := R_split hcx h'
       obtain ⟨u, h3, h4⟩ := R_split hcy h1
       exact h4 _ (back _ _ _ (h2 _ h3))
     · obtain ⟨v, h1, h2⟩ := E_split hcx h'
       exact AWop_mono hM (fun u σ2 g2 h3 => back _ _ _ (h2 _ _ _ h3)) h1
     · obtain ⟨v, σ1, g1, h1, h2⟩ := N_split hN h'
       obtain ⟨u, h3, h4⟩ := E_split hcy h1
       exact h4 _ _ _ (back _ _ _ (h2 _ h3))
     · obtain ⟨v, h1, h2⟩ := R_fresh hcx h'
       obtain ⟨nm, b, u, hu, h3, h4⟩ := A_split hcy h1
       exact h4 _ (back _ _ _ (h2 nm b hu _ h3))
 · rename_i hgx
   rw [AWit_gate, gate_other hxy] at h
   have back : ∀ u σ2 g2, K (put (put ρ dx (.tup [])) dy u) σ2 g2 → AWit P H (.op dx gx ox) (put ρ dy u) σ2 g2 K := by
    intro u σ2 g2 h
    rw [AWit_gate, gate_other hyx, hgx, ← put_swap ha]
    exact h
   split at h
   · rename_i hgy
     try rw [hgy]
     have h := (AWop_loc (ev_other hxy (.tup []))).2 h
     exact AWop_mono hM (fun u σ1 g1 h => back _ _ _ h) h
   · rename_i hgy
     try rw [hgy]
     exact back _ _ _ h
   · exact h.elim
 · exact h.elim
end
def Before (π : List Nat) (i j : Nat) : Prop := ∃ p q, π = p ++ j :: q ∧ i ∈ p
theorem split_unique {α : Type} {p q p' q' : List α} {x : α} (hn : (p ++ x :: q).Nodup) (h : p ++ x :: q = p' ++ x :: q') : p = p' ∧ q = q' := by
 induction p generalizing p' with
 | nil =>
  cases p' with
  | nil => simp at h; exact ⟨rfl, h⟩
  | cons y p' =>
   simp at h
   obtain ⟨rfl, rfl⟩ := h
   simp at hn
 | cons y p ih =>
  cases p' with
  | nil =>
   simp at h
   obtain ⟨rfl, rfl⟩ := h
   simp at hn
  | cons z p' =>
   simp at h
   obtain ⟨rfl, h⟩ := h
   simp only [List.cons_append, List.nodup_cons] at hn
   obtain ⟨h1, h2⟩ := ih hn.2 h
   exact ⟨by rw [h1], h2⟩
theorem Before.trans {π : List Nat} (hn : π.Nodup) {i j k : Nat} (h1 : Before π i j) (h2 : Before π j k) : Before π i k := by
 obtain ⟨p, q, e1, hi⟩ := h1
 obtain ⟨p', q', e2, hj⟩ := h2
 obtain ⟨a, b, rfl⟩ := List.append_of_mem hj
 subst e2
 have e3 : p ++ j :: q = a ++ j :: (b ++ k :: q') := by rw [← e1]; simp
 have := split_unique (by rw [← e1]; exact hn) e3
 exact ⟨a ++ j :: b, q', rfl, by rw [← this.1]; simp [hi]⟩
theorem Before.irrefl {π : List Nat} (hn : π.Nodup) {i j : Nat} (h1 : Before π i j) (h2 : Before π j i) : False := by
 obtain ⟨p, q, e, hi⟩ := h1.trans hn h2
 subst e
 rw [List.nodup_append] at hn
 exact hn.2.2 _ hi _ (by simp) rfl
theorem before_total {π : List Nat} {i j : Nat} (hi : i ∈ π) (hj : j ∈ π) (hne : i ≠ j) : Before π i j ∨ Before π j i := by
 obtain ⟨p, q, rfl⟩ := List.append_of_mem hj
 rcases List.mem_append.1 hi with h | h
 · exact .inl ⟨p, q, rfl, h⟩
 · rcases List.mem_cons.1 h with h | h
   · exact absurd h hne
   · obtain ⟨a, b, rfl⟩ := List.append_of_mem h
     exact .inr ⟨p ++ j :: a, b, by simp, by simp⟩
def natTop (ops : Array Oper) : Bool := (List.range ops.size).all fun i => match ops[i]? with
 | some o => o.after.toList.all fun e => !Region.binds .any e || Nat.blt e.on i
 | none => false
theorem go_spec (ops : Array Oper) (ht : natTop ops = true) : ∀ (fuel t : Nat) (listed : Array Bool) (D U : List Nat), listed.size = ops.size → (∀ i, i < ops.size → listed.getD i true = decide (i ∈ D)) → (D ++ U).Perm (List.range ops.size) → U.length = fuel →
  ∃ π, Region.linearise.go .any ops fuel t listed [] = π ∧ (D ++ π).Perm (List.range ops.size) ∧
    ∀ p j q, π = p ++ j :: q → ∀ o, ops[j]? = some o → ∀ e ∈ o.after.toList, Region.binds .any e = true → e.on ∈ D ++ p := by
 intro fuel
 induction fuel with
 | zero =>
  intro t listed D U hsz hl hp hU
  have : U = [] := List.eq_nil_of_length_eq_zero hU
  subst this
  exact ⟨[], rfl, hp, fun p j q h => by simp at h⟩
 | succ fuel ih =>
  intro t listed D U hsz hl hp hU
  have hlt : ∀ i, i ∈ D ∨ i ∈ U → i < ops.size := by
   intro i hi
   have := hp.mem_iff.1 (List.mem_append.2 hi)
   exact List.mem_range.1 this
  have hall : ∀ i, i < ops.size → i ∈ D ∨ i ∈ U := fun i hi => List.mem_append.1 (hp.mem_iff.2 (List.mem_range.2 hi))
  have hnd : (D ++ U).Nodup := hp.nodup_iff.2 List.nodup_range
  have htop : ∀ i o, ops[i]? = some o → ∀ e ∈ o.after.toList, Region.binds .any e = true → e.on < i := by
   intro i o ho e he hb
   have hi := (Array.getElem?_eq_some_iff.1 ho).1
   have := (List.all_eq_true.1 ht) i (List.mem_range.2 hi)
   rw [ho] at this
   have := (List.all_eq_true.1 this) e he
   rw [hb] at this
   simp only [Bool.not_true, Bool.false_or] at this
   simpa [Nat.blt_eq] using this
  have hgetD : ∀ i d, i < ops.size → listed.getD i d = decide (i ∈ D) := by
   intro i d hi
   rw [← hl i hi]
   simp [Array.getD, hsz, hi]
  have hready : ∀ i, i ∈ Region.ready .any ops listed ↔ i < ops.size ∧ i ∉ D ∧ ∀ o, ops[i]? = some o → ∀ e ∈ o.after.toList, Region.binds .any e = true → e.on ∈ D := by
   intro i
   unfold Region.ready
   rw [List.mem_filter, List.mem_range]
   constructor
   · rintro ⟨hi, hx⟩
     simp only [Bool.and_eq_true, Bool.not_eq_true'] at hx
     rw [hgetD i true hi] at hx
     refine ⟨hi, by simpa using hx.1, fun o ho e he hb => ?_⟩
     have h2 := hx.2
     rw [ho] at h2
     simp only [Option.map_some, Option.getD_some] at h2
     rw [← Array.all_toList] at h2
     have h3 := (List.all_eq_true.1 h2) e he
     rw [hb] at h3
     simp only [Bool.not_true, Bool.false_or] at h3
     have h4 : e.on < ops.size := Nat.lt_trans (htop i o ho e he hb) hi
     rw [hgetD _ false h4] at h3
     simpa using h3
   · rintro ⟨hi, hD, hx⟩
     refine ⟨hi, ?_⟩
     simp only [Bool.and_eq_true, Bool.not_eq_true']
     refine ⟨by rw [hgetD i true hi]; simpa using hD, ?_⟩
     have ho : ops[i]? = some ops[i] := Array.getElem?_eq_getElem hi
     rw [ho]
     simp only [Option.map_some, Option.getD_some]
     rw [← Array.all_toList]
     refine List.all_eq_true.2 fun e he => ?_
     cases hb : Region.binds .any e with
     | false => rfl
     | true =>
      simp only [Bool.not_true, Bool.false_or]
      have h4 : e.on < ops.size := Nat.lt_trans (htop i _ ho e he hb) hi
      rw [hgetD _ false h4]
      simpa using hx _ ho e he hb
  have hne : Region.ready .any ops listed ≠ [] := by
   intro hnil
   have : ∀ i, i ∉ U := by
    intro i
    induction i using Nat.strongRecOn with
    | _ i ihi =>
     intro hiU
     have hi := hlt i (.inr hiU)
     have hiD : i ∉ D := fun hD => by
      rw [List.nodup_append] at hnd
      exact hnd.2.2 i hD i hiU rfl
     have : i ∈ Region.ready .any ops listed := (hready i).2 ⟨hi, hiD, fun o ho e he hb => by
      have h5 := htop i o ho e he hb
      rcases hall e.on (Nat.lt_trans h5 hi) with h6 | h6
      · exact h6
      · exact absurd h6 (ihi _ h5)⟩
     rw [hnil] at this
     cases this
   cases U with
   | nil => simp at hU
   | cons u U => exact this u (by simp)
  simp only [Region.linearise.go]
  change ∃ π, (match (Region.ready .any ops listed)[t % (Region.ready .any ops listed).length]? with
   | some i => Region.linearise.go .any ops fuel (t / (Region.ready .any ops listed).length) (listed.setIfInBounds i true) [i]
   | none => [].reverse) = π ∧ _
  have hpos : 0 < (Region.ready .any ops listed).length := List.length_pos_iff.2 hne
  have hidx : t % (Region.ready .any ops listed).length < (Region.ready .any ops listed).length := Nat.mod_lt _ hpos
  rw [List.getElem?_eq_getElem hidx]
  simp only []
  generalize hi : (Region.ready .any ops listed)[t % (Region.ready .any ops listed).length] = i
  have hir := (hready i).1 (by rw [← hi]; exact List.getElem_mem _)
  obtain ⟨hilt, hiD, hie⟩ := hir
  have hiU : i ∈ U := (hall i hilt).resolve_left hiD
  obtain ⟨u1, u2, rfl⟩ := List.append_of_mem hiU
  have hperm : (D ++ [i] ++ (u1 ++ u2)).Perm (List.range ops.size) := by
   refine List.Perm.trans ?_ hp
   rw [List.append_assoc]
   refine List.Perm.append_left D ?_
   simp only [List.singleton_append]
   exact List.perm_middle.symm
  obtain ⟨π, h1, h2, h3⟩ := ih (t / (Region.ready .any ops listed).length) (listed.setIfInBounds i true) (D ++ [i]) (u1 ++ u2) (by simpa using hsz) (fun j hj => by
   have hj' := hgetD j true hj
   by_cases e : j = i
   · subst e; simp [Array.getD, hsz, hj]
   · have hj2 : j < listed.size := by omega
     simp only [Array.getD, Array.size_setIfInBounds, hj2, dite_true, Array.getInternal_eq_getElem] at hj' ⊢
     rw [Array.getElem_setIfInBounds_ne (by simpa using hj2) (fun h => e h.symm), hj']
     simp [e]) hperm (by simp at hU ⊢; omega)
  refine ⟨i :: π, ?_, ?_, ?_⟩
  · rw [linearise_go_acc, h1]; rfl
  · have : D ++ i :: π = D ++ [i] ++ π := by simp
    rw [this]; exact h2
  · intro p j q hp' o ho e he hb
    cases p with
    | nil =>
     simp at hp'
     obtain ⟨rfl, rfl⟩ := hp'
     simpa using hie o ho e he hb
    | cons x p =>
     simp at hp'
     obtain ⟨rfl, hp'⟩ := hp'
     have := h3 p j q hp' o ho e he hb
     simpa using this
def aftOf (ops : Array Oper) (j : Nat) : List Nat := match ops[j]? with
 | some o => (o.after.toList.filter fun e => Region.binds .any e).map (·.on)
 | none => []
theorem lin_spec (ops : Array Oper) (ht : natTop ops = true) (t : Nat) : (Region.linearise .any ops t).Perm (List.range ops.size) ∧ ∀ j, ∀ i ∈ aftOf ops j, j < ops.size → Before (Region.linearise .any ops t) i j := by
 obtain ⟨π, h1, h2, h3⟩ := go_spec ops ht ops.size t (Array.replicate ops.size false) [] (List.range ops.size) (by simp) (fun i hi => by simp [Array.getD, hi]) (by simp) (by simp)
 have e : Region.linearise .any ops t = π := h1
 rw [e]
 refine ⟨by simpa using h2, fun j i hi hj => ?_⟩
 have hm : j ∈ π := (by simpa using h2 : π.Perm _).mem_iff.2 (List.mem_range.2 hj)
 obtain ⟨p, q, rfl⟩ := List.append_of_mem hm
 refine ⟨p, q, rfl, ?_⟩
 unfold aftOf at hi
 split at hi
 · rename_i o ho
   obtain ⟨e, he, rfl⟩ := List.mem_map.1 hi
   rw [List.mem_filter] at he
   simpa using h3 p j q rfl o ho e he.1 he.2
 · cases hi
def indepAt (l : List GItem) (x y : Nat) : Bool := match l[x]?, l[y]? with
 | some a, some b => indep a b
 | _, _ => false
def lookM : List (Nat × Nat) → Nat → Nat
 | [], _ => 0
 | (y, m) :: r, a => bif Nat.beq y a then m ||| (1 <<< a) else lookM r a
def maskOf (tab : List (Nat × Nat)) : List Nat → Nat
 | [] => 0
 | a :: r => lookM tab a ||| maskOf tab r
def chkLeaf (l : List GItem) (aft : Nat → List Nat) : List Nat → List (Nat × Nat) → Bool
 | [], _ => true
 | x :: r, tab => (tab.all fun p => (maskOf tab (aft x)).testBit p.1 || indepAt l p.1 x) && chkLeaf l aft r ((x, maskOf tab (aft x)) :: tab)
def addC (aft : Nat → List Nat) (a b : Nat) : Nat → List Nat := fun j => bif Nat.beq j b then a :: aft j else aft j
def chkOT (l : List GItem) (n : Nat) : (Nat → List Nat) → OT → Bool
 | aft, .leaf r => r.isPerm (List.range n) && chkLeaf l aft r []
 | aft, .node a b x y => !Nat.beq a b && Nat.blt a n && Nat.blt b n && chkOT l n (addC aft a b) x && chkOT l n (addC aft b a) y
section
variable {G : Type} {P : Program} {H : HT G} {ρ : Env} {σ : Store} {g : G} {K : Env → Store → G → Prop}
theorem pickAll_mid {l : List GItem} {p q : List Nat} {x : Nat} {it : GItem} (hx : l[x]? = some it) : pickAll l (p ++ x :: q) = pickAll l p ++ it :: pickAll l q := by
 induction p with
 | nil => simp [pickAll, hx]
 | cons y p ih =>
  simp only [List.cons_append, pickAll]
  cases l[y]? <;> simp [ih]
theorem pickAll_append {l : List GItem} {p q : List Nat} : pickAll l (p ++ q) = pickAll l p ++ pickAll l q := by
 induction p with
 | nil => simp [pickAll]
 | cons y p ih =>
  simp only [List.cons_append, pickAll]
  cases l[y]? <;> simp [ih]
theorem pickAll_mem {l : List GItem} {p : List Nat} {it : GItem} (h : it ∈ pickAll l p) : ∃ y ∈ p, l[y]? = some it := by
 induction p with
 | nil => simp [pickAll] at h
 | cons y p ih =>
  simp only [pickAll] at h
  cases hy : l[y]? with
  | none => rw [hy] at h; obtain ⟨z, h1, h2⟩ := ih h; exact ⟨z, by simp [h1], h2⟩
  | some a =>
   rw [hy] at h
   rcases List.mem_cons.1 h with rfl | h
   · exact ⟨y, by simp, hy⟩
   · obtain ⟨z, h1, h2⟩ := ih h; exact ⟨z, by simp [h1], h2⟩
theorem AWits_push (hM : MonoH H) {x : GItem} {q : List GItem} : ∀ {p : List GItem} {ρ : Env} {σ : Store} {g : G}, (∀ y ∈ p, indep x y = true) → AWits P H (x :: (p ++ q)) ρ σ g K → AWits P H (p ++ x :: q) ρ σ g K
 | [], _, _, _, _, h => h
 | y :: p, ρ, σ, g, hi, h => by
  have h1 : AWit P H y ρ σ g fun ρ1 σ1 g1 => AWit P H x ρ1 σ1 g1 fun ρ2 σ2 g2 => AWits P H (p ++ q) ρ2 σ2 g2 K := AWit_swap hM (hi y (by simp)) h
  exact AWit_mono hM (fun ρ1 σ1 g1 h2 => AWits_push hM (fun z hz => hi z (by simp [hz])) h2) h1
theorem before_cons {r : List Nat} {x i j : Nat} (h : Before r i j) : Before (x :: r) i j := by
 obtain ⟨p, q, rfl, hi⟩ := h
 exact ⟨x :: p, q, rfl, by simp [hi]⟩
theorem before_head {r : List Nat} {x j : Nat} (h : j ∈ r) : Before (x :: r) x j := by
 obtain ⟨p, q, rfl⟩ := List.append_of_mem h
 exact ⟨x :: p, q, rfl, by simp⟩
theorem before_drop {p q : List Nat} {x i j : Nat} (h : Before (p ++ x :: q) i j) (hi : i ≠ x) (hj : j ≠ x) : Before (p ++ q) i j := by
 obtain ⟨a, b, e, hia⟩ := h
 rcases List.append_eq_append_iff.1 e with ⟨c, e1, e2⟩ | ⟨c, e1, e2⟩
 · cases c with
   | nil => simp at e2; exact absurd e2.1.symm hj
   | cons d c =>
    simp at e2
    obtain ⟨rfl, rfl⟩ := e2
    refine ⟨p ++ c, b, by simp, ?_⟩
    rw [e1] at hia
    rcases List.mem_append.1 hia with h | h
    · simp [h]
    · rcases List.mem_cons.1 h with h | h
      · exact absurd h hi
      · simp [h]
 · cases c with
   | nil => simp at e2; exact absurd e2.1 hj
   | cons d c =>
    simp at e2
    obtain ⟨rfl, rfl⟩ := e2
    exact ⟨a, c ++ q, by rw [e1]; simp, hia⟩
theorem bubble (hM : MonoH H) {l : List GItem} : ∀ (r π : List Nat) {ρ : Env} {σ : Store} {g : G}, π.Perm r → r.Nodup → (∀ i ∈ r, i < l.length) → (∀ i j, Before r i j → indepAt l i j = true ∨ Before π i j) → AWits P H (pickAll l r) ρ σ g K → AWits P H (pickAll l π) ρ σ g K
 | [], π, ρ, σ, g, hp, _, _, _, h => by
  have : π = [] := hp.eq_nil
  subst this
  exact h
 | x :: r, π, ρ, σ, g, hp, hn, hl, hb, h => by
  have hx : x ∈ π := hp.mem_iff.2 (by simp)
  obtain ⟨p, q, rfl⟩ := List.append_of_mem hx
  have hnd : (p ++ x :: q).Nodup := hp.nodup_iff.2 hn
  have hp' : (p ++ q).Perm r := List.Perm.cons_inv ((List.perm_middle.symm.trans hp))
  have hlx : x < l.length := hl x (by simp)
  have hit : l[x]? = some l[x] := List.getElem?_eq_getElem hlx
  rw [List.nodup_cons] at hn
  have h1 : AWits P H (l[x] :: pickAll l (p ++ q)) ρ σ g K := by
   have h0 : AWits P H (l[x] :: pickAll l r) ρ σ g K := by
    have e : pickAll l (x :: r) = l[x] :: pickAll l r := by simp [pickAll, hit]
    rw [← e]; exact h
   refine AWit_mono hM (fun ρ1 σ1 g1 h2 => ?_) h0
   refine bubble hM r (p ++ q) hp' hn.2 (fun i hi => hl i (by simp [hi])) (fun i j hij => ?_) h2
   rcases hb i j (before_cons hij) with h3 | h3
   · exact .inl h3
   · refine .inr (before_drop h3 ?_ ?_)
     · rintro rfl
       obtain ⟨a, b, e, hi⟩ := hij
       exact hn.1 (by rw [e]; simp [hi])
     · rintro rfl
       obtain ⟨a, b, e, hi⟩ := hij
       exact hn.1 (by rw [e]; simp)
  rw [pickAll_mid hit]
  rw [pickAll_append] at h1
  refine AWits_push hM (fun y hy => ?_) h1
  obtain ⟨j, hj, hjl⟩ := pickAll_mem hy
  have hjr : j ∈ r := hp'.mem_iff.1 (by simp [hj])
  rcases hb x j (before_head hjr) with h3 | h3
  · unfold indepAt at h3
    rw [hit, hjl] at h3
    exact h3
  · obtain ⟨a, b, rfl⟩ := List.append_of_mem hj
    exact (Before.irrefl hnd h3 ⟨a ++ j :: b, q, by simp, by simp⟩).elim
theorem lookM_spec {tab : List (Nat × Nat)} {a i : Nat} (h : (lookM tab a).testBit i = true) : i = a ∨ ∃ m, (a, m) ∈ tab ∧ m.testBit i = true := by
 induction tab with
 | nil => simp [lookM] at h
 | cons p r ih =>
  obtain ⟨y, m⟩ := p
  simp only [lookM] at h
  cases hb : Nat.beq y a with
  | true =>
   rw [hb] at h
   have e := Nat.eq_of_beq_eq_true hb
   subst e
   simp only [cond_true, Nat.testBit_or, Bool.or_eq_true] at h
   rcases h with h | h
   · exact .inr ⟨m, by simp, h⟩
   · refine .inl ?_
     rw [Nat.one_shiftLeft, Nat.testBit_two_pow] at h
     exact (of_decide_eq_true h).symm
  | false =>
   rw [hb] at h
   rcases ih h with h1 | ⟨m', h1, h2⟩
   · exact .inl h1
   · exact .inr ⟨m', by simp [h1], h2⟩
theorem maskOf_spec {tab : List (Nat × Nat)} {as : List Nat} {i : Nat} (h : (maskOf tab as).testBit i = true) : ∃ a ∈ as, i = a ∨ ∃ m, (a, m) ∈ tab ∧ m.testBit i = true := by
 induction as with
 | nil => simp [maskOf] at h
 | cons a r ih =>
  simp only [maskOf, Nat.testBit_or, Bool.or_eq_true] at h
  rcases h with h | h
  · exact ⟨a, by simp, lookM_spec h⟩
  · obtain ⟨b, h1, h2⟩ := ih h
    exact ⟨b, by simp [h1], h2⟩
theorem leaf_spec {l : List GItem} {aft : Nat → List Nat} {π : List Nat} (hn : π.Nodup) {n : Nat} (hpn : ∀ j, j ∈ π ↔ j < n) (ha : ∀ j, j < n → ∀ i ∈ aft j, Before π i j) : ∀ (r : List Nat) (tab : List (Nat × Nat)), (∀ j ∈ r, j < n) → (∀ y m, (y, m) ∈ tab → ∀ i, m.testBit i = true → Before π i y) → chkLeaf l aft r tab = true →
  (∀ y ∈ tab.map (·.1), ∀ j ∈ r, indepAt l y j = true ∨ Before π y j) ∧ ∀ i j, Before r i j → indepAt l i j = true ∨ Before π i j
 | [], tab, _, _, _ => ⟨(fun y _ j hj => by cases hj), (fun i j hij => by obtain ⟨p, q, e, _⟩ := hij; simp at e)⟩
 | x :: r, tab, hr, htab, h => by
  simp only [chkLeaf, Bool.and_eq_true] at h
  obtain ⟨h1, h2⟩ := h
  have hx := hr x (by simp)
  have hmask : ∀ i, (maskOf tab (aft x)).testBit i = true → Before π i x := by
   intro i hi
   obtain ⟨a, hax, h3⟩ := maskOf_spec hi
   rcases h3 with rfl | ⟨m, h4, h5⟩
   · exact ha x hx i hax
   · exact (htab a m h4 i h5).trans hn (ha x hx a hax)
  obtain ⟨h3, h4⟩ := leaf_spec hn hpn ha r ((x, maskOf tab (aft x)) :: tab) (fun j hj => hr j (by simp [hj])) (fun y m hy i hi => by
   rcases List.mem_cons.1 hy with hy | hy
   · injection hy with e1 e2
     subst e1 e2
     exact hmask i hi
   · exact htab y m hy i hi) h2
  refine ⟨fun y hy j hj => ?_, fun i j hij => ?_⟩
  · rcases List.mem_cons.1 hj with rfl | hj
    · obtain ⟨pr, hpr, rfl⟩ := List.mem_map.1 hy
      have := (List.all_eq_true.1 h1) pr hpr
      rw [Bool.or_eq_true] at this
      rcases this with h5 | h5
      · exact .inr (hmask _ h5)
      · exact .inl h5
    · exact h3 y (by simp only [List.map_cons, List.mem_cons]; exact .inr hy) j hj
  · obtain ⟨p, q, e, hi⟩ := hij
    cases p with
    | nil => cases hi
    | cons z p =>
     simp at e
     obtain ⟨rfl, rfl⟩ := e
     rcases List.mem_cons.1 hi with rfl | hi
     · exact h3 i (by simp) j (by simp)
     · exact h4 i j ⟨p, q, rfl, hi⟩
theorem AWT_sound (hM : MonoH H) {l : List GItem} {n : Nat} (hl : l.length = n) {π : List Nat} (hp : π.Perm (List.range n)) : ∀ (t : OT) (aft : Nat → List Nat), (∀ j, j < n → ∀ i ∈ aft j, Before π i j) → chkOT l n aft t = true → AWT P H l t ρ σ g K → AWits P H (pickAll l π) ρ σ g K
 | .leaf r, aft, ha, hc, h => by
  simp only [chkOT, Bool.and_eq_true] at hc
  have hr := List.isPerm_iff.1 hc.1
  have hpn : ∀ j, j ∈ π ↔ j < n := fun j => by rw [hp.mem_iff, List.mem_range]
  have hrn : ∀ j ∈ r, j < n := fun j hj => List.mem_range.1 (hr.mem_iff.1 hj)
  have := (leaf_spec (l := l) (hp.nodup_iff.2 List.nodup_range) hpn ha r [] hrn (fun y m h => by cases h) hc.2).2
  exact bubble hM r π (hp.trans hr.symm) (hr.nodup_iff.2 List.nodup_range) (fun i hi => by rw [hl]; exact hrn i hi) this h
 | .node a b x y, aft, ha, hc, h => by
  simp only [chkOT, Bool.and_eq_true, Bool.not_eq_true'] at hc
  obtain ⟨⟨⟨⟨h1, h2⟩, h3⟩, h4⟩, h5⟩ := hc
  have hne : a ≠ b := fun e => by rw [e] at h1; simp at h1
  have ha2 : a < n := by simpa [Nat.blt_eq] using h2
  have hb2 : b < n := by simpa [Nat.blt_eq] using h3
  have hmem : ∀ j, j < n → j ∈ π := fun j hj => hp.mem_iff.2 (List.mem_range.2 hj)
  have key : ∀ u v, Before π u v → ∀ j, j < n → ∀ i ∈ addC aft u v j, Before π i j := by
   intro u v huv j hj i hi
   unfold addC at hi
   cases hb : Nat.beq j v with
   | true =>
    rw [hb] at hi
    have e := Nat.eq_of_beq_eq_true hb
    subst e
    rcases List.mem_cons.1 hi with rfl | hi
    · exact huv
    · exact ha j hj i hi
   | false => rw [hb] at hi; exact ha j hj i hi
  rcases before_total (hmem a ha2) (hmem b hb2) hne with hab | hab
  · exact AWT_sound hM hl hp x _ (key a b hab) h4 h.1
  · exact AWT_sound hM hl hp y _ (key b a hab) h5 h.2
end
def chkDst (n : Nat) : Option Nat → Option Nat → Bool
 | none, none => true
 | some a, some b => Nat.beq a b && Nat.blt a n
 | _, _ => false
def chkGuard (ops : Array Oper) : Option (Nat × Bool) → Option (Nat × Bool) → Bool
 | none, none => true
 | some (s, want), some (j, want') => (want == want') && (match ops[j]? with
   | some oj => (match oj.dst with
     | some d => Nat.beq d s
     | none => false)
   | none => false)
 | _, _ => false
def chkItem (P : Program) (n : Nat) (ops : Array Oper) (o : Oper) : GItem → Bool
 | .op dst gd aop => chkDst n dst o.dst && chkGuard ops gd o.guard && chkOp P o.op aop
 | .frz _ => false
def chkItemAt (P : Program) (n : Nat) (ops : Array Oper) (i : Nat) (it : GItem) : Bool := match ops[i]? with
 | some o => chkItem P n ops o it
 | none => false
def seqOk (P : Program) (n : Nat) (ops : Array Oper) : List GItem → List Nat → Bool
 | .frz t :: r, is => Nat.blt t n && seqOk P n ops r is
 | it :: r, i :: is => chkItemAt P n ops i it && seqOk P n ops r is
 | [], [] => true
 | _, _ => false
def DefOk (w : World) (S F : Nat → Prop) (θ : Names) (σ : Store) : List Deferred → Prop
 | [] => True
 | d :: ds => (∃ r, d.target = .collected r ∧ w.heap[r]? = some (.deferred (some [])) ∧ ¬ S r ∧ ¬ F r ∧ ¬ LiveB θ σ r ∧ ∀ d' ∈ ds, d'.target ≠ .collected r) ∧ DefOk w S F θ σ ds
structure Start where
 w : World
 S : Nat → Prop
 F : Nat → Prop
 θ : Names
 σ : Store
structure Cur {G : Type} (J : JT G) (l n : Nat) (s0 : Start) (w : World) (S F : Nat → Prop) (θ : Names) (σ : Store) (g : G) (ρ : Env) (a : Act) : Prop where
 st : St J w S F θ σ l g
 env : EnvRep w S θ σ l ρ a.tmps
 sz : n ≤ a.tmps.size
 fr : Fr s0.w s0.S s0.F s0.θ s0.σ w S F θ σ
 de : DefOk w S F θ σ a.defers
 dn : ∀ d ∈ a.defers, ∀ r, d.target = .collected r → s0.w.heap.size ≤ r
def PostA {G : Type} (J : JT G) (l n : Nat) (s0 : Start) (Q : Exit → Env → Store → G → Prop) : Exit → Act → World → Prop := fun e a w =>
 (e = .normal ∨ e = .ret ∨ ∃ id, e = .exit id) ∧ ∃ ρ σ g S F θ, Q e ρ σ g ∧ Cur J l n s0 w S F θ σ g ρ a
section
variable {G : Type} {J : JT G} {w w' w'' : World} {S F S' F' S'' F'' : Nat → Prop} {θ θ' θ'' : Names} {σ σ' σ'' : Store} {l n : Nat} {g g' : G}
variable {P : Program} {o : Oper} {a : Act} {ρ : Env} {H : HT G} {s0 : Start}
theorem DefOk.fr (h : Fr w S F θ σ w' S' F' θ' σ') : ∀ {ds : List Deferred}, DefOk w S F θ σ ds → DefOk w' S' F' θ' σ' ds
 | [], _ => trivial
 | d :: ds, ⟨⟨r, h1, h2, h3, h4, h5, h6⟩, h7⟩ => by
  have hlt := (Array.getElem?_eq_some_iff.1 h2).1
  refine ⟨⟨r, h1, by rw [h.same r hlt h5 h4]; exact h2, fun hS => ?_, fun hF => h4 (h.fsub r hF hlt), fun hL => h5 (h.live r hL hlt), h6⟩, DefOk.fr h h7⟩
  rcases h.snew r hS with k | k | k | k
  · exact h3 k
  · exact h5 k
  · exact h4 k
  · omega
theorem put_defers (a : Act) (d : Option Tmp) (v : Value) : (a.put d v).defers = a.defers := by cases d <;> rfl
theorem put_size (a : Act) (d : Option Tmp) (v : Value) : (a.put d v).tmps.size = a.tmps.size := by cases d <;> simp [Act.put]
theorem EnvRep.put {x : Value} {v : V} {dst : Option Nat} {d : Option Tmp} (he : EnvRep w S θ σ l ρ a.tmps) (hd : chkDst n dst d = true) (hn : n ≤ a.tmps.size) (hr : Rep w S θ σ l v x) : EnvRep w S θ σ l (put ρ dst v) (a.put d x).tmps := by
 intro t
 cases dst with
 | none =>
  cases d with
  | none => exact he t
  | some _ => cases hd
 | some b =>
  cases d with
  | none => cases hd
  | some c =>
   simp only [chkDst, Bool.and_eq_true] at hd
   have e := Nat.eq_of_beq_eq_true hd.1
   have hlt : b < n := by simpa [Nat.blt_eq] using hd.2
   subst e
   simp only [Hm.put, Act.put]
   by_cases ht : t = b
   · subst ht
     rw [upd_self]
     have : (a.tmps.setIfInBounds t x).getD t undef = x := by
      have h1 : t < (a.tmps.setIfInBounds t x).size := by simp; omega
      simp only [Array.getD, h1, dite_true, Array.getInternal_eq_getElem]
      simp
     rw [this]; exact hr
   · rw [upd_ne ρ v ht]
     have : (a.tmps.setIfInBounds b x).getD t undef = a.tmps.getD t undef := by
      simp only [Array.getD, Array.size_setIfInBounds, Array.getInternal_eq_getElem]
      split
      · rename_i h1
        rw [Array.getElem_setIfInBounds_ne h1 (fun h => ht h.symm)]
      · rfl
     rw [this]; exact he t
theorem EnvRep.fr (hs : St J w S F θ σ l g) (h : Fr w S F θ σ w' S' F' θ' σ') (he : EnvRep w S θ σ l ρ a.tmps) : EnvRep w' S' θ' σ' l ρ a.tmps := fun t => (he t).fr h hs
theorem rep_undef : Rep w S θ σ l (.tup []) undef := .pure (.tup [] [] rfl (fun i v x h => by simp at h))
theorem Cur.step {dst : Option Nat} {d : Option Tmp} {x : Value} {K : V → Store → G → Prop} (h : Cur J l n s0 w S F θ σ g ρ a) (hd : chkDst n dst d = true) (hp : OpPost J w S F θ σ l K x w') :
  ∃ v σ' g' S' F' θ', K v σ' g' ∧ Cur J l n s0 w' S' F' θ' σ' g' (put ρ dst v) (a.put d x) := by
 obtain ⟨v, σ', g', S', F', θ', hk, hs', hfr, hr⟩ := hp
 exact ⟨v, σ', g', S', F', θ', hk, hs', (h.env.fr h.st hfr).put hd h.sz hr, by rw [put_size]; exact h.sz, h.fr.trans h.st hfr, by rw [put_defers]; exact h.de.fr hfr, by rw [put_defers]; exact h.dn⟩
theorem Cur.skip {dst : Option Nat} {d : Option Tmp} (h : Cur J l n s0 w S F θ σ g ρ a) (hd : chkDst n dst d = true) : Cur J l n s0 w S F θ σ g (put ρ dst (.tup [])) (a.put d undef) :=
 ⟨h.st, h.env.put hd h.sz rep_undef, by rw [put_size]; exact h.sz, h.fr, by rw [put_defers]; exact h.de, by rw [put_defers]; exact h.dn⟩
theorem gate_wanted {ops : Array Oper} {gd : Option (Nat × Bool)} {b : Bool} (he : EnvRep w S θ σ l ρ a.tmps) (hc : chkGuard ops gd o.guard = true) (hg : gate ρ gd = some b) : Region.wanted o (yielded ops a.tmps) = b := by
 cases gd with
 | none =>
  cases hgd : o.guard with
  | none => simp only [gate, Option.some.injEq] at hg; subst hg; simp [Region.wanted, hgd]
  | some _ => rw [hgd] at hc; cases hc
 | some p =>
  obtain ⟨s, want⟩ := p
  cases hgd : o.guard with
  | none => rw [hgd] at hc; cases hc
  | some q =>
   obtain ⟨j, want'⟩ := q
   rw [hgd] at hc
   simp only [chkGuard, Bool.and_eq_true, beq_iff_eq] at hc
   obtain ⟨rfl, hc⟩ := hc
   have hy : yielded ops a.tmps j = match a.tmps[s]? with
     | some (.bool b) => some b
     | _ => none := by
    unfold yielded
    cases hj : ops[j]? with
    | none => rw [hj] at hc; cases hc
    | some oj =>
     rw [hj] at hc
     simp only at hc
     cases hdj : oj.dst with
     | none => rw [hdj] at hc; cases hc
     | some d =>
      rw [hdj] at hc
      have e := Nat.eq_of_beq_eq_true hc
      subst e
      simp only [hdj, Option.bind_some]
      cases a.tmps[d]? with
      | none => rfl
      | some v => cases v <;> rfl
   simp only [Region.wanted, hgd, hy]
   have hr := he s
   simp only [gate] at hg
   cases hs : ρ s with
   | bool c =>
    rw [hs] at hg hr
    have e := hr.bool_inv
    have hlt : s < a.tmps.size := by
     by_cases hlt : s < a.tmps.size
     · exact hlt
     · simp [Array.getD, hlt, undef] at e
    have e2 : a.tmps[s]? = some (.bool c) := by
     rw [Array.getElem?_eq_getElem hlt]
     simp [Array.getD, hlt] at e
     rw [e]
    rw [e2]
    simp only [Option.some.injEq] at hg
    subst hg
    cases c <;> cases want <;> rfl
   | tup l =>
    cases l with
    | nil =>
     rw [hs] at hg hr
     simp only [Option.some.injEq] at hg
     subst hg
     obtain ⟨xs, hx, hl, _⟩ := hr.tup_inv
     have : xs = [] := List.eq_nil_of_length_eq_zero (by simpa using hl.symm)
     subst this
     by_cases hlt : s < a.tmps.size
     · have e2 : a.tmps[s]? = some (.tuple #[]) := by
        rw [Array.getElem?_eq_getElem hlt]
        simp [Array.getD, hlt] at hx
        rw [hx]
       rw [e2]; rfl
     · rw [Array.getElem?_eq_none (by omega)]; rfl
    | cons _ _ => rw [hs] at hg; cases hg
   | _ => rw [hs] at hg; cases hg
theorem Fr.freeze (nm : Nat) (hl : (σ nm).live) : Fr w S F θ σ w (fun b => S b ∨ ∃ m, θ nm = some (b, m)) F θ (ups σ nm .dead) where
 size := Nat.le_refl _
 os := rfl
 tape := rfl
 output := ⟨rfl, by first | exact fun _ => Nat.le_refl _ | exact fun _ => Nat.le_succ _⟩
 same := fun _ _ _ _ => rfl
 sized := fun _ c _ fr h => ⟨c, fr, h, rfl, .inl rfl⟩
 vecs := fun _ _ _ _ _ _ _ _ => rfl
 smono := fun _ h => .inl h
 snew := fun b h => by
  rcases h with h | ⟨m, h⟩
  · exact .inl h
  · exact .inr (.inl ⟨nm, m, hl, h⟩)
 live := fun b => by
  rintro ⟨n1, m1, h1, h2⟩ _
  by_cases e : n1 = nm
  · subst e; rw [upt_self] at h1; exact h1.elim
  · rw [upt_ne σ _ e] at h1; exact ⟨n1, m1, h1, h2⟩
 fsub := fun _ h _ => h
 kdead := fun n h => by
  by_cases e : n = nm
  · subst e; exact upt_self _ _ _
  · rw [upt_ne σ _ e]; exact h
 kbox := fun n row h => by
  by_cases e : n = nm
  · subst e; exact .inl (upt_self _ _ _)
  · exact .inr ⟨row, by rw [upt_ne σ _ e]; exact h, rfl⟩
 karr := fun n gen rows h => by
  by_cases e : n = nm
  · subst e; exact .inl (upt_self _ _ _)
  · exact .inr ⟨gen, rows, by rw [upt_ne σ _ e]; exact h, Nat.le_refl _, fun _ => ⟨rfl, Nat.le_refl _⟩⟩
 kvec := fun n k h => by
  by_cases e : n = nm
  · subst e; exact .inl ⟨upt_self _ _ _, fun b m hb => .inr ⟨m, hb⟩⟩
  · exact .inr ⟨k, by rw [upt_ne σ _ e]; exact h, Nat.le_refl _, fun _ => rfl, fun b m hb => .inl hb⟩
 kmp := fun n k ns vs h => by
  by_cases e : n = nm
  · subst e; exact .inl (upt_self _ _ _)
  · exact .inr ⟨k, ns, vs, by rw [upt_ne σ _ e]; exact h, rfl⟩
theorem St.freeze (hst : Stable J) (hs : St J w S F θ σ l g) (nm : Nat) (hl : (σ nm).live) : St J w (fun b => S b ∨ ∃ m, θ nm = some (b, m)) F θ (ups σ nm .dead) l g := by
 refine St.step hst hs (Fr.freeze nm hl) nm (fun nm' e => ⟨upt_ne σ _ e, rfl⟩) (fun _ _ _ _ _ _ => rfl) (fun _ _ => rfl)
  (by rw [upt_self]; trivial) (fun b m' hl' hb' => by rw [upt_self] at hl'; exact hl'.elim) (fun b hb => ?_) (fun b nm' m' hb e h1 h2 => ?_)
 · rcases hb with hb | ⟨m, hb⟩
   · exact ⟨hs.hS b hb, fun hf => (hs.hF b hf).2.1 hb⟩
   · exact ⟨live_lt hs hl hb, fun hf => (hs.hF b hf).2.2 ⟨nm, m, hl, hb⟩⟩
 · rcases hb with hb | ⟨m, hb⟩
   · exact hs.hliveS b ⟨nm', m', h1, h2⟩ hb
   · exact e (hs.hinj nm' nm b m' m h1 hl h2 hb)
theorem Cur.freeze {t nm : Nat} {v : V} (hst : Stable J) (h : Cur J l n s0 w S F θ σ g ρ a) (hl : (σ nm).live) (hv : Rep w (fun b => S b ∨ ∃ m, θ nm = some (b, m)) θ (ups σ nm .dead) l v (a.tmps.getD t undef)) :
  Cur J l n s0 w (fun b => S b ∨ ∃ m, θ nm = some (b, m)) F θ (ups σ nm .dead) g (upd ρ t v) a := by
 have hfr := Fr.freeze (w := w) (S := S) (F := F) (θ := θ) nm hl
 refine ⟨St.freeze hst h.st nm hl, fun t' => ?_, h.sz, h.fr.trans h.st hfr, h.de.fr hfr, h.dn⟩
 by_cases e : t' = t
 · subst e; rw [upd_self]; exact hv
 · rw [upd_ne ρ v e]; exact (h.env t').fr hfr h.st
theorem frz_cur {t : Nat} {K : Env → Store → G → Prop} (hst : Stable J) (h : Cur J l n s0 w S F θ σ g ρ a) (hw : AWit P H (.frz t) ρ σ g K) :
  ∃ ρ' σ' S', K ρ' σ' g ∧ Cur J l n s0 w S' F θ σ' g ρ' a := by
 have hr := h.env t
 simp only [AWit] at hw
 split at hw
 · rename_i nm rows hv
   rw [hv] at hr
   split at hw
   · rename_i k hσ
     suffices hv : ∀ x, Rep w S θ σ l (.sl (.own nm) rows) x → RepP w (fun b => S b ∨ ∃ m, θ nm = some (b, m)) (.sl .p rows) x from ⟨_, _, _, hw, h.freeze hst (live_vec hσ) (.pure (hv _ hr))⟩
     intro x0 hr
     cases hr with
     | pure h1 => cases h1
     | own _ _ b off cap m ys hn hb hcap hwd hc hr hf =>
      refine .sl rows b off cap m ys ?_ hcap hwd hc (fun i j row v h1 h2 => (hr i j row v h1 h2).mono (fun _ _ => rfl) fun b hb => .inl hb)
      rcases hb with hb | ⟨m', k', h1, _, _⟩
      · exact .inl hb
      · exact .inr ⟨m', h1⟩
     | ownemp _ ad hn => exact .emp ad 0
   · exact hw.elim
 · rename_i nm gen i len hv
   rw [hv] at hr
   split at hw
   · rename_i gen' rows hσ
     obtain ⟨rfl, hw⟩ := hw
     suffices hv : ∀ x, Rep w S θ σ l (.msl nm gen i len) x → RepP w (fun b => S b ∨ ∃ m, θ nm = some (b, m)) (.sl .p ((rows.drop i).take len)) x from ⟨_, _, _, hw, h.freeze hst (live_arr hσ) (.pure (hv _ hr))⟩
     intro x0 hr
     cases hr with
     | pure h1 => cases h1
     | msl _ _ _ _ x ho hn hg hx =>
      rcases hx rows hσ with ⟨b, m, cap, hθ, hle, e1, hcap, hlen⟩ | ⟨rfl, ad, e1⟩
      · have hk := h.st.hblk nm
        rw [hσ] at hk
        rcases hk with ⟨h2, _⟩ | ⟨b', m', c, e', h2, h3, h4, h5, h6⟩
        · rw [hθ] at h2; cases h2
        have eb : b' = b ∧ m' = m := by rw [hθ] at h2; simp at h2; exact ⟨h2.1.symm, h2.2.symm⟩
        obtain ⟨rfl, rfl⟩ := eb
        rw [e1]
        have hl2 : ((rows.drop i).take len).length = len := by simp; omega
        have hrow : ∀ q : Nat, ∀ row, ((rows.drop i).take len)[q]? = some row → rows[i + q]? = some row := by
         intro q row hq
         rw [List.getElem?_take] at hq
         split at hq
         · rwa [List.getElem?_drop] at hq
         · cases hq
        have := RepP.sl (w := w) (S := fun b => S b ∨ ∃ m, θ nm = some (b, m)) ((rows.drop i).take len) b' (i * m') cap m' (fun q j => c.getD ((i + q) * m' + j) undef) (.inr ⟨m', hθ⟩) (by rw [hl2]; exact hle)
         (fun row hr => h4 row (List.mem_of_mem_drop (List.mem_of_mem_take hr)))
         (fun q j row v h7 h8 => by
           obtain ⟨y, hy, _⟩ := h6 (i + q) j row v (hrow q row h7) h8
           have hi := Array.getElem?_eq_some_iff.1 hy
           have e2 : c.getD ((i + q) * m' + j) undef = y := by simp [Array.getD, hi.1, hi.2]
           rw [e2, cell_of_row w b' _ c e' _ h3, ← Nat.add_mul]
           exact hy)
         (fun q j row v h7 h8 => by
           obtain ⟨y, hy, hr⟩ := h6 (i + q) j row v (hrow q row h7) h8
           have hi := Array.getElem?_eq_some_iff.1 hy
           have e2 : c.getD ((i + q) * m' + j) undef = y := by simp [Array.getD, hi.1, hi.2]
           rw [e2]
           exact hr.mono (fun _ _ => rfl) fun b hb => .inl hb)
        rw [hl2] at this
        exact this
      · rw [e1]
        simp only [List.take_zero]
        exact .emp ad 0
   · exact hw.elim
 · rename_i nm j hv
   rw [hv] at hr
   split at hw
   · rename_i row hσ
     obtain ⟨hp, hw⟩ := hw
     suffices hv : ∀ x, Rep w S θ σ l (.bptr nm j) x → RepP w (fun b => S b ∨ ∃ m, θ nm = some (b, m)) (.cptr .p row j) x from ⟨_, _, _, hw, h.freeze hst (live_box hσ) (.pure (hv _ hr))⟩
     intro x0 hr
     cases hr with
     | pure h1 => cases h1
     | bptr _ _ x ho hn hx =>
      obtain ⟨b, m, hθ, e1⟩ := hx row hσ
      have hk := h.st.hblk nm
      rw [hσ] at hk
      obtain ⟨b', c, e', h2, h3, h4, h5⟩ := hk
      have eb : b' = b := by rw [hθ] at h2; simp at h2; exact h2.1.symm
      subst eb
      rw [e1]
      have := RepP.cptr (w := w) (S := fun b => S b ∨ ∃ m, θ nm = some (b, m)) row b' 0 j (fun i => c.getD i undef) (.inr ⟨m, hθ⟩)
       (fun i v hv => by
         obtain ⟨y, hy, _⟩ := h5 i v hv
         have hi := Array.getElem?_eq_some_iff.1 hy
         have e2 : c.getD i undef = y := by simp [Array.getD, hi.1, hi.2]
         rw [e2, cell_of_row w b' _ c e' _ h3, Nat.zero_add]
         exact hy)
       (fun i v hv => by
         obtain ⟨y, hy, hr⟩ := h5 i v hv
         have hi := Array.getElem?_eq_some_iff.1 hy
         have e2 : c.getD i undef = y := by simp [Array.getD, hi.1, hi.2]
         rw [e2]
         exact (hr.toP (pure_cells hp v (mem_of_get hv))).mono (fun _ _ => rfl) fun b hb => .inl hb)
      simpa using this
   · exact hw.elim
 · rename_i hv
   rw [hv] at hr
   refine ⟨_, _, S, hw, h.st, fun t' => ?_, h.sz, h.fr, h.de, h.dn⟩
   by_cases e : t' = t
   · subst e
     rw [upd_self]
     suffices key : ∀ x, Rep w S θ σ l (.sl .nil []) x → Rep w S θ σ l (.sl .p []) x from key _ hr
     intro x hr
     cases hr with
     | pure h1 =>
      cases h1 with
      | nilsl ad => exact .pure (.emp ad 0)
   · rw [upd_ne ρ _ e]; exact h.env t'
 · rename_i b n cap hv
   rw [hv] at hr
   obtain ⟨nm, ll, rows, m, hσ, hn, hw0, hpl, htk, hw⟩ := hw
   obtain ⟨e1, hnc⟩ := hr.rsl_inv
   have hk := h.st.hblk nm
   rw [hσ] at hk
   obtain ⟨b', c, e', h2, h3, ⟨h4, h4t, h4g⟩, h5⟩ := hk
   have eb : b = b' := h4g
   subst eb
   refine ⟨_, _, _, hw, h.freeze hst (live_box hσ) (.pure ?_)⟩
   rw [e1, ← hn]
   have hat : ∀ (i j : Nat) (row v : V), rows[i]? = some row → row.cells[j]? = some v → ll[i * m + j]? = some v ∧ pureB v = true := by
    intro i j row v h6 h7
    have h8 := flat_at hw0 h6 h7
    have h9 := List.all_eq_true.1 hpl v (mem_of_get h8)
    rw [← htk, List.getElem?_take] at h8
    split at h8
    · exact ⟨h8, h9⟩
    · cases h8
   refine RepP.sl (w := w) (S := fun b => S b ∨ ∃ m, θ nm = some (b, m)) rows b 0 cap m (fun i j => c.getD (i * m + j) undef) (.inr ⟨_, h2⟩) (by omega) hw0 (fun i j row v h6 h7 => ?_) (fun i j row v h6 h7 => ?_)
   · obtain ⟨y, hy, _⟩ := h5 _ v (hat i j row v h6 h7).1
     have hi := Array.getElem?_eq_some_iff.1 hy
     have e2 : c.getD (i * m + j) undef = y := by simp [Array.getD, hi.1, hi.2]
     rw [e2, cell_of_row w b _ c e' _ h3, Nat.zero_add]
     exact hy
   · obtain ⟨y, hy, hr⟩ := h5 _ v (hat i j row v h6 h7).1
     have hi := Array.getElem?_eq_some_iff.1 hy
     have e2 : c.getD (i * m + j) undef = y := by simp [Array.getD, hi.1, hi.2]
     rw [e2]
     exact (hr.toP (hat i j row v h6 h7).2).mono (fun _ _ => rfl) fun b hb => .inl hb
 · rename_i nm hv
   rw [hv] at hr
   split at hw
   · rename_i k ns vs hσ
     obtain ⟨r, hθ, e1⟩ := hr.mp_inv _ _ _ hσ
     have hk := h.st.hblk nm
     rw [hσ] at hk
     obtain ⟨r', es, clk, h2, h3, m1, m2, m3, m4⟩ := hk
     have er : r' = r := by rw [hθ] at h2; simp at h2; exact h2.symm
     subst er
     refine ⟨_, _, _, hw, h.freeze hst (live_mp hσ) (.pure ?_)⟩
     rw [e1]
     exact .mps k ns vs r' es clk (.inr ⟨_, h2⟩) h3 m1 m2 m3 (fun i v e a b => (m4 i v e a b).mono (fun _ _ => rfl) fun b hb => .inl hb)
   · exact hw.elim
 · exact hw.elim
theorem items_wp {ops : Array Oper} {Q : Exit → Act → World → Prop} {ro : Option Nat} (hst : Stable J) (hM : MonoH H) (hH : HokS P J H l) : ∀ (items : List GItem) (is : List Nat) {w : World} {S F : Nat → Prop} {θ : Names} {σ : Store} {g : G} {ρ : Env} {a : Act} {K : Env → Store → G → Prop},
  seqOk P n ops items is = true → Cur J l n s0 w S F θ σ g ρ a → AWits P H items ρ σ g K →
  (∀ ρ' σ' g' S' F' θ' w' a', K ρ' σ' g' → Cur J l n s0 w' S' F' θ' σ' g' ρ' a' → Q .normal a' w') → wpOpsIn (wf ro) 0 P ops Q is a w
 | [], [], w, S, F, θ, σ, g, ρ, a, K, _, hc, hw, hk => hk _ _ _ _ _ _ _ _ hw hc
 | [], _ :: _, _, _, _, _, _, _, _, _, _, h, _, _, _ => by simp [seqOk] at h
 | .frz t :: r, is, w, S, F, θ, σ, g, ρ, a, K, h, hc, hw, hk => by
  simp only [seqOk, Bool.and_eq_true] at h
  obtain ⟨ρ', σ', S', h1, h2⟩ := frz_cur hst hc hw
  exact items_wp hst hM hH r is h.2 h2 h1 hk
 | .op dst gd o :: r, [], _, _, _, _, _, _, _, _, _, h, _, _, _ => by simp [seqOk] at h
 | .op dst gd o :: r, i :: is, w, S, F, θ, σ, g, ρ, a, K, h, hc, hw, hk => by
  simp only [seqOk, Bool.and_eq_true] at h
  obtain ⟨h1, h2⟩ := h
  unfold chkItemAt at h1
  simp only [AWits] at hw
  rw [AWit_gate] at hw
  simp only [wpOpsIn]
  cases ho : ops[i]? with
  | none => rw [ho] at h1; cases h1
  | some op =>
   rw [ho] at h1
   simp only [chkItem, Bool.and_eq_true] at h1
   obtain ⟨⟨hd, hg⟩, hop⟩ := h1
   cases hgt : gate ρ gd with
   | none => rw [hgt] at hw; exact hw.elim
   | some b =>
    rw [hgt] at hw
    have hwant := gate_wanted hc.env hg hgt
    simp only [hwant]
    cases b with
    | true =>
     simp only [if_true]
     refine op_wp hst hM hH hc.st hc.env hop hw fun x w' hp => ?_
     obtain ⟨v, σ', g', S', F', θ', hk', hc'⟩ := hc.step hd hp
     exact items_wp hst hM hH r is h2 hc' hk' hk
    | false =>
     simp only [Bool.false_eq_true, if_false]
     exact ⟨fun _ _ => trivial, items_wp hst hM hH r is h2 (hc.skip hd) hw hk⟩
end
def allOps (P : Program) (n : Nat) (ops : Array Oper) (l : List GItem) : Bool :=
 Nat.beq l.length ops.size && (List.range ops.size).all fun i => match l[i]? with
  | some it => chkItemAt P n ops i it
  | none => false
def chkDraw (P : Program) (n : Nat) (ops : Array Oper) (l : List GItem) (t : OT) : Bool :=
 natTop ops && allOps P n ops l && chkOT l ops.size (aftOf ops) t
def chk (P : Program) (n : Nat) : Bool → Cmd → Code → Bool
 | _, .skip, .skip => true
 | _, .ops l, .region _ ops false => seqOk P n ops l (List.range ops.size)
 | _, .ops l, .region _ ops true => chkDraw P n ops l (.leaf (List.range ops.size))
 | _, .opsT t l, .region _ ops true => chkDraw P n ops l t
 | r, .seq a b, c => match a, b with
   | .frz t, b => Nat.blt t n && chk P n r b c
   | a, .frz t => Nat.blt t n && chk P n r a c
   | a, b => match c with
     | .seq x y => chk P n r a x && chk P n r b y
     | _ => false
 | r, .cond x a b, .cond c y z => chkOpd c x && chk P n r a y && chk P n r b z
 | r, .block id a, .block id' c => Nat.beq id id' && chk P n r a c
 | r, .loop a, .loop c => chk P n r a c
 | _, .exit id, .exit id' => Nat.beq id id'
 | r, .cut a, c => chk P n r a c
 | r, .nvb _ _ _ a, c => chk P n r a c
 | r, .fzb _ _ a, c => chk P n r a c
 | r, .nvs _ _ a, c => chk P n r a c
 | r, .nvt _ _ _ a, c => chk P n r a c
 | r, .tagb _ a, c => chk P n r a c
 | r, .frzr a, c => chk P n r a c
 | _, .ret, .ret => true
 | false, .rangeF _ f ps a b, .rangeFunc g qs x y => chkOpd g f && (ps == qs.toList) && (ps.all fun p => Nat.blt p n) && chk P n true a x && chk P n true b y
 | _, _, _ => false
section
variable {G : Type} {J : JT G} {w w' w'' : World} {S F S' F' S'' F'' : Nat → Prop} {θ θ' θ'' : Names} {σ σ' σ'' : Store} {l n : Nat} {g g' : G}
variable {P : Program} {o : Oper} {a : Act} {ρ : Env} {H : HT G} {s0 : Start}
theorem pickAll_range (l : List GItem) : pickAll l (List.range l.length) = l := by
 have key : ∀ (q p : List GItem), pickAll (p ++ q) (List.range' p.length q.length) = q := by
  intro q
  induction q with
  | nil => intro p; simp [pickAll]
  | cons x q ih =>
   intro p
   have := ih (p ++ [x])
   simp only [List.append_assoc, List.singleton_append, List.length_append, List.length_singleton] at this
   simp only [List.length_cons, List.range'_succ, pickAll]
   rw [List.getElem?_append_right (Nat.le_refl _)]
   simp [this]
 have := key l []
 simpa [List.range_eq_range'] using this
theorem seqOk_pick {ops : Array Oper} {l : List GItem} (h : allOps P n ops l = true) : ∀ (π : List Nat), (∀ i ∈ π, i < ops.size) → seqOk P n ops (pickAll l π) π = true
 | [], _ => rfl
 | i :: π, hp => by
  have hi := hp i (by simp)
  unfold allOps at h
  simp only [Bool.and_eq_true] at h
  have h1 := (List.all_eq_true.1 h.2) i (List.mem_range.2 hi)
  simp only [pickAll]
  cases hl : l[i]? with
  | none => rw [hl] at h1; cases h1
  | some it =>
   rw [hl] at h1
   simp only at h1 ⊢
   cases it with
   | frz t =>
    unfold chkItemAt at h1
    split at h1 <;> cases h1
   | op dst gd o =>
    simp only [seqOk, Bool.and_eq_true]
    exact ⟨h1, seqOk_pick (by unfold allOps; simp only [Bool.and_eq_true]; exact h) π (fun j hj => hp j (by simp [hj]))⟩
theorem draw_wp {ops : Array Oper} {id : Nat} {t : OT} {items : List GItem} {ro : Option Nat} {Q : Exit → Env → Store → G → Prop} (hmix : P.follows .mixedOrders = true) (hst : Stable J) (hM : MonoH H) (hH : HokS P J H l)
  (hc : chkDraw P n ops items t = true) (h : Cur J l n s0 w S F θ σ g ρ a) (hw : AWT P H items t ρ σ g (Q .normal)) : (Code.region id ops true).wpIn (wf ro) 0 P (PostA J l n s0 Q) a w := by
 simp only [chkDraw, Bool.and_eq_true] at hc
 obtain ⟨⟨h1, h2⟩, h3⟩ := hc
 refine wpIn_region_draw fun t' => ?_
 obtain ⟨d1, d2⟩ := St.drew hst h.st
 have hcur : Cur J l n s0 w.drew S F θ σ g ρ a := ⟨d1, h.env.fr h.st d2, h.sz, h.fr.trans h.st d2, h.de.fr d2, h.dn⟩
 have hsch : Region.schedule (P.follows .mixedOrders) ops t' = Region.linearise .any ops t' := by simp [Region.schedule, hmix]
 rw [hsch]
 obtain ⟨hp, hb⟩ := lin_spec ops h1 t'
 have hlen : items.length = ops.size := by
  unfold allOps at h2
  simp only [Bool.and_eq_true] at h2
  exact Nat.eq_of_beq_eq_true h2.1
 have haw := AWT_sound hM hlen hp t (aftOf ops) (fun j hj i hi => hb j i hi hj) h3 hw
 exact items_wp hst hM hH _ _ (seqOk_pick h2 _ (fun i hi => List.mem_range.1 (hp.mem_iff.1 hi))) hcur haw (fun ρ' σ' g' S' F' θ' w' a' hk hc => ⟨.inl rfl, ρ', σ', g', S', F', θ', hk, hc⟩)
theorem fitsE_mem {E : List (Nat × V)} (h : FitsE E ρ) (t : Nat) : envOf E t = .any ∨ ∃ v, (t, v) ∈ E ∧ envOf E t = v ∧ ρ t = v := by
 induction E with
 | nil => exact .inl rfl
 | cons p r ih =>
  obtain ⟨d, v⟩ := p
  simp only [envOf]
  cases hb : Nat.beq t d with
  | true =>
   have e := Nat.eq_of_beq_eq_true hb
   subst e
   exact .inr ⟨v, by simp, rfl, h.1⟩
  | false =>
   rcases ih h.2 with h1 | ⟨v', h1, h2, h3⟩
   · exact .inl h1
   · exact .inr ⟨v', by simp [h1], h2, h3⟩
theorem fitsS_mem {Sg : List (Nat × Blk)} (h : FitsS Sg σ) (t : Nat) : (t ∈ Sg.map (·.1) → stOf Sg t = σ t) ∧ (t ∉ Sg.map (·.1) → stOf Sg t = .unused) := by
 induction Sg with
 | nil => exact ⟨fun h => by simp at h, fun _ => rfl⟩
 | cons p r ih =>
  obtain ⟨d, b⟩ := p
  obtain ⟨h1, h2⟩ := ih h.2
  simp only [stOf]
  cases hb : Nat.beq t d with
  | true =>
   have e := Nat.eq_of_beq_eq_true hb
   subst e
   exact ⟨fun _ => h.1.symm, fun hn => absurd (by simp) hn⟩
  | false =>
   have hne : t ≠ d := fun e => by rw [e] at hb; simp at hb
   refine ⟨fun hm => h1 ?_, fun hn => h2 fun hm => hn ?_⟩
   · simp only [List.map_cons, List.mem_cons] at hm
     exact hm.resolve_left hne
   · simp only [List.map_cons, List.mem_cons]; exact .inr hm
theorem restr_live {pn : List Nat} (hp : ∀ nm, nm ∈ pn → σ' nm = σ nm ∧ θ' nm = θ nm) (hq : ∀ nm, nm ∉ pn → σ' nm = .unused ∧ θ' nm = none) {b : Nat} (h : LiveB θ' σ' b) : LiveB θ σ b := by
 obtain ⟨nm, m, h1, h2⟩ := h
 by_cases hm : nm ∈ pn
 · obtain ⟨e1, e2⟩ := hp nm hm
   exact ⟨nm, m, by rw [← e1]; exact h1, by rw [← e2]; exact h2⟩
 · rw [(hq nm hm).1] at h1; exact h1.elim
theorem DefOk.sub (hL : ∀ b, LiveB θ' σ' b → LiveB θ σ b) : ∀ {ds : List Deferred}, DefOk w S F θ σ ds → DefOk w S F θ' σ' ds
 | [], _ => trivial
 | _ :: _, ⟨⟨r, h1, h2, h3, h4, h5, h6⟩, h7⟩ => ⟨⟨r, h1, h2, h3, h4, fun h => h5 (hL r h), h6⟩, DefOk.sub hL h7⟩
theorem Cur.weaken {pn : List Nat} {E : List (Nat × V)} {Sg : List (Nat × Blk)} (hpn : ∀ nm, s0.σ nm ≠ .unused → nm ∈ pn) (h : Cur J l n s0 w S F θ σ g ρ a) (hf : Fits pn E Sg ρ σ) :
  Cur J l n s0 w S F (restrN (Sg.map (·.1)) θ) (stOf Sg) g (envOf E) a := by
 obtain ⟨hE, hS, hB⟩ := hf
 simp only [fitB, Bool.and_eq_true] at hB
 obtain ⟨⟨hB1, hB2⟩, hB3⟩ := hB
 have hp : ∀ nm, nm ∈ Sg.map (·.1) → stOf Sg nm = σ nm ∧ restrN (Sg.map (·.1)) θ nm = θ nm := fun nm hm => ⟨(fitsS_mem hS nm).1 hm, (restr_in (σ := σ) hm).2⟩
 have hq : ∀ nm, nm ∉ Sg.map (·.1) → stOf Sg nm = .unused ∧ restrN (Sg.map (·.1)) θ nm = none := fun nm hm => ⟨(fitsS_mem hS nm).2 hm, (restr_out (σ := σ) hm).2⟩
 have hcl := (closedSt_iff _ _ _).1 hB2
 refine ⟨h.st.restr hp hq (fun nm hm row hrow => hcl nm hm row (by rw [(hp nm hm).1]; exact hrow)), fun t => ?_, h.sz, h.fr.drop (fun nm hn => (hasAll_iff _ _).1 hB3 nm (hpn nm hn)) hp hq, h.de.sub fun b hb => restr_live hp hq hb, h.dn⟩
 rcases fitsE_mem hE t with h1 | ⟨v, h1, h2, h3⟩
 · rw [h1]; exact .pure (.any _)
 · rw [h2]
   have := h.env t
   rw [h3] at this
   exact this.restr hp ((closedE_iff _ _).1 hB1 (t, v) h1)
theorem exists_min (p : Nat → Prop) (h : ∃ k, p k) : ∃ k, p k ∧ ∀ j, p j → k ≤ j := by
 obtain ⟨k, hk⟩ := h
 induction k using Nat.strongRecOn with
 | _ k ih =>
  by_cases hex : ∃ j, j < k ∧ p j
  · obtain ⟨j, hj, hp⟩ := hex
    exact ih j hj hp
  · refine ⟨k, hk, fun j hj => ?_⟩
    by_cases hjk : j < k
    · exact absurd ⟨j, hjk, hj⟩ hex
    · omega
theorem loop_ix {F0 : Fence} {c : Code} {Q : Exit → Act → World → Prop} {ι : Type} (I : ι → Act → World → Prop) (μ : ι → Nat) (i : ι) (h0 : I i a w)
  (round : ∀ i a w, I i a w → c.wpIn F0 0 P (Exit.then (fun a' w' => ∃ i', I i' a' w' ∧ μ i' < μ i) Q) a w) : (Code.loop c).wpIn F0 0 P Q a w := by
 have key : ∀ a w, ∃ k, (∃ i, I i a w) → (∃ i, I i a w ∧ μ i = k) ∧ ∀ i, I i a w → k ≤ μ i := by
  intro a w
  by_cases hex : ∃ i, I i a w
  · obtain ⟨i, hi⟩ := hex
    obtain ⟨k, hk, hmin⟩ := exists_min (fun k => ∃ i, I i a w ∧ μ i = k) ⟨μ i, i, hi, rfl⟩
    exact ⟨k, fun _ => ⟨hk, fun j hj => hmin _ ⟨j, hj, rfl⟩⟩⟩
  · exact ⟨0, fun h => absurd h hex⟩
 refine wpIn_loop (fun a w => ∃ i, I i a w) (fun a w => (key a w).choose) ⟨i, h0⟩ fun a w hI => ?_
 obtain ⟨⟨j, hj, hjk⟩, _⟩ := (key a w).choose_spec hI
 refine wpIn_mono (round j a w hj) fun e a' w' hq => ?_
 cases e <;> try exact hq
 obtain ⟨i', h1, h2⟩ := hq
 refine ⟨⟨i', h1⟩, ?_⟩
 have := ((key a' w').choose_spec ⟨i', h1⟩).2 i' h1
 show (key a' w').choose < (key a w).choose
 rw [← hjk]
 omega
theorem nvb_cur {j nm bn : Nat} {l0 : List V} (hst : Stable J) (h : Cur J l n s0 w S F θ σ g ρ a) (hb : σ bn = .box (.agg l0)) (hu : σ nm = .unused) (hj : l0[j]? = some (.sl .nil [])) :
  Cur J l n s0 w S F θ (ups (ups σ nm (.vec 0)) bn (.box (.agg (l0.set j (.sl (.own nm) []))))) g ρ a := by
 have hθ : θ nm = none := by have := h.st.hblk nm; rw [hu] at this; exact this
 have hne : bn ≠ nm := by intro e; rw [e, hu] at hb; cases hb
 have a2 : Fr w S F θ σ w S F θ (ups σ nm (.vec 0)) := Fr.fresh nm (.vec 0) hu hθ
 have h1 : Cur J l n s0 w S F θ (ups σ nm (.vec 0)) g ρ a := ⟨St.fresh hst h.st nm (.vec 0) hu (.inl ⟨hθ, rfl⟩), h.env.fr h.st a2, h.sz, h.fr.trans h.st a2, h.de.fr a2, h.dn⟩
 have hb1 : ups σ nm (.vec 0) bn = .box (.agg l0) := by rw [upt_ne σ _ hne]; exact hb
 have hk := h1.st.hblk bn
 rw [hb1] at hk
 obtain ⟨b, c, e, k1, k2, k3, k4⟩ := hk
 have hfr := Fr.write h1.st bn b (V.agg l0).cells.length c c e (.box (.agg (l0.set j (.sl (.own nm) [])))) (live_box hb1) k1 k2 rfl (by rw [hb1]; exact ⟨_, rfl⟩)
 have hst2 := St.write hst h1.st bn b (V.agg l0).cells.length c (.box (.agg (l0.set j (.sl (.own nm) [])))) (live_box hb1) k1 hfr (by
  have hfr' := hfr
  rw [setRow_self w b c e (0, 0) k2] at hfr' ⊢
  refine ⟨b, c, e, by rw [k1]; simp [V.cells], k2, ⟨by rw [k3.1]; simp [V.cells], k3.2⟩, fun q u hq => ?_⟩
  simp only [V.cells] at hq k4
  rw [List.getElem?_set] at hq
  by_cases hjq : j = q
  · subst hjq
    obtain ⟨y, hy, hr⟩ := k4 j _ hj
    refine ⟨y, hy, ?_⟩
    have hlt := (List.getElem?_eq_some_iff.1 hj).1
    rw [if_pos rfl, if_pos hlt] at hq
    injection hq with hq
    subst hq
    cases hr with
    | pure hp =>
     cases hp with
     | nilsl ad => exact .ownemp nm ad (by rw [upt_ne _ _ (Ne.symm hne), upt_self]; intro h; cases h)
  · rw [if_neg hjq] at hq
    obtain ⟨y, hy, hr⟩ := k4 q u hq
    exact ⟨y, hy, hr.fr hfr' h1.st⟩)
 rw [setRow_self w b c e (0, 0) k2] at hfr hst2
 exact ⟨hst2, h1.env.fr h1.st hfr, h1.sz, h1.fr.trans h1.st hfr, h1.de.fr hfr, h1.dn⟩
theorem nvs_cur {nm bn : Nat} (hst : Stable J) (h : Cur J l n s0 w S F θ σ g ρ a) (hb : σ bn = .box (.sl .nil [])) (hu : σ nm = .unused) :
  Cur J l n s0 w S F θ (ups (ups σ nm (.vec 0)) bn (.box (.sl (.own nm) []))) g ρ a := by
 have hθ : θ nm = none := by have := h.st.hblk nm; rw [hu] at this; exact this
 have hne : bn ≠ nm := by intro e; rw [e, hu] at hb; cases hb
 have a2 : Fr w S F θ σ w S F θ (ups σ nm (.vec 0)) := Fr.fresh nm (.vec 0) hu hθ
 have h1 : Cur J l n s0 w S F θ (ups σ nm (.vec 0)) g ρ a := ⟨St.fresh hst h.st nm (.vec 0) hu (.inl ⟨hθ, rfl⟩), h.env.fr h.st a2, h.sz, h.fr.trans h.st a2, h.de.fr a2, h.dn⟩
 have hb1 : ups σ nm (.vec 0) bn = .box (.sl .nil []) := by rw [upt_ne σ _ hne]; exact hb
 have hk := h1.st.hblk bn
 rw [hb1] at hk
 obtain ⟨b, c, e, k1, k2, k3, k4⟩ := hk
 have hfr := Fr.write h1.st bn b (V.sl .nil []).cells.length c c e (.box (.sl (.own nm) [])) (live_box hb1) k1 k2 rfl (by rw [hb1]; exact ⟨_, rfl⟩)
 have hst2 := St.write hst h1.st bn b (V.sl .nil []).cells.length c (.box (.sl (.own nm) [])) (live_box hb1) k1 hfr (by
  have hfr' := hfr
  rw [setRow_self w b c e (0, 0) k2] at hfr' ⊢
  refine ⟨b, c, e, k1, k2, k3, fun q u hq => ?_⟩
  simp only [V.cells] at hq k4
  cases q with
  | succ q => cases hq
  | zero =>
   cases hq
   obtain ⟨y, hy, hr⟩ := k4 0 _ rfl
   refine ⟨y, hy, ?_⟩
   cases hr with
   | pure hp =>
    cases hp with
    | nilsl ad => exact .ownemp nm ad (by rw [upt_ne _ _ (Ne.symm hne), upt_self]; intro h; cases h))
 rw [setRow_self w b c e (0, 0) k2] at hfr hst2
 exact ⟨hst2, h1.env.fr h1.st hfr, h1.sz, h1.fr.trans h1.st hfr, h1.de.fr hfr, h1.dn⟩
theorem tagb_cur {t bn : Nat} {l0 : List V} (hst : Stable J) (h : Cur J l n s0 w S F θ σ g ρ a) (ht : ρ t = .bptr bn 0) (hb : σ bn = .box (.agg l0)) :
  ∃ b, Cur J l n s0 w S F θ (ups σ bn (.box (.tag b l0))) g (upd ρ t (.raw b 0)) a := by
 have hk := h.st.hblk bn
 rw [hb] at hk
 obtain ⟨b, c, e, k1, k2, k3, k4⟩ := hk
 have hfr := Fr.write h.st bn b (V.agg l0).cells.length c c e (.box (.tag b l0)) (live_box hb) k1 k2 rfl (by rw [hb]; exact ⟨_, rfl⟩)
 have hst2 := St.write hst h.st bn b (V.agg l0).cells.length c (.box (.tag b l0)) (live_box hb) k1 hfr (by
  have hfr' := hfr
  rw [setRow_self w b c e (0, 0) k2] at hfr' ⊢
  exact ⟨b, c, e, k1, k2, ⟨k3.1, k3.2.1, rfl⟩, fun q u hq => by
   obtain ⟨y, hy, hr⟩ := k4 q u hq
   exact ⟨y, hy, hr.fr hfr' h.st⟩⟩)
 rw [setRow_self w b c e (0, 0) k2] at hfr hst2
 refine ⟨b, hst2, fun t' => ?_, h.sz, h.fr.trans h.st hfr, h.de.fr hfr, h.dn⟩
 by_cases e : t' = t
 · subst e
   rw [upd_self]
   have hr := h.env t'
   rw [ht] at hr
   suffices key : ∀ x, Rep w S θ σ l (.bptr bn 0) x → x = .pointer (some ⟨b, 0, none⟩) by
    rw [key _ hr]; exact .pure (.raw b 0)
   intro x hr
   cases hr with
   | pure hp => cases hp
   | bptr _ _ _ _ hn h1 =>
    obtain ⟨b2, m, hb2, e⟩ := h1 _ hb
    rw [k1] at hb2
    simp only [Option.some.injEq, Prod.mk.injEq] at hb2
    rw [hb2.1]; exact e
 · rw [upd_ne ρ _ e]; exact (h.env t').fr hfr h.st
theorem tagv_cur {vn bn : Nat} {l0 : List V} (hst : Stable J) (h : Cur J l n s0 w S F θ σ g ρ a) (hv : σ vn = .box (.bptr bn 0)) (hb : σ bn = .box (.agg l0)) :
  ∃ b, Cur J l n s0 w S F θ (ups (ups σ bn (.box (.tag b l0))) vn (.box (.raw b 0))) g ρ a := by
 have hk := h.st.hblk bn
 rw [hb] at hk
 obtain ⟨b, c, e, k1, k2, k3, k4⟩ := hk
 have hfr := Fr.write h.st bn b (V.agg l0).cells.length c c e (.box (.tag b l0)) (live_box hb) k1 k2 rfl (by rw [hb]; exact ⟨_, rfl⟩)
 have hst2 := St.write hst h.st bn b (V.agg l0).cells.length c (.box (.tag b l0)) (live_box hb) k1 hfr (by
  have hfr' := hfr
  rw [setRow_self w b c e (0, 0) k2] at hfr' ⊢
  exact ⟨b, c, e, k1, k2, ⟨k3.1, k3.2.1, rfl⟩, fun q u hq => by
   obtain ⟨y, hy, hr⟩ := k4 q u hq
   exact ⟨y, hy, hr.fr hfr' h.st⟩⟩)
 rw [setRow_self w b c e (0, 0) k2] at hfr hst2
 have hcur : Cur J l n s0 w S F θ (ups σ bn (.box (.tag b l0))) g ρ a := ⟨hst2, fun t' => (h.env t').fr hfr h.st, h.sz, h.fr.trans h.st hfr, h.de.fr hfr, h.dn⟩
 have hne : vn ≠ bn := fun e => by subst e; rw [hv] at hb; cases hb
 have hv1 : ups σ bn (.box (.tag b l0)) vn = .box (.bptr bn 0) := by
  unfold ups
  rw [show Nat.beq vn bn = false from by cases hbq : Nat.beq vn bn with
   | false => rfl
   | true => exact absurd (Nat.eq_of_beq_eq_true hbq) hne]
  exact hv
 have hb1 : ups σ bn (.box (.tag b l0)) bn = .box (.tag b l0) := by
  unfold ups
  rw [Nat.beq_refl]
  rfl
 have hk' := hcur.st.hblk vn
 rw [hv1] at hk'
 obtain ⟨b2, c2, e2, q1, q2, q3, q4⟩ := hk'
 have hfr2 := Fr.write hcur.st vn b2 (V.bptr bn 0).cells.length c2 c2 e2 (.box (.raw b 0)) (live_box hv1) q1 q2 rfl (by rw [hv1]; exact ⟨_, rfl⟩)
 have hst3 := St.write hst hcur.st vn b2 (V.bptr bn 0).cells.length c2 (.box (.raw b 0)) (live_box hv1) q1 hfr2 (by
  rw [setRow_self w b2 c2 e2 (0, 0) q2]
  refine ⟨b2, c2, e2, q1, q2, ⟨q3.1, q3.2.1, trivial⟩, fun q u hq => ?_⟩
  have hq0 : q = 0 ∧ u = .raw b 0 := by
   cases q with
   | zero => exact ⟨rfl, by simpa [V.cells] using hq.symm⟩
   | succ q => simp [V.cells] at hq
  obtain ⟨rfl, rfl⟩ := hq0
  obtain ⟨y, hy, hr⟩ := q4 0 (.bptr bn 0) rfl
  refine ⟨y, hy, ?_⟩
  suffices key : ∀ x, Rep w S θ (ups σ bn (.box (.tag b l0))) l (.bptr bn 0) x → x = .pointer (some ⟨b, 0, none⟩) by
   rw [key _ hr]; exact .pure (.raw b 0)
  intro x hr
  cases hr with
  | pure hp => cases hp
  | bptr _ _ _ _ hn h1 =>
   obtain ⟨b3, m, hb3, e⟩ := h1 _ hb1
   rw [k1] at hb3
   simp only [Option.some.injEq, Prod.mk.injEq] at hb3
   rw [hb3.1]; exact e)
 rw [setRow_self w b2 c2 e2 (0, 0) q2] at hfr2 hst3
 exact ⟨b, hst3, fun t' => (hcur.env t').fr hfr2 hcur.st, hcur.sz, hcur.fr.trans hcur.st hfr2, hcur.de.fr hfr2, hcur.dn⟩
theorem nvt_cur {t nm : Nat} {arr : Bool} (hst : Stable J) (h : Cur J l n s0 w S F θ σ g ρ a) (ht : ρ t = .sl .nil []) (hu : σ nm = .unused) :
  Cur J l n s0 w S F θ (ups σ nm (bif arr then .arr 0 [] else .vec 0)) g (upd ρ t (bif arr then .msl nm 0 0 0 else .sl (.own nm) [])) a := by
 have hθ : θ nm = none := by have := h.st.hblk nm; rw [hu] at this; exact this
 cases arr with
 | false =>
  have a2 : Fr w S F θ σ w S F θ (ups σ nm (.vec 0)) := Fr.fresh nm (.vec 0) hu hθ
  refine ⟨St.fresh hst h.st nm (.vec 0) hu (.inl ⟨hθ, rfl⟩), fun t' => ?_, h.sz, h.fr.trans h.st a2, h.de.fr a2, h.dn⟩
  by_cases e : t' = t
  · subst e
    rw [upd_self]
    have hr := h.env t'
    rw [ht] at hr
    suffices key : ∀ x, Rep w S θ σ l (.sl .nil []) x → Rep w S θ (ups σ nm (.vec 0)) l (.sl (.own nm) []) x from key _ hr
    intro x hr
    cases hr with
    | pure hp =>
     cases hp with
     | nilsl ad => exact .ownemp nm ad (by rw [upt_self]; intro h; cases h)
  · rw [upd_ne ρ _ e]; exact (h.env t').fr a2 h.st
 | true =>
  have a2 : Fr w S F θ σ w S F θ (ups σ nm (.arr 0 [])) := Fr.fresh nm (.arr 0 []) hu hθ
  refine ⟨St.fresh hst h.st nm (.arr 0 []) hu (.inl ⟨hθ, rfl⟩), fun t' => ?_, h.sz, h.fr.trans h.st a2, h.de.fr a2, h.dn⟩
  by_cases e : t' = t
  · subst e
    rw [upd_self]
    have hr := h.env t'
    rw [ht] at hr
    suffices key : ∀ x, Rep w S θ σ l (.sl .nil []) x → Rep w S θ (ups σ nm (.arr 0 [])) l (.msl nm 0 0 0) x from key _ hr
    intro x hr
    cases hr with
    | pure hp =>
     cases hp with
     | nilsl ad => exact .msl nm 0 0 0 _ rfl (by rw [upt_self]; intro h; cases h) (fun _ _ _ => Nat.zero_le _) (fun rows _ => .inr ⟨rfl, ad, rfl⟩)
  · rw [upd_ne ρ _ e]; exact (h.env t').fr a2 h.st
theorem own_freeze {nm : Nat} {rows : List V} {x : Value} (hr : Rep w S θ σ l (.sl (.own nm) rows) x) : RepP w (fun b => S b ∨ ∃ m, θ nm = some (b, m)) (.sl .p rows) x := by
 cases hr with
 | pure h1 => cases h1
 | own _ _ b off cap m ys hn hb hcap hwd hc hr hf =>
  refine .sl rows b off cap m ys ?_ hcap hwd hc (fun i j row v h1 h2 => (hr i j row v h1 h2).mono (fun _ _ => rfl) fun b hb => .inl hb)
  rcases hb with hb | ⟨m', k', h1, _, _⟩
  · exact .inl hb
  · exact .inr ⟨m', h1⟩
 | ownemp _ ad hn => exact .emp ad 0
theorem fzb_cur {j nm bn k : Nat} {l0 rows : List V} (hst : Stable J) (h : Cur J l n s0 w S F θ σ g ρ a) (hb : σ bn = .box (.agg l0)) (hu : σ nm = .vec k) (hj : l0[j]? = some (.sl (.own nm) rows)) :
  ∃ S', Cur J l n s0 w S' F θ (ups (ups σ nm .dead) bn (.box (.agg (l0.set j (.sl .p rows))))) g ρ a := by
 have hne : bn ≠ nm := by intro e; rw [e, hu] at hb; cases hb
 have a2 := Fr.freeze (w := w) (S := S) (F := F) (θ := θ) nm (live_vec hu)
 have h1 : Cur J l n s0 w (fun b => S b ∨ ∃ m, θ nm = some (b, m)) F θ (ups σ nm .dead) g ρ a := ⟨St.freeze hst h.st nm (live_vec hu), h.env.fr h.st a2, h.sz, h.fr.trans h.st a2, h.de.fr a2, h.dn⟩
 have hb1 : ups σ nm .dead bn = .box (.agg l0) := by rw [upt_ne σ _ hne]; exact hb
 have hk0 := h.st.hblk bn
 rw [hb] at hk0
 have hk := h1.st.hblk bn
 rw [hb1] at hk
 obtain ⟨b, c, e, k1, k2, k3, k4⟩ := hk
 obtain ⟨b0, c0, e0, q1, q2, q3, q4⟩ := hk0
 have eb : b0 = b := by rw [k1] at q1; simp at q1; exact q1.symm
 subst eb
 have ec : c0 = c := by rw [k2] at q2; simp at q2; exact q2.1.symm
 subst ec
 have hfr := Fr.write h1.st bn b0 (V.agg l0).cells.length c0 c0 e (.box (.agg (l0.set j (.sl .p rows)))) (live_box hb1) k1 k2 rfl (by rw [hb1]; exact ⟨_, rfl⟩)
 have hst2 := St.write hst h1.st bn b0 (V.agg l0).cells.length c0 (.box (.agg (l0.set j (.sl .p rows)))) (live_box hb1) k1 hfr (by
  have hfr' := hfr
  rw [setRow_self w b0 c0 e (0, 0) k2] at hfr' ⊢
  refine ⟨b0, c0, e, by rw [k1]; simp [V.cells], k2, ⟨by rw [k3.1]; simp [V.cells], k3.2⟩, fun q u hq => ?_⟩
  simp only [V.cells] at hq k4 q4
  rw [List.getElem?_set] at hq
  by_cases hjq : j = q
  · subst hjq
    obtain ⟨y, hy, hr⟩ := q4 j _ hj
    refine ⟨y, hy, ?_⟩
    have hlt := (List.getElem?_eq_some_iff.1 hj).1
    rw [if_pos rfl, if_pos hlt] at hq
    injection hq with hq
    subst hq
    exact .pure (own_freeze hr)
  · rw [if_neg hjq] at hq
    obtain ⟨y, hy, hr⟩ := k4 q u hq
    exact ⟨y, hy, hr.fr hfr' h1.st⟩)
 rw [setRow_self w b0 c0 e (0, 0) k2] at hfr hst2
 exact ⟨_, hst2, h1.env.fr h1.st hfr, h1.sz, h1.fr.trans h1.st hfr, h1.de.fr hfr, h1.dn⟩
theorem frzr_cur {nm nm2 b b2 nn cc j : Nat} {l0 l2 : List V} (hst : Stable J) (h : Cur J l n s0 w S F θ σ g ρ a) (hb : σ nm = .box (.tag b l0)) (hj : l0[j]? = some (.rsl b2 nn cc)) (hu : σ nm2 = .box (.tag b2 l2)) (hne : nm ≠ nm2) (hnl : nn ≤ l2.length) (hp : (l2.take nn).all (fun v => leafB v && pureB v) = true) :
  ∃ S', Cur J l n s0 w S' F θ (ups (ups σ nm2 .dead) nm (.box (.tag b (l0.set j (.sl .p (l2.take nn)))))) g ρ a := by
 have a2 := Fr.freeze (w := w) (S := S) (F := F) (θ := θ) nm2 (live_box hu)
 have hk2 := h.st.hblk nm2
 rw [hu] at hk2
 obtain ⟨b3, c3, e3, r2, r3, ⟨r4, r4t, r4g⟩, r5⟩ := hk2
 have eb3 : b2 = b3 := r4g
 subst eb3
 have h1 : Cur J l n s0 w (fun b => S b ∨ ∃ m, θ nm2 = some (b, m)) F θ (ups σ nm2 .dead) g ρ a := ⟨St.freeze hst h.st nm2 (live_box hu), h.env.fr h.st a2, h.sz, h.fr.trans h.st a2, h.de.fr a2, h.dn⟩
 have hb1 : ups σ nm2 .dead nm = .box (.tag b l0) := by rw [upt_ne σ _ hne]; exact hb
 have hk0 := h.st.hblk nm
 rw [hb] at hk0
 obtain ⟨b0, c0, e0, q1, q2, ⟨q3, q3t, q3g⟩, q4⟩ := hk0
 have eb0 : b = b0 := q3g
 subst eb0
 have hk := h1.st.hblk nm
 rw [hb1] at hk
 obtain ⟨b4, c4, e4, k1, k2, ⟨k3, k3t, k3g⟩, k4⟩ := hk
 have eb4 : b = b4 := k3g
 subst eb4
 have ec : c0 = c4 := by rw [k2] at q2; simp at q2; exact q2.1.symm
 subst ec
 have hfr := Fr.write h1.st nm b (V.tag b l0).cells.length c0 c0 e4 (.box (.tag b (l0.set j (.sl .p (l2.take nn))))) (live_box hb1) k1 k2 rfl (by rw [hb1]; exact ⟨_, rfl⟩)
 have hst2 := St.write hst h1.st nm b (V.tag b l0).cells.length c0 (.box (.tag b (l0.set j (.sl .p (l2.take nn))))) (live_box hb1) k1 hfr (by
  have hfr' := hfr
  rw [setRow_self w b c0 e4 (0, 0) k2] at hfr' ⊢
  refine ⟨b, c0, e4, by rw [k1]; simp [V.cells], k2, ⟨by rw [k3]; simp [V.cells], k3t, rfl⟩, fun q u hq => ?_⟩
  simp only [V.cells] at hq k4 q4
  rw [List.getElem?_set] at hq
  by_cases hjq : j = q
  · subst hjq
    obtain ⟨y, hy, hr⟩ := q4 j _ hj
    refine ⟨y, hy, ?_⟩
    have hlt := (List.getElem?_eq_some_iff.1 hj).1
    rw [if_pos rfl, if_pos hlt] at hq
    injection hq with hq
    subst hq
    obtain ⟨e1, hnc⟩ := hr.rsl_inv
    rw [e1]
    have hlen : (l2.take nn).length = nn := by simp; omega
    have hat : ∀ (i j : Nat) (row v : V), (l2.take nn)[i]? = some row → row.cells[j]? = some v → j = 0 ∧ l2[i]? = some v ∧ pureB v = true := by
     intro i j row v h6 h7
     have h8 := List.all_eq_true.1 hp row (mem_of_get h6)
     simp only [Bool.and_eq_true] at h8
     have hce : row.cells = [row] := by cases row <;> first | rfl | simp [leafB] at h8
     rw [hce] at h7
     rw [List.getElem?_take] at h6
     split at h6
     · cases j with
       | zero => cases h7; exact ⟨rfl, h6, h8.2⟩
       | succ j => cases h7
     · cases h6
    have := RepP.sl (w := w) (S := fun b => S b ∨ ∃ m, θ nm2 = some (b, m)) (l2.take nn) b2 0 cc 1 (fun i j => c3.getD i undef) (.inr ⟨_, r2⟩) (by omega)
     (fun row hr => by
       have h8 := List.all_eq_true.1 hp row hr
       simp only [Bool.and_eq_true] at h8
       cases row <;> first | rfl | simp [leafB] at h8)
     (fun i j row v h6 h7 => by
       obtain ⟨ej, h9, _⟩ := hat i j row v h6 h7
       obtain ⟨y2, hy2, _⟩ := r5 i v h9
       have hi := Array.getElem?_eq_some_iff.1 hy2
       have e2 : c3.getD i undef = y2 := by simp [Array.getD, hi.1, hi.2]
       rw [e2, cell_of_row w b2 _ c3 e3 _ r3, ej, Nat.zero_add, Nat.mul_one, Nat.add_zero]
       exact hy2)
     (fun i j row v h6 h7 => by
       obtain ⟨ej, h9, h10⟩ := hat i j row v h6 h7
       obtain ⟨y2, hy2, hr2⟩ := r5 i v h9
       have hi := Array.getElem?_eq_some_iff.1 hy2
       have e2 : c3.getD i undef = y2 := by simp [Array.getD, hi.1, hi.2]
       rw [e2]
       exact (hr2.toP h10).mono (fun _ _ => rfl) fun b hb => .inl hb)
    rw [hlen] at this
    exact .pure this
  · rw [if_neg hjq] at hq
    obtain ⟨y, hy, hr⟩ := k4 q u hq
    exact ⟨y, hy, hr.fr hfr' h1.st⟩)
 rw [setRow_self w b c0 e4 (0, 0) k2] at hfr hst2
 exact ⟨_, hst2, h1.env.fr h1.st hfr, h1.sz, h1.fr.trans h1.st hfr, h1.de.fr hfr, h1.dn⟩
end
structure FrN (w : World) (S : Nat → Prop) (θ : Names) (σ : Store) (w' : World) (S' : Nat → Prop) (θ' : Names) (σ' : Store) : Prop where
 size : w.heap.size ≤ w'.heap.size
 vecs : ∀ nm k b m, σ nm = .vec k → θ nm = some (b, m) → ∀ j, j < k * m → w'.cell? ⟨b, j, none⟩ = w.cell? ⟨b, j, none⟩
 smono : ∀ b, S b → S' b
 live : ∀ b, LiveB θ' σ' b → b < w.heap.size → LiveB θ σ b
 kdead : ∀ nm, σ nm = .dead → σ' nm = .dead
 kbox : ∀ nm row, σ nm = .box row → σ' nm = .dead ∨ ∃ row', σ' nm = .box row' ∧ θ' nm = θ nm
 karr : ∀ nm gen rows, σ nm = .arr gen rows → σ' nm = .dead ∨ ∃ gen' rows', σ' nm = .arr gen' rows' ∧ gen ≤ gen' ∧ (gen = gen' → θ' nm = θ nm ∧ rows.length ≤ rows'.length)
 kvec : ∀ nm k, σ nm = .vec k → (σ' nm = .dead ∧ ∀ b m, θ nm = some (b, m) → S' b) ∨
  ∃ k', σ' nm = .vec k' ∧ k ≤ k' ∧ (k = k' → θ' nm = θ nm) ∧ ∀ b m, θ nm = some (b, m) → θ' nm = some (b, m) ∨ S' b
 kmp : ∀ nm k ns vs, σ nm = .mp k ns vs → σ' nm = .dead ∨ ∃ k' ns' vs', σ' nm = .mp k' ns' vs' ∧ θ' nm = θ nm
section
variable {G : Type} {J : JT G} {w w' w'' : World} {S F S' F' S'' F'' : Nat → Prop} {θ θ' θ'' : Names} {σ σ' σ'' : Store} {l n : Nat} {g g' : G}
variable {P : Program} {o : Oper} {a : Act} {ρ : Env} {H : HT G} {s0 : Start}
theorem Fr.toN (h : Fr w S F θ σ w' S' F' θ' σ') : FrN w S θ σ w' S' θ' σ' := ⟨h.size, h.vecs, h.smono, h.live, h.kdead, h.kbox, h.karr, h.kvec, h.kmp⟩
theorem FrN.trans (h : FrN w S θ σ w' S' θ' σ') (hs : ∀ b, S' b → w''.heap[b]? = w'.heap[b]?) (k : FrN w' S' θ' σ' w'' S'' θ'' σ'') : FrN w S θ σ w'' S'' θ'' σ'' where
 size := Nat.le_trans h.size k.size
 vecs := fun nm q b m hq hb j hj => by
  have h1 := h.vecs nm q b m hq hb j hj
  rcases h.kvec nm q hq with ⟨_, hd⟩ | ⟨q', hq', hle, _, hθ⟩
  · exact (cell_of_heap (hs b (hd b m hb))).trans h1
  · rcases hθ b m hb with hθ | hS'
    · exact (k.vecs nm q' b m hq' hθ j (Nat.lt_of_lt_of_le hj (Nat.mul_le_mul_right m hle))).trans h1
    · exact (cell_of_heap (hs b hS')).trans h1
 smono := fun b hb => k.smono b (h.smono b hb)
 live := fun b hb hlt => h.live b (k.live b hb (Nat.lt_of_lt_of_le hlt h.size)) hlt
 kdead := fun nm hn => k.kdead nm (h.kdead nm hn)
 kbox := fun nm row hn => by
  rcases h.kbox nm row hn with h1 | ⟨row', h1, h2⟩
  · exact .inl (k.kdead nm h1)
  · rcases k.kbox nm row' h1 with h3 | ⟨row'', h3, h4⟩
    · exact .inl h3
    · exact .inr ⟨row'', h3, h4.trans h2⟩
 karr := fun nm gen rows hn => by
  rcases h.karr nm gen rows hn with h1 | ⟨gen', rows', h1, hle, h2⟩
  · exact .inl (k.kdead nm h1)
  · rcases k.karr nm gen' rows' h1 with h3 | ⟨gen'', rows'', h3, hle', h4⟩
    · exact .inl h3
    · refine .inr ⟨gen'', rows'', h3, Nat.le_trans hle hle', fun e => ?_⟩
      have e1 : gen = gen' := by omega
      have e2 : gen' = gen'' := by omega
      exact ⟨(h4 e2).1.trans (h2 e1).1, Nat.le_trans (h2 e1).2 (h4 e2).2⟩
 kvec := fun nm q hq => by
  rcases h.kvec nm q hq with ⟨h1, h2⟩ | ⟨q', h1, hle, h2, h3⟩
  · exact .inl ⟨k.kdead nm h1, fun b m hb => k.smono b (h2 b m hb)⟩
  · rcases k.kvec nm q' h1 with ⟨h4, h5⟩ | ⟨q'', h4, hle', h5, h6⟩
    · refine .inl ⟨h4, fun b m hb => ?_⟩
      rcases h3 b m hb with h7 | h7
      · exact h5 b m h7
      · exact k.smono b h7
    · refine .inr ⟨q'', h4, Nat.le_trans hle hle', fun e => ?_, fun b m hb => ?_⟩
      · have e1 : q = q' := by omega
        have e2 : q' = q'' := by omega
        exact (h5 e2).trans (h2 e1)
      · rcases h3 b m hb with h7 | h7
        · exact h6 b m h7
        · exact .inr (k.smono b h7)
 kmp := fun nm q ns vs hn => by
  rcases h.kmp nm q ns vs hn with h1 | ⟨q', ns', vs', h1, h2⟩
  · exact .inl (k.kdead nm h1)
  · rcases k.kmp nm q' ns' vs' h1 with h3 | ⟨q'', ns'', vs'', h3, h4⟩
    · exact .inl h3
    · exact .inr ⟨q'', ns'', vs'', h3, h4.trans h2⟩
theorem FrN.drop {pn : List Nat} (h : FrN w S θ σ w' S' θ' σ') (h0 : ∀ nm, σ nm ≠ .unused → nm ∈ pn) (hp : ∀ nm, nm ∈ pn → σ'' nm = σ' nm ∧ θ'' nm = θ' nm) (hq : ∀ nm, nm ∉ pn → σ'' nm = .unused ∧ θ'' nm = none) :
  FrN w S θ σ w' S' θ'' σ'' where
 size := h.size
 vecs := h.vecs
 smono := h.smono
 live := fun b hb hlt => h.live b (restr_live hp hq hb) hlt
 kdead := fun nm hn => by
  rw [(hp nm (h0 nm (by rw [hn]; intro hh; cases hh))).1]; exact h.kdead nm hn
 kbox := fun nm row hn => by
  obtain ⟨e1, e2⟩ := hp nm (h0 nm (by rw [hn]; intro hh; cases hh))
  rw [e1, e2]; exact h.kbox nm row hn
 karr := fun nm gen rows hn => by
  obtain ⟨e1, e2⟩ := hp nm (h0 nm (by rw [hn]; intro hh; cases hh))
  rw [e1, e2]; exact h.karr nm gen rows hn
 kvec := fun nm k hn => by
  obtain ⟨e1, e2⟩ := hp nm (h0 nm (by rw [hn]; intro hh; cases hh))
  rw [e1, e2]; exact h.kvec nm k hn
 kmp := fun nm k ns vs hn => by
  obtain ⟨e1, e2⟩ := hp nm (h0 nm (by rw [hn]; intro hh; cases hh))
  rw [e1, e2]; exact h.kmp nm k ns vs hn
structure Stays (w : World) (S F : Nat → Prop) (θ : Names) (σ : Store) (w' : World) (S' : Nat → Prop) : Prop where
 size : w.heap.size ≤ w'.heap.size
 os : w'.os = w.os
 tape : w'.tape = w.tape
 output : Out w w'
 same : ∀ b, S b ∨ F b ∨ LiveB θ σ b → w'.heap[b]? = w.heap[b]?
 sized : ∀ (b : Nat) (c : Array Value) (e : TypeId) (fr : Nat × Nat), w.heap[b]? = some (.cells c e fr) → ∃ (c' : Array Value) (fr' : Nat × Nat), w'.heap[b]? = some (.cells c' e fr') ∧ c'.size = c.size ∧ (fr' = fr ∨ S' b)
 smono : ∀ b, S b → S' b
 sok : ∀ b, S' b → b < w'.heap.size ∧ ¬ F b ∧ ¬ LiveB θ σ b
def noJ {G : Type} : JT G := fun _ _ _ _ => True
theorem Stays.fr (hs : St J w S F θ σ l g) (h : Stays w S F θ σ w' S') :
  St (noJ (G := G)) w S (fun b => b < w.heap.size ∧ ¬ S b ∧ ¬ LiveB θ σ b) θ σ l g ∧
  Fr w S (fun b => b < w.heap.size ∧ ¬ S b ∧ ¬ LiveB θ σ b) θ σ w' S' (fun b => b < w.heap.size ∧ ¬ S b ∧ ¬ LiveB θ σ b) θ σ := by
 refine ⟨⟨hs.hS, hs.hblk, hs.hinj, hs.hliveS, fun b hb => hb, trivial⟩, ?_⟩
 exact {
  size := h.size
  os := h.os
  tape := h.tape
  output := h.output
  same := fun b hb hl hF => by
   by_cases hS : S b
   · exact h.same b (.inl hS)
   · exact absurd ⟨hb, hS, hl⟩ hF
  sized := fun b c e fr hc => by
   obtain ⟨c', f, h3, h4, h5⟩ := h.sized b c e fr hc
   exact ⟨c', f, h3, h4, h5.imp id fun h6 => ⟨h6, (h.sok b h6).2.2⟩⟩
  vecs := fun nm k b m h1 h2 j hj => cell_of_heap (h.same b (.inr (.inr ⟨nm, m, live_vec h1, h2⟩)))
  smono := h.smono
  snew := fun b hb => by
   by_cases hS : S b
   · exact .inl hS
   · by_cases hL : LiveB θ σ b
     · exact .inr (.inl hL)
     · by_cases hlt : b < w.heap.size
       · exact .inr (.inr (.inl ⟨hlt, hS, hL⟩))
       · exact .inr (.inr (.inr (Nat.le_of_not_lt hlt)))
  live := fun _ h _ => h
  fsub := fun _ h _ => h
  kdead := fun _ h => h
  kbox := fun _ row h => .inr ⟨row, h, rfl⟩
  karr := fun _ gen rows h => .inr ⟨gen, rows, h, Nat.le_refl _, fun _ => ⟨rfl, Nat.le_refl _⟩⟩
  kvec := fun _ k h => .inr ⟨k, h, Nat.le_refl _, fun _ => rfl, fun _ _ h => .inl h⟩
  kmp := fun _ k ns vs h => .inr ⟨k, ns, vs, h, rfl⟩ }
theorem Stays.rep (hs : St J w S F θ σ l g) (h : Stays w S F θ σ w' S') {v : V} {x : Value} (hr : Rep w S θ σ l v x) : Rep w' S' θ σ l v x :=
 hr.fr (h.fr hs).2 (h.fr hs).1
theorem Stays.frN (hs : St J w S F θ σ l g) (h : Stays w S F θ σ w' S') : FrN w S θ σ w' S' θ σ := (h.fr hs).2.toN
theorem Stays.st (hst : Stable J) (hs : St J w S F θ σ l g) (h : Stays w S F θ σ w' S') : St J w' S' F θ σ l g := by
 obtain ⟨h1, h2⟩ := h.fr hs
 refine ⟨fun b hb => (h.sok b hb).1, fun nm => BlkOk.later h1 h2 nm rfl rfl fun b m h3 h4 => h.same b (.inr (.inr ⟨nm, m, h3, h4⟩)), hs.hinj, fun b hb hS => (h.sok b hS).2.2 hb, fun b hb => ?_, ?_⟩
 · obtain ⟨k1, k2, k3⟩ := hs.hF b hb
   exact ⟨Nat.lt_of_lt_of_le k1 h.size, fun hS => (h.sok b hS).2.1 hb, k3⟩
 · exact hst.2 g w S F w' S' hs.hJ hs.hS (fun b hb => (hs.hF b hb).1) (fun b hb => h.same b (by
    rcases hb with hb | hb
    · exact .inl hb
    · exact .inr (.inl hb))) h.smono h.size h.os h.tape h.output (fun b hb => ⟨(h.sok b hb).1, (h.sok b hb).2.1⟩) h.sized
theorem Stays.set (hs : St J w S F θ σ l g) {b0 : Nat} {ob : Obj} (h1 : w'.heap.size = w.heap.size) (h2 : ∀ b, b ≠ b0 → w'.heap[b]? = w.heap[b]?) (h3 : w.heap[b0]? = some ob) (h4 : ∀ c e fr, ob ≠ .cells c e fr) (h5 : w'.os = w.os) (h6 : w'.tape = w.tape) (h7 : Out w w')
  (hS : ¬ S b0) (hF : ¬ F b0) (hL : ¬ LiveB θ σ b0) : Stays w S F θ σ w' S where
 size := by omega
 os := h5
 tape := h6
 output := h7
 same := fun b hb => h2 b fun e => by
  subst e
  rcases hb with hb | hb | hb
  · exact hS hb
  · exact hF hb
  · exact hL hb
 sized := fun b c e fr hc => by
  by_cases eb : b = b0
  · subst eb
    rw [h3] at hc
    injection hc with hc
    exact absurd hc (h4 c e fr)
  · exact ⟨c, fr, by rw [h2 b eb]; exact hc, rfl, .inl rfl⟩
 smono := fun _ h => h
 sok := fun b hb => ⟨by have := hs.hS b hb; omega, fun hf => (hs.hF b hf).2.1 hb, fun hl => hs.hliveS b hl hb⟩
end
def WJ {G : Type} (J : JT G) (lr : Nat) (ob : Obj) : JT G := fun g w S F => ∃ F2 : Nat → Prop, (∀ b, F b ↔ F2 b ∨ b = lr) ∧ J g w S F2 ∧ ¬ F2 lr ∧ w.heap[lr]? = some ob
section
variable {G : Type} {J : JT G} {w w' w'' : World} {S F S' F' S'' F'' : Nat → Prop} {θ θ' θ'' : Names} {σ σ' σ'' : Store} {l n : Nat} {g g' : G}
variable {P : Program} {o : Oper} {a : Act} {ρ : Env} {H : HT G} {s0 : Start} {lr : Nat} {ob : Obj}
theorem WJ.stable (hst : Stable J) : Stable (WJ J lr ob) := by
 refine ⟨fun g w S F ⟨F2, _, h2, _⟩ => hst.1 g w S F2 h2, ?_⟩
 rintro g w S F w' S' ⟨F2, h1, h2, h3, h4⟩ hS hF hsame hmono hsize hos htape hout hsok hsized
 refine ⟨F2, h1, hst.2 g w S F2 w' S' h2 hS (fun b hb => hF b ((h1 b).2 (.inl hb))) (fun b hb => hsame b (by
  rcases hb with hb | hb
  · exact .inl hb
  · exact .inr ((h1 b).2 (.inl hb)))) hmono hsize hos htape hout (fun b hb => ⟨(hsok b hb).1, fun hf => (hsok b hb).2 ((h1 b).2 (.inl hf))⟩) hsized, h3, ?_⟩
 rw [hsame lr (.inr ((h1 lr).2 (.inr rfl)))]
 exact h4
theorem WJ.out (hs : St (WJ J lr ob) w S F θ σ l g) : ∃ F2 : Nat → Prop, (∀ b, F b ↔ F2 b ∨ b = lr) ∧ ¬ F2 lr ∧ w.heap[lr]? = some ob ∧ St J w S F2 θ σ l g ∧ ¬ S lr ∧ ¬ LiveB θ σ lr := by
 obtain ⟨F2, h1, h2, h3, h4⟩ := hs.hJ
 have hlr := hs.hF lr ((h1 lr).2 (.inr rfl))
 exact ⟨F2, h1, h3, h4, ⟨hs.hS, hs.hblk, hs.hinj, hs.hliveS, fun b hb => hs.hF b ((h1 b).2 (.inl hb)), h2⟩, hlr.2.1, hlr.2.2⟩
theorem WJ.into (hs : St J w S F θ σ l g) (h3 : ¬ F lr) (h4 : w.heap[lr]? = some ob) (hS : ¬ S lr) (hL : ¬ LiveB θ σ lr) : St (WJ J lr ob) w S (fun b => F b ∨ b = lr) θ σ l g :=
 ⟨hs.hS, hs.hblk, hs.hinj, hs.hliveS, fun b hb => by
  rcases hb with hb | rfl
  · exact hs.hF b hb
  · exact ⟨(Array.getElem?_eq_some_iff.1 h4).1, hS, hL⟩, F, fun b => Iff.rfl, hs.hJ, h3, h4⟩
theorem WJ.hok (hH : HokS P J H l) : HokS P (WJ J lr ob) H l := by
 intro args xs g w S F K hs ha hh
 obtain ⟨F2, h1, h2, h3, h4, h5, h6⟩ := WJ.out hs
 obtain ⟨lf, tmps, asg, body, hy, hr⟩ := hH args xs g w S F2 K h4 ha hh
 refine ⟨lf, tmps, asg, body, hy, hr.mono fun e w' he => ?_⟩
 obtain ⟨r, x', g', S', F', e1, hk, hrep, hs', hfr⟩ := he
 have hlt := (Array.getElem?_eq_some_iff.1 h3).1
 have hn : ¬ F' lr := fun hf => h2 (hfr.fsub lr hf hlt)
 have hS' : ¬ S' lr := fun hS => by
  rcases hfr.snew lr hS with k | ⟨nm, m, k, _⟩ | k | k
  · exact h5 k
  · exact k
  · exact h2 k
  · omega
 have hL' : ¬ LiveB θ0 σ0 lr := fun ⟨nm, m, k, _⟩ => k
 have hc : w'.heap[lr]? = some ob := by rw [hfr.same lr hlt hL' h2]; exact h3
 refine ⟨r, x', g', S', fun b => F' b ∨ b = lr, e1, hk, hrep, WJ.into hs' hn hc hS' hL', ?_⟩
 exact {
  size := hfr.size
  os := hfr.os
  tape := hfr.tape
  output := hfr.output
  same := fun b hb hl hF => hfr.same b hb hl (fun h => hF ((h1 b).2 (.inl h)))
  sized := hfr.sized
  vecs := hfr.vecs
  smono := hfr.smono
  snew := fun b hb => by
   rcases hfr.snew b hb with k | k | k | k
   · exact .inl k
   · exact .inr (.inl k)
   · exact .inr (.inr (.inl ((h1 b).2 (.inl k))))
   · exact .inr (.inr (.inr k))
  live := hfr.live
  fsub := fun b hb hlt => by
   rcases hb with hb | rfl
   · exact (h1 b).2 (.inl (hfr.fsub b hb hlt))
   · exact (h1 b).2 (.inr rfl)
  kdead := hfr.kdead
  kbox := hfr.kbox
  karr := hfr.karr
  kvec := hfr.kvec
  kmp := hfr.kmp }
theorem WJ.put (hst : Stable J) (hnc : ∀ c e fr, ob ≠ .cells c e fr) (ob' : Obj) (h : Cur (WJ J lr ob) l n s0 w S F θ σ g ρ a) (hlrF : s0.F lr ∨ s0.w.heap.size ≤ lr) : Cur (WJ J lr ob') l n s0 (w.putObj lr ob') S F θ σ g ρ a := by
 obtain ⟨F2, h1, h2, h3, h4, h5, h6⟩ := WJ.out h.st
 have hlt := (Array.getElem?_eq_some_iff.1 h3).1
 have hsz : (w.putObj lr ob').heap.size = w.heap.size := by simp [World.putObj]
 have hstay : Stays w S F2 θ σ (w.putObj lr ob') S := Stays.set h4 hsz (fun b hb => World.putObj_heap_other hb) h3 hnc rfl rfl (Out.refl _) h5 h2 h6
 have hs' := hstay.st hst h4
 have hs2 := WJ.into (ob := ob') hs' h2 (World.putObj_heap_same hlt) h5 h6
 have hF : F = fun b => F2 b ∨ b = lr := funext fun b => propext (h1 b)
 have hlrF' : F lr := (h1 lr).2 (.inr rfl)
 refine ⟨by rw [hF]; exact hs2, fun t => hstay.rep h4 (h.env t), h.sz, ?_, ?_, h.dn⟩
 · have k := h.fr
   exact {
    size := by rw [hsz]; exact k.size
    os := k.os
    tape := k.tape
    output := k.output
    same := fun b hb hl hFb => by
     rw [World.putObj_heap_other (fun e => by
      subst e
      rcases hlrF with h | h
      · exact hFb h
      · omega)]
     exact k.same b hb hl hFb
    sized := fun b c e fr hc => by
     obtain ⟨c', f1, h7, h8, h7'⟩ := k.sized b c e fr hc
     obtain ⟨c'', f2, h9, h10, h9'⟩ := hstay.sized b c' e f1 h7
     refine ⟨c'', f2, h9, h10.trans h8, ?_⟩
     rcases h9' with rfl | h9'
     · exact h7'
     · exact .inr ⟨h9', fun hl => h.st.hliveS b hl h9'⟩
    vecs := fun nm q b m h7 h8 j hj => by
     have h9 := k.vecs nm q b m h7 h8 j hj
     rw [← h9]
     refine cell_of_heap (World.putObj_heap_other fun e => ?_)
     subst e
     rcases k.kvec nm q h7 with ⟨_, hd⟩ | ⟨q', h10, _, _, h11⟩
     · exact h5 (hd b m h8)
     · rcases h11 b m h8 with h12 | h12
       · exact h6 ⟨nm, m, live_vec h10, h12⟩
       · exact h5 h12
    smono := k.smono
    snew := k.snew
    live := k.live
    fsub := k.fsub
    kdead := k.kdead
    kbox := k.kbox
    karr := k.karr
    kvec := k.kvec
    kmp := k.kmp }
 · have key : ∀ ds : List Deferred, DefOk w S F θ σ ds → DefOk (w.putObj lr ob') S F θ σ ds := by
    intro ds
    induction ds with
    | nil => intro _; trivial
    | cons d ds ih =>
     rintro ⟨⟨r, k1, k2, k3, k4, k5, k6⟩, k7⟩
     exact ⟨⟨r, k1, by rw [World.putObj_heap_other (fun e => k4 (by rw [e]; exact hlrF'))]; exact k2, k3, k4, k5, k6⟩, ih k7⟩
   exact key _ h.de
end
def Sound {G : Type} (P : Program) (H : HT G) (n : Nat) (r : Bool) (c : Cmd) (code : Code) : Prop :=
 ∀ (J : JT G) (l : Nat), Stable J → MonoH H → HokS P J H l → ∀ (ro : Option Nat), (r = false → ro = none) → ∀ (pn : List Nat) (ρ : Env) (σ : Store) (g : G) (Q : Exit → Env → Store → G → Prop) (s0 : Start) (w : World) (S F : Nat → Prop) (θ : Names) (a : Act),
   (∀ nm, s0.σ nm ≠ .unused → nm ∈ pn) → Cur J l n s0 w S F θ σ g ρ a → AW P H pn c ρ σ g Q → code.wpIn (wf ro) 0 P (PostA J l n s0 Q) a w
structure RP where
 l : Nat
 r : Nat
 fn : FuncId
 tmps : Array Value
 qs : Array Tmp
 asg : Code
 body : Code
 E : List (Nat × V)
 wo : List Nat
 wB : World
 SB : Nat → Prop
 FB : Nat → Prop
 θB : Names
 σB : Store
def RP.rc (R : RP) (s : LoopState) (p : Option Code) : Loop := { state := s, pending := p, fn := R.fn, tmps := R.tmps, params := R.qs, assign := R.asg, body := R.body, defers := R.r }
def pend : Option Exit → Option Code
 | some .ret => some .ret
 | some (.exit id) => some (.exit id)
 | _ => none
def lst (e : Option Exit) : LoopState := if e.isNone then .ready else .done
structure RJc {G : Type} (J : JT G) (l : Nat) (R : RP) (st : Store × G × Option Exit) (w : World) (S F : Nat → Prop) (θ2 : Names) (F2 : Nat → Prop) : Prop where
 st2 : St J w S F2 θ2 st.1 l st.2.1
 hFe : ∀ b, F b ↔ F2 b ∨ LiveB θ2 st.1 b ∨ b = R.l ∨ b = R.r
 hl : ¬ S R.l ∧ ¬ F2 R.l ∧ ¬ LiveB θ2 st.1 R.l
 hr : ¬ S R.r ∧ ¬ F2 R.r ∧ ¬ LiveB θ2 st.1 R.r
 hlo : w.heap[R.l]? = some (.loop (R.rc (lst st.2.2) (pend st.2.2)))
 hde : w.heap[R.r]? = some (.deferred (some []))
 env : ∀ t, Rep w S θ2 st.1 l (envOf R.E t) (R.tmps.getD t undef)
 frn : FrN R.wB R.SB R.θB R.σB w S θ2 st.1
 fsub : ∀ b, F2 b → b < R.wB.heap.size → R.FB b
 hwo : ∀ nm, nm ∉ R.wo → st.1 nm = .unused
 ex : ∀ e, st.2.2 = some e → e = .ret ∨ ∃ id, e = .exit id
def RJ {G : Type} (J : JT G) (l : Nat) (R : RP) : JT (Store × G × Option Exit) := fun st w S F => ∃ θ2 F2, RJc J l R st w S F θ2 F2
def RH {G : Type} (P : Program) (H : HT G) (wo : List Nat) (ca cb : Cmd) (ps : List Nat) (E : List (Nat × V)) : HT (Store × G × Option Exit) :=
 fun args st K => Nat.beq args.length ps.length = true ∧ st.2.2 = none ∧ AW P H wo ca (bindAll ps args (envOf E)) st.1 st.2.1 fun e ρ1 σ1 g1 => match e with
  | .normal => AW P H wo cb ρ1 σ1 g1 fun e _ σ2 g2 => closedSt wo σ2 wo = true ∧ (match e with
    | .normal => K (.bool true) (restr wo σ2, g2, none)
    | e => K (.bool false) (restr wo σ2, g2, some e))
  | _ => False
section
variable {G : Type} {J : JT G} {w w' w'' : World} {S F S' F' S'' F'' : Nat → Prop} {θ θ' θ'' : Names} {σ σ' σ'' : Store} {l n : Nat} {g g' : G}
variable {P : Program} {o : Oper} {a : Act} {ρ : Env} {H : HT G} {s0 : Start} {R : RP}
theorem RJ.stable (hst : Stable J) : Stable (RJ J l R) := by
 refine ⟨fun st w S F ⟨θ2, F2, h⟩ => hst.1 _ _ _ _ h.st2.hJ, ?_⟩
 rintro st w S F w' S' ⟨θ2, F2, h⟩ hS hF hsame hmono hsize hos htape hout hsok hsized
 have hstay : Stays w S F2 θ2 st.1 w' S' := {
  size := hsize
  os := hos
  tape := htape
  output := hout
  same := fun b hb => hsame b (by
   rcases hb with hb | hb | hb
   · exact .inl hb
   · exact .inr ((h.hFe b).2 (.inl hb))
   · exact .inr ((h.hFe b).2 (.inr (.inl hb))))
  sized := hsized
  smono := hmono
  sok := fun b hb => ⟨(hsok b hb).1, fun hf => (hsok b hb).2 ((h.hFe b).2 (.inl hf)), fun hl => (hsok b hb).2 ((h.hFe b).2 (.inr (.inl hl)))⟩ }
 refine ⟨θ2, F2, {
  st2 := hstay.st hst h.st2
  hFe := h.hFe
  hl := ⟨fun hb => (hsok _ hb).2 ((h.hFe _).2 (.inr (.inr (.inl rfl)))), h.hl.2⟩
  hr := ⟨fun hb => (hsok _ hb).2 ((h.hFe _).2 (.inr (.inr (.inr rfl)))), h.hr.2⟩
  hlo := by rw [hsame _ (.inr ((h.hFe _).2 (.inr (.inr (.inl rfl)))))]; exact h.hlo
  hde := by rw [hsame _ (.inr ((h.hFe _).2 (.inr (.inr (.inr rfl)))))]; exact h.hde
  env := fun t => hstay.rep h.st2 (h.env t)
  frn := h.frn.trans (fun b hb => hsame b (.inl hb)) (hstay.frN h.st2)
  fsub := h.fsub
  hwo := h.hwo
  ex := h.ex }⟩
theorem bind_env : ∀ (ps : List Nat) (vs : List V) (xs : List Value) (ρ : Env) (tmps : Array Value), (∀ t, Rep w S θ σ l (ρ t) (tmps.getD t undef)) → vs.length = ps.length → Reps (RepP w S) vs xs → (∀ p ∈ ps, p < n) → n ≤ tmps.size →
  (∀ t, Rep w S θ σ l (bindAll ps vs ρ t) (((ps.zip xs).foldl (fun (tmps : Array Value) (p : Nat × Value) => tmps.setIfInBounds p.1 p.2) tmps).getD t undef)) ∧
    ((ps.zip xs).foldl (fun (tmps : Array Value) (p : Nat × Value) => tmps.setIfInBounds p.1 p.2) tmps).size = tmps.size
 | [], vs, xs, ρ, tmps, he, hl, hr, hp, hn => by
  have : vs = [] := List.eq_nil_of_length_eq_zero hl
  subst this
  exact ⟨he, rfl⟩
 | p :: ps, [], xs, ρ, tmps, he, hl, hr, hp, hn => by simp at hl
 | p :: ps, v :: vs, [], ρ, tmps, he, hl, hr, hp, hn => by have := hr.1; simp at this
 | p :: ps, v :: vs, x :: xs, ρ, tmps, he, hl, hr, hp, hn => by
  have hx : RepP w S v x := hr.2 0 v x rfl rfl
  have hput := EnvRep.put (n := n) (a := ⟨tmps, []⟩) (dst := some p) (d := some p) (x := x) he (by
   have := hp p (by simp)
   simp [chkDst, Nat.blt_eq, this]) hn (.pure hx)
  obtain ⟨h1, h2⟩ := bind_env ps vs xs (upd ρ p v) (tmps.setIfInBounds p x) hput (by simpa using hl) ⟨by have := hr.1; simpa using this, fun i v x h1 h2 => hr.2 (i + 1) v x (by simpa using h1) (by simpa using h2)⟩ (fun q hq => hp q (by simp [hq])) (by simpa using hn)
  exact ⟨h1, by rw [show ((p :: ps).zip (x :: xs)) = (p, x) :: ps.zip xs from rfl, List.foldl_cons, h2]; simp⟩
theorem envOf_closed {pn : List Nat} {E : List (Nat × V)} (h : closedE pn E = true) (t : Nat) : closedB pn (envOf E t) = true := by
 induction E with
 | nil => rfl
 | cons p r ih =>
  obtain ⟨d, v⟩ := p
  simp only [closedE, Bool.and_eq_true] at h
  simp only [envOf]
  cases Nat.beq t d with
  | true => exact h.1
  | false => exact ih h.2
end
section
variable {G : Type} {J : JT G} {w w' w'' : World} {S F S' F' S'' F'' : Nat → Prop} {θ θ' θ'' : Names} {σ σ' σ'' : Store} {l n : Nat} {g g' : G}
variable {P : Program} {o : Oper} {a : Act} {ρ : Env} {H : HT G} {s0 : Start} {R : RP}
theorem round_end {st : Store × G × Option Exit} {θ2 : Names} {F2 : Nat → Prop} {w3 : World} {S3 F3 : Nat → Prop} {θ3 : Names} {σ3 : Store} {g3 : G} {ρ3 : Env} {a3 : Act} {ob : Obj} (e' : Option Exit) (hst : Stable J)
  (h : RJc J l R st w S F θ2 F2) (hncOb : ∀ c e fr, ob ≠ .cells c e fr) (hne : R.l ≠ R.r) (hB : ∀ nm, R.σB nm ≠ .unused → nm ∈ R.wo) (hE : closedE R.wo R.E = true)
  (hSt : St (WJ J R.l (.loop (R.rc .ready none))) w S (fun b => F2 b ∨ b = R.l) θ2 st.1 l st.2.1)
  (hc : Cur (WJ J R.l ob) l n ⟨w, S, fun b => F2 b ∨ b = R.l, θ2, st.1⟩ w3 S3 F3 θ3 σ3 g3 ρ3 a3) (hcl : closedSt R.wo σ3 R.wo = true) (hex : ∀ e, e' = some e → e = .ret ∨ ∃ id, e = .exit id) :
  ∃ F4, RJ J l R (restr R.wo σ3, g3, e') (w3.putObj R.l (.loop (R.rc (lst e') (pend e')))) S3 F4 ∧
    St (RJ J l R) (w3.putObj R.l (.loop (R.rc (lst e') (pend e')))) S3 F4 θ0 σ0 R.l (restr R.wo σ3, g3, e') ∧
    Fr w S F θ0 σ0 (w3.putObj R.l (.loop (R.rc (lst e') (pend e')))) S3 F4 θ0 σ0 := by
 have k := hc.fr
 obtain ⟨F2', q1, q2, q3, q4, q5, q6⟩ := WJ.out hc.st
 have hlt := (Array.getElem?_eq_some_iff.1 q3).1
 obtain ⟨w4, hw4⟩ : ∃ w4, w4 = w3.putObj R.l (.loop (R.rc (lst e') (pend e'))) := ⟨_, rfl⟩
 rw [← hw4]
 have hsz : w4.heap.size = w3.heap.size := by rw [hw4]; simp
 have hother : ∀ b, b ≠ R.l → w4.heap[b]? = w3.heap[b]? := fun b hb => by rw [hw4]; exact World.putObj_heap_other hb
 have hthere : w4.heap[R.l]? = some (.loop (R.rc (lst e') (pend e'))) := by rw [hw4]; exact World.putObj_heap_same hlt
 have hrlt := (Array.getElem?_eq_some_iff.1 h.hde).1
 have hllt := (Array.getElem?_eq_some_iff.1 h.hlo).1
 have hclm := (closedSt_iff _ _ _).1 hcl
 have hs3 : St J w3 S3 F2' (restrN R.wo θ3) (restr R.wo σ3) l g3 := q4.restr (fun nm hm => restr_in hm) (fun nm hm => restr_out hm) (fun nm hm row hrow => hclm nm hm row hrow)
 have hL3 : ∀ b, LiveB (restrN R.wo θ3) (restr R.wo σ3) b → LiveB θ3 σ3 b := fun b hb => restr_live (fun nm hm => restr_in hm) (fun nm hm => restr_out hm) hb
 have hstay : Stays w3 S3 F2' (restrN R.wo θ3) (restr R.wo σ3) w4 S3 := Stays.set hs3 hsz hother q3 hncOb (by rw [hw4]; rfl) (by rw [hw4]; rfl) (by rw [hw4]; exact Out.refl _) q5 q2 (fun hl => q6 (hL3 _ hl))
 have hs4 := hstay.st hst hs3
 have hrF : ¬ F3 R.r := fun hf => by
  rcases k.fsub R.r hf hrlt with h1 | h1
  · exact h.hr.2.1 h1
  · exact hne h1.symm
 have hrS : ¬ S3 R.r := fun hS => by
  rcases k.snew R.r hS with h1 | h1 | h1 | h1
  · exact h.hr.1 h1
  · exact h.hr.2.2 h1
  · rcases h1 with h1 | h1
    · exact h.hr.2.1 h1
    · exact hne h1.symm
  · simp only at h1; omega
 have hrL : ¬ LiveB θ3 σ3 R.r := fun hl => h.hr.2.2 (k.live R.r hl hrlt)
 have hrc : w4.heap[R.r]? = some (.deferred (some [])) := by
  rw [hother R.r (fun e => hne e.symm), k.same R.r hrlt h.hr.2.2 (fun hf => by
   rcases hf with h1 | h1
   · exact h.hr.2.1 h1
   · exact hne h1.symm)]
  exact h.hde
 have hfsub : ∀ b, F2' b → b < w.heap.size → F2 b := fun b hb hlt => by
  rcases k.fsub b ((q1 b).2 (.inl hb)) hlt with h1 | h1
  · exact h1
  · rw [h1] at hb; exact absurd hb q2
 obtain ⟨F4, hF4⟩ : ∃ F4 : Nat → Prop, F4 = fun b => F2' b ∨ LiveB (restrN R.wo θ3) (restr R.wo σ3) b ∨ b = R.l ∨ b = R.r := ⟨_, rfl⟩
 have hRJ : RJ J l R (restr R.wo σ3, g3, e') w4 S3 F4 := ⟨restrN R.wo θ3, F2', {
  st2 := hs4
  hFe := fun b => by rw [hF4]
  hl := ⟨q5, q2, fun hl => q6 (hL3 _ hl)⟩
  hr := ⟨hrS, fun hf => hrF ((q1 _).2 (.inl hf)), fun hl => hrL (hL3 _ hl)⟩
  hlo := hthere
  hde := hrc
  env := fun t => hstay.rep hs3 (((h.env t).fr k hSt).restr (fun nm hm => restr_in hm) (envOf_closed hE t))
  frn := ((h.frn.trans (fun b hb => k.stable hSt b hb) k.toN).drop hB (fun nm hm => restr_in hm) (fun nm hm => restr_out hm)).trans (fun b hb => hstay.same b (.inl hb)) (hstay.frN hs3)
  fsub := fun b hb hlt => h.fsub b (hfsub b hb (Nat.lt_of_lt_of_le hlt h.frn.size)) hlt
  hwo := fun nm hm => (restr_out (θ := θ3) hm).1
  ex := hex }⟩
 refine ⟨F4, hRJ, ⟨hs4.hS, fun nm => rfl, fun nm _ _ _ _ h1 => h1.elim, fun b hb => by obtain ⟨nm, m, h1, _⟩ := hb; exact h1.elim, fun b hb => ?_, hRJ⟩, ?_⟩
 · rw [hF4] at hb
   have hno : ¬ LiveB θ0 σ0 b := fun ⟨nm, m, h1, _⟩ => h1
   rcases hb with hb | hb | rfl | rfl
   · obtain ⟨a1, a2, _⟩ := hs4.hF b hb; exact ⟨a1, a2, hno⟩
   · obtain ⟨nm, m, b1, b2⟩ := hb
     exact ⟨live_lt hs4 b1 b2, hs4.hliveS b ⟨nm, m, b1, b2⟩, hno⟩
   · exact ⟨by omega, q5, hno⟩
   · exact ⟨(Array.getElem?_eq_some_iff.1 hrc).1, hrS, hno⟩
 · exact {
    size := by rw [hsz]; exact k.size
    os := by rw [hw4]; exact k.os
    tape := by rw [hw4]; exact k.tape
    output := by rw [hw4]; exact k.output
    same := fun b hb _ hF => by
     rw [hother b (fun e => hF ((h.hFe b).2 (.inr (.inr (.inl e)))))]
     exact k.same b hb (fun hl => hF ((h.hFe b).2 (.inr (.inl hl)))) (fun hf => by
      rcases hf with hf | hf
      · exact hF ((h.hFe b).2 (.inl hf))
      · exact hF ((h.hFe b).2 (.inr (.inr (.inl hf)))))
    sized := fun b c e fr hcc => by
     obtain ⟨c', f1, h1, h2, h1'⟩ := k.sized b c e fr hcc
     obtain ⟨c'', f2, h3, h4, h3'⟩ := hstay.sized b c' e f1 h1
     refine ⟨c'', f2, h3, h4.trans h2, ?_⟩
     rcases h3' with rfl | h3'
     · exact h1'.imp id fun h5 => ⟨h5.1, fun ⟨nm, m, h6, _⟩ => h6⟩
     · exact .inr ⟨h3', fun ⟨nm, m, h6, _⟩ => h6⟩
    vecs := fun nm q b m h1 => by cases h1
    smono := k.smono
    snew := fun b hb => by
     rcases k.snew b hb with h1 | h1 | h1 | h1
     · exact .inl h1
     · exact .inr (.inr (.inl ((h.hFe b).2 (.inr (.inl h1)))))
     · refine .inr (.inr (.inl ((h.hFe b).2 ?_)))
       rcases h1 with h1 | h1
       · exact .inl h1
       · exact .inr (.inr (.inl h1))
     · exact .inr (.inr (.inr h1))
    live := fun b hb _ => hb
    fsub := fun b hb hlt => by
     rw [hF4] at hb
     rcases hb with hb | hb | rfl | rfl
     · exact (h.hFe b).2 (.inl (hfsub b hb hlt))
     · exact (h.hFe b).2 (.inr (.inl (k.live b (hL3 b hb) hlt)))
     · exact (h.hFe _).2 (.inr (.inr (.inl rfl)))
     · exact (h.hFe _).2 (.inr (.inr (.inr rfl)))
    kdead := fun nm h1 => by cases h1
    kbox := fun nm row h1 => by cases h1
    karr := fun nm gen rows h1 => by cases h1
    kvec := fun nm k h1 => by cases h1
    kmp := fun nm k ns vs h1 => by cases h1 }
theorem round_hok {ca cb : Cmd} {ps : List Nat} (hst : Stable J) (hM : MonoH H) (hH : HokS P J H l) (ha : Sound P H n true ca R.asg) (hb : Sound P H n true cb R.body)
  (hps : ps = R.qs.toList) (hpn : ∀ p ∈ ps, p < n) (hn : n ≤ R.tmps.size) (hne : R.l ≠ R.r) (hB : ∀ nm, R.σB nm ≠ .unused → nm ∈ R.wo) (hE : closedE R.wo R.E = true) :
  HokS P (RJ J l R) (RH P H R.wo ca cb ps R.E) R.l := by
 rintro args xs st w S F K hs0 hargs ⟨hlen, hnone, hAW⟩
 obtain ⟨θ2, F2, h⟩ := hs0.hJ
 have hlo := h.hlo
 rw [hnone] at hlo
 have elen := Nat.eq_of_beq_eq_true hlen
 have hxl : xs.length = ps.length := by rw [← hargs.1]; exact elen
 have hy := run_yield (P := P) (args := xs.toArray) hlo (by simp only [RP.rc, List.size_toArray]; rw [hxl, hps]; simp)
 have hst2 : St J w S F2 θ2 st.1 l st.2.1 := h.st2
 have hWs : St (WJ J R.l (.loop (R.rc .ready none))) w S (fun b => F2 b ∨ b = R.l) θ2 st.1 l st.2.1 := WJ.into hst2 h.hl.2.1 hlo h.hl.1 h.hl.2.2
 obtain ⟨be1, be2⟩ := bind_env ps args xs (envOf R.E) R.tmps h.env elen hargs hpn hn
 have etm : (R.qs.zip xs.toArray).foldl (fun (tmps : Array Value) (p : Tmp × Value) => tmps.setIfInBounds p.1 p.2) R.tmps = (ps.zip xs).foldl (fun (tmps : Array Value) (p : Nat × Value) => tmps.setIfInBounds p.1 p.2) R.tmps := by
  rw [hps, ← Array.foldl_toList]
  simp
 refine ⟨_, _, _, _, hy, roundIn_of_wpIn trivial ?_⟩
 have hcur : Cur (WJ J R.l (.loop (R.rc .ready none))) l n ⟨w, S, fun b => F2 b ∨ b = R.l, θ2, st.1⟩ w S (fun b => F2 b ∨ b = R.l) θ2 st.1 st.2.1 (bindAll ps args (envOf R.E))
   ⟨(R.qs.zip xs.toArray).foldl (fun (tmps : Array Value) (p : Tmp × Value) => tmps.setIfInBounds p.1 p.2) R.tmps, []⟩ :=
  ⟨hWs, by rw [etm]; exact be1, by rw [etm, be2]; exact hn, Fr.refl _ _ _ _ _, trivial, fun d hd => by cases hd⟩
 have hpn0 : ∀ nm, st.1 nm ≠ .unused → nm ∈ R.wo := fun nm hnm => by
  by_cases hm : nm ∈ R.wo
  · exact hm
  · exact absurd (h.hwo nm hm) hnm
 have h1 := ha (WJ J R.l (.loop (R.rc .ready none))) l (WJ.stable hst) hM (WJ.hok hH) (some R.l) (fun h => by cases h) R.wo _ _ _ _ ⟨w, S, fun b => F2 b ∨ b = R.l, θ2, st.1⟩ w S _ θ2 _ hpn0 hcur hAW
 refine wpIn_mono h1 fun e a1 w1 hp => ?_
 obtain ⟨hex, ρ1, σ1, g1, S1, F1, θ1, hQ, hc1⟩ := hp
 cases e with
 | normal =>
  simp only at hQ
  obtain ⟨F1', q1, q2, q3, q4, q5, q6⟩ := WJ.out hc1.st
  have hc2 := WJ.put hst (by intro c e fr h; cases h) (.loop (R.rc .busy none)) hc1 (.inl (.inr rfl))
  refine ⟨_, run_beginRound q3 rfl, ?_⟩
  have h2 := hb (WJ J R.l (.loop (R.rc .busy none))) l (WJ.stable hst) hM (WJ.hok hH) (some R.l) (fun h => by cases h) R.wo _ _ _ _ ⟨w, S, fun b => F2 b ∨ b = R.l, θ2, st.1⟩ _ S1 _ θ1 _ hpn0 hc2 hQ
  refine wpIn_mono h2 fun e a3 w3 hp => ?_
  obtain ⟨hex, ρ3, σ3, g3, S3, F3, θ3, ⟨hcl, hQ3⟩, hc3⟩ := hp
  obtain ⟨F3', r1, r2, r3, _⟩ := WJ.out hc3.st
  cases e with
  | normal =>
   obtain ⟨F4, k1, k2, k3⟩ := round_end none hst h (by intro c e fr h; cases h) hne hB hE hWs hc3 hcl (fun e h => by cases h)
   exact ⟨_, _, run_endRound none r3, _, _, _, _, _, rfl, hQ3, .bool true, k2, k3⟩
  | ret =>
   obtain ⟨F4, k1, k2, k3⟩ := round_end (some .ret) hst h (by intro c e fr h; cases h) hne hB hE hWs hc3 hcl (fun e h => by injection h with h; exact .inl h.symm)
   exact ⟨_, _, run_endRound (some .ret) r3, _, _, _, _, _, rfl, hQ3, .bool false, k2, k3⟩
  | exit id =>
   obtain ⟨F4, k1, k2, k3⟩ := round_end (some (.exit id)) hst h (by intro c e fr h; cases h) hne hB hE hWs hc3 hcl (fun e h => by injection h with h; exact .inr ⟨id, h.symm⟩)
   exact ⟨_, _, run_endRound (some (.exit id)) r3, _, _, _, _, _, rfl, hQ3, .bool false, k2, k3⟩
  | goto _ => rcases hex with h | h | ⟨_, h⟩ <;> cases h
  | panic _ => rcases hex with h | h | ⟨_, h⟩ <;> cases h
  | outgrown => rcases hex with h | h | ⟨_, h⟩ <;> cases h
 | exit id => exact hQ
 | ret => exact hQ
 | goto _ => exact hQ
 | panic _ => exact hQ
 | outgrown => exact hQ
end
section
variable {G : Type} {J : JT G} {w w' w'' : World} {S F S' F' S'' F'' : Nat → Prop} {θ θ' θ'' : Names} {σ σ' σ'' : Store} {l n : Nat} {g g' : G}
variable {P : Program} {o : Oper} {a : Act} {ρ : Env} {H : HT G} {s0 : Start}
theorem RH_mono {wo : List Nat} {ca cb : Cmd} {ps : List Nat} {E : List (Nat × V)}
  (ha : ∀ (pn : List Nat) (ρ : Env) (σ : Store) (g : G) (Q Q' : Exit → Env → Store → G → Prop), (∀ e ρ' σ' g', Q e ρ' σ' g' → Q' e ρ' σ' g') → AW P H pn ca ρ σ g Q → AW P H pn ca ρ σ g Q')
  (hb : ∀ (pn : List Nat) (ρ : Env) (σ : Store) (g : G) (Q Q' : Exit → Env → Store → G → Prop), (∀ e ρ' σ' g', Q e ρ' σ' g' → Q' e ρ' σ' g') → AW P H pn cb ρ σ g Q → AW P H pn cb ρ σ g Q') : MonoH (RH P H wo ca cb ps E) := by
 rintro args st K K' hk ⟨h1, h2, h3⟩
 refine ⟨h1, h2, ha _ _ _ _ _ _ (fun e ρ1 σ1 g1 h => ?_) h3⟩
 cases e <;> try exact h
 refine hb _ _ _ _ _ _ (fun e ρ2 σ2 g2 h => ?_) h
 obtain ⟨h4, h5⟩ := h
 refine ⟨h4, ?_⟩
 cases e <;> exact hk _ _ h5
theorem AWT_mono (hM : MonoH H) {items : List GItem} : ∀ (t : OT) {K K' : Env → Store → G → Prop}, (∀ ρ' σ' g', K ρ' σ' g' → K' ρ' σ' g') → AWT P H items t ρ σ g K → AWT P H items t ρ σ g K'
 | .leaf _, _, _, hk, h => AWits_mono hM hk h
 | .node _ _ x y, _, _, hk, h => ⟨AWT_mono hM x hk h.1, AWT_mono hM y hk h.2⟩
theorem AW_mono (hM : MonoH H) : ∀ (c : Cmd) (pn : List Nat) (ρ : Env) (σ : Store) (g : G) (Q Q' : Exit → Env → Store → G → Prop), (∀ e ρ' σ' g', Q e ρ' σ' g' → Q' e ρ' σ' g') → AW P H pn c ρ σ g Q → AW P H pn c ρ σ g Q'
 | .skip, _, _, _, _, _, _, hq, h => hq _ _ _ _ h
 | .ops l, _, _, _, _, _, _, hq, h => AWits_mono hM (fun _ _ _ h => hq _ _ _ _ h) h
 | .opsT t l, _, _, _, _, _, _, hq, h => AWT_mono hM t (fun _ _ _ h => hq _ _ _ _ h) h
 | .frz t, _, _, _, _, _, _, hq, h => AWit_mono hM (fun _ _ _ h => hq _ _ _ _ h) h
 | .seq a b, pn, ρ, σ, g, Q, Q', hq, h => by
  simp only [AW] at h ⊢
  refine AW_mono hM a pn ρ σ g _ _ (fun e ρ' σ' g' h => ?_) h
  cases e with
  | normal => exact AW_mono hM b pn _ _ _ _ _ hq h
  | _ => exact hq _ _ _ _ h
 | .cond x a b, pn, ρ, σ, g, Q, Q', hq, h => by
  simp only [AW] at h ⊢
  split at h
  · rename_i t ht
    cases t
    · exact AW_mono hM b pn ρ σ g _ _ hq h
    · exact AW_mono hM a pn ρ σ g _ _ hq h
  · exact h.elim
 | .block id a, pn, ρ, σ, g, Q, Q', hq, h => by
  simp only [AW] at h ⊢
  refine AW_mono hM a pn ρ σ g _ _ (fun e ρ' σ' g' h => ?_) h
  cases e with
  | exit id' =>
   simp only at h ⊢
   cases hb : Nat.beq id' id with
   | true => rw [hb] at h; exact hq _ _ _ _ h
   | false => rw [hb] at h; exact hq _ _ _ _ h
  | _ => exact hq _ _ _ _ h
 | .loop a, pn, ρ, σ, g, Q, Q', hq, h => by
  simp only [AW] at h ⊢
  obtain ⟨ι, E, Sg, gi, inv, μ, h1, h2⟩ := h
  refine ⟨ι, E, Sg, gi, inv, μ, h1, fun i hi => AW_mono hM a pn _ _ _ _ _ (fun e ρ' σ' g' h => ?_) (h2 i hi)⟩
  cases e with
  | normal => exact h
  | _ => exact hq _ _ _ _ h
 | .exit id, _, _, _, _, _, _, hq, h => hq _ _ _ _ h
 | .fzb t j a, pn, ρ, σ, g, Q, Q', hq, h => by
  simp only [AW] at h ⊢
  split at h
  · split at h
    · split at h
      · split at h
        · exact AW_mono hM a pn _ _ _ _ _ hq h
        · exact h.elim
      · exact h.elim
    · exact h.elim
  · exact h.elim
 | .nvb t j nm a, pn, ρ, σ, g, Q, Q', hq, h => by
  simp only [AW] at h ⊢
  split at h
  · split at h
    · split at h
      · exact AW_mono hM a pn _ _ _ _ _ hq h
      · exact h.elim
    · exact h.elim
  · exact h.elim
 | .nvs t nm a, pn, ρ, σ, g, Q, Q', hq, h => by
  simp only [AW] at h ⊢
  split at h
  · split at h
    · exact AW_mono hM a pn _ _ _ _ _ hq h
    · exact h.elim
  · exact h.elim
 | .tagb t a, pn, ρ, σ, g, Q, Q', hq, h => by
  simp only [AW] at h ⊢
  split at h
  · split at h
    · exact fun b => AW_mono hM a pn _ _ _ _ _ hq (h b)
    · split at h
      · exact fun b => AW_mono hM a pn _ _ _ _ _ hq (h b)
      · exact h.elim
    · exact h.elim
  · exact h.elim
 | .nvt t nm arr a, pn, ρ, σ, g, Q, Q', hq, h => by
  simp only [AW] at h ⊢
  split at h
  · exact AW_mono hM a pn _ _ _ _ _ hq h
  · exact h.elim
 | .cut a, pn, ρ, σ, g, Q, Q', hq, h => by
  simp only [AW] at h ⊢
  rcases h with h | ⟨E, Sg, h1, h2⟩
  · exact .inl (AW_mono hM a pn _ _ _ _ _ hq h)
  · exact .inr ⟨E, Sg, h1, AW_mono hM a pn _ _ _ _ _ hq h2⟩
 | .frzr a, pn, ρ, σ, g, Q, Q', hq, h => by
  simp only [AW] at h ⊢
  obtain ⟨nm, nm2, b, b2, n, c, j, ll, l2, h1, h2, h3, h4, h5, h6, h⟩ := h
  exact ⟨nm, nm2, b, b2, n, c, j, ll, l2, h1, h2, h3, h4, h5, h6, AW_mono hM a pn _ _ _ _ _ hq h⟩
 | .ret, _, _, _, _, _, _, hq, h => hq _ _ _ _ h
 | .rangeF pf f ps a b, pn, ρ, σ, g, Q, Q', hq, h => by
  simp only [AW] at h ⊢
  split at h
  · obtain ⟨E, Sg, h1, h2, h3⟩ := h
    refine ⟨E, Sg, h1, h2, CT_mono (fun v σ' g' h => ?_) h3⟩
    obtain ⟨q1, q2, q3⟩ := g'
    obtain ⟨h0, h⟩ := h
    refine ⟨h0, ?_⟩
    cases q3 with
    | none => exact hq _ _ _ _ h
    | some e => exact hq _ _ _ _ h
  · exact h.elim
theorem noRndL_iff (l : List V) : noRndL l = true ↔ ∀ v ∈ l, noRndB v = true := by
 induction l with
 | nil => simp [noRndL]
 | cons a r ih => simp [noRndL, ih]
theorem noRndSt_iff (σ : Store) (l : List Nat) : noRndSt σ l = true ↔ ∀ nm ∈ l, ∀ row, σ nm = .box row → noRndB row = true := by
 induction l with
 | nil => simp [noRndSt]
 | cons a r ih =>
  simp only [noRndSt, Bool.and_eq_true, ih, List.mem_cons, forall_eq_or_imp]
  constructor
  · rintro ⟨h1, h2⟩
    exact ⟨fun row hrow => by rw [hrow] at h1; exact h1, h2⟩
  · rintro ⟨h1, h2⟩
    refine ⟨?_, h2⟩
    split
    · rename_i row hrow; exact h1 row hrow
    · rfl
theorem Rep.atL {v : V} {x : Value} (l' : Nat) (h : Rep w S θ σ l v x) (hnr : noRndB v = true) : Rep w S θ σ l' v x := by
 induction h with
 | pure h => exact .pure h
 | agg vs xs hl _ ih => exact .agg vs xs hl fun i v x h1 h2 => ih i v x h1 h2 ((noRndL_iff vs).1 (by simpa [noRndB] using hnr) v (mem_of_get h1))
 | tup vs xs hl _ ih => exact .tup vs xs hl fun i v x h1 h2 => ih i v x h1 h2 ((noRndL_iff vs).1 (by simpa [noRndB] using hnr) v (mem_of_get h1))
 | fn f vs xs hl _ ih => exact .fn f vs xs hl fun i v x h1 h2 => ih i v x h1 h2 ((noRndL_iff vs).1 (by simpa [noRndB] using hnr) v (mem_of_get h1))
 | bptr nm j x ho hn h1 => exact .bptr nm j x ho hn h1
 | ptr nm gen i j x ho hn hg h1 => exact .ptr nm gen i j x ho hn hg h1
 | msl nm gen i len x ho hn hg h1 => exact .msl nm gen i len x ho hn hg h1
 | own nm rows b off cap m ys hn hb hcap hw hc hr hf => exact .own nm rows b off cap m ys hn hb hcap hw hc hr hf
 | ownemp nm a hn => exact .ownemp nm a hn
 | cptro nm row b o j ys hn hb hc hr => exact .cptro nm row b o j ys hn hb hc hr
 | rnd => simp [noRndB] at hnr
 | mp nm x ho hn h1 => exact .mp nm x ho hn h1
 | ifv t v x _ ih => exact .ifv t v x (ih (by simpa [noRndB] using hnr))
theorem noRnd_cells {v : V} (h : noRndB v = true) : ∀ u ∈ v.cells, noRndB u = true := by
 intro u hu
 cases v with
 | agg ll => exact (noRndL_iff ll).1 (by simpa [noRndB] using h) u hu
 | tag b ll => exact (noRndL_iff ll).1 (by simpa [noRndB] using h) u hu
 | _ => simp only [V.cells, List.mem_singleton] at hu; rw [hu]; exact h
theorem BlkOk.ext {nm l' : Nat} (hk : BlkOk w S θ σ l nm (σ nm)) (hp : ∀ nm, σ nm ≠ .unused → σ' nm = σ nm ∧ θ' nm = θ nm) (h1 : σ' nm = σ nm) (h2 : θ' nm = θ nm) (hn : ∀ row, σ nm = .box row → noRndB row = true ∨ l' = l) : BlkOk w S θ' σ' l' nm (σ' nm) := by
 rw [h1]
 cases h : σ nm with
 | unused => rw [h] at hk; simp only [BlkOk] at hk ⊢; rw [h2]; exact hk
 | dead => trivial
 | box row =>
  rw [h] at hk
  simp only [BlkOk] at hk ⊢
  obtain ⟨b, c, e, k1, k2, k3, k4⟩ := hk
  refine ⟨b, c, e, by rw [h2]; exact k1, k2, k3, fun j v hj => ?_⟩
  obtain ⟨y, hy, hr⟩ := k4 j v hj
  refine ⟨y, hy, ?_⟩
  rcases hn row h with hn | rfl
  · exact (hr.ext hp).atL l' (noRnd_cells hn v (mem_of_get hj))
  · exact hr.ext hp
 | arr gen rows => rw [h] at hk; simp only [BlkOk] at hk ⊢; rw [h2]; exact hk
 | vec k => rw [h] at hk; simp only [BlkOk] at hk ⊢; rw [h2]; exact hk
 | mp k ns vs => rw [h] at hk; simp only [BlkOk] at hk ⊢; rw [h2]; exact hk
end
end Hm
end
