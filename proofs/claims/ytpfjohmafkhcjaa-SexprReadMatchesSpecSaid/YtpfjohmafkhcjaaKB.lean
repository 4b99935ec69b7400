/- Part KB of the proof. -/
import Derived.Test.YtpfjohmafkhcjaaKA
import Derived.Orders
import Derived.RangeFuncRecord
set_option linter.unusedVariables false
set_option linter.unusedSimpArgs false
section
namespace Hm
open Go
section
variable {G : Type} {J : JT G} {w w' w'' : World} {S F S' F' S'' F'' : Nat → Prop} {θ θ' θ'' : Names} {σ σ' σ'' : Store} {l : Nat} {g g' : G}
variable {P : Program} {o : Oper} {a : Act} {ρ : Env} {K : V → Store → G → Prop} {H : HT G}
theorem getD_of {cs : List Value} {k : Nat} {y : Value} (h : cs[k]? = some y) : cs.getD k undef = y := by
  rw [List.getD_eq_getElem?_getD, h]; rfl
theorem news_src {v : V} {xs : List V} {y : Value} {size : Nat} (hs : St J w S F θ σ l g) (ry : Rep w S θ σ l v y) (hy : srcR σ v = some xs) (h0 : 0 < size) (hw : ∀ row ∈ xs, row.cells.length = size ∧ row.cells.all leafB = true) :
    ∃ news : List Value, Reads P w size xs.length y news ∧ news.length = xs.length * size ∧ (∀ (i j : Nat) (row v : V), xs[i]? = some row → row.cells[j]? = some v → ∃ y, news[i * size + j]? = some y ∧ RepP w S v y) ∧ ∀ y ∈ news, y.oneCell' = true := by
  cases v with
  | sl t xs' =>
    simp only [srcR] at hy
    cases hy
    exact news_of ry h0 hw
  | str s =>
    simp only [srcR] at hy
    cases hy
    cases ry with
    | pure h =>
      cases h
      refine ⟨s.map fun c => .int .u8 c.toNat, ⟨.inr ⟨⟨s.toArray⟩, rfl, by simp [ByteArray.size]⟩, fun w' _ => ?_⟩, ?_, fun i j row v h1 h2 => ?_, fun y hy => ?_⟩
      · simp [Builtin.firstCells, ByteArray.size]
      · cases s with
        | nil => simp
        | cons c r =>
          have := (hw _ (List.mem_cons_self)).1
          simp only [V.cells, List.length_singleton] at this
          simp [← this]
      · rw [List.getElem?_map] at h1
        cases hi : s[i]? with
        | none => rw [hi] at h1; cases h1
        | some c =>
          rw [hi] at h1
          cases h1
          have hsz := (hw _ (List.mem_map.2 ⟨c, List.mem_of_getElem? hi, rfl⟩)).1
          simp only [V.cells, List.length_singleton] at hsz
          cases j with
          | succ j => cases h2
          | zero =>
            cases h2
            refine ⟨_, ?_, .int _ _⟩
            rw [← hsz, Nat.mul_one, Nat.add_zero, List.getElem?_map, hi]
            rfl
      · obtain ⟨c, _, rfl⟩ := List.mem_map.1 hy
        rfl
  | msl nm gen i len =>
    simp only [srcR] at hy
    split at hy
    · rename_i gen' rows hv
      cases hb0 : Nat.beq gen gen' with
      | false => rw [hb0] at hy; cases hy
      | true =>
        rw [hb0] at hy
        have eg := Nat.eq_of_beq_eq_true hb0
        subst eg
        simp only [cond_true] at hy
        cases hy
        have hemp : ∀ (ad : Option Addr) (cap : Nat), (rows.drop i).take len = [] → ∃ news : List Value, Reads P w size ((rows.drop i).take len).length (.slice ad ((rows.drop i).take len).length cap) news ∧ news.length = ((rows.drop i).take len).length * size ∧ (∀ (a j : Nat) (row v : V), ((rows.drop i).take len)[a]? = some row → row.cells[j]? = some v → ∃ y, news[a * size + j]? = some y ∧ RepP w S v y) ∧ ∀ y ∈ news, y.oneCell' = true := by
          intro ad cap he
          rw [he]
          refine ⟨[], ⟨.inl ⟨ad, cap, rfl⟩, fun w' _ => ?_⟩, by simp, fun i j row v h => by simp at h, fun y hy => by simp at hy⟩
          cases ad with
          | none => exact run_firstCells_none w' size 0 0 cap
          | some b => exact run_firstCells_some w' size 0 b 0 cap [] (by simp) (fun j v h => by simp at h)
        cases ry with
        | pure h => cases h
        | msl _ _ _ _ _ ho hn hg h =>
          rcases h rows hv with ⟨b, m, cap, hθ, hle, rfl, hck, hlen⟩ | ⟨hl0, ad, rfl⟩
          · have hxl : ((rows.drop i).take len).length = len := by simp; omega
            by_cases he : (rows.drop i).take len = []
            · have hl0 : len = 0 := by rw [← hxl, he]; rfl
              have := hemp (some ⟨b, i * m, none⟩) cap he
              rw [hxl] at this
              rw [hxl]
              exact this
            · have hblk := hs.hblk nm
              rw [hv] at hblk
              rcases hblk with ⟨h2, _⟩ | ⟨b', m', c, e, h2, h3, h4, h5, h6⟩
              · rw [hθ] at h2; cases h2
              · have eb : b' = b ∧ m' = m := by rw [hθ] at h2; simp at h2; exact ⟨h2.1.symm, h2.2.symm⟩
                obtain ⟨rfl, rfl⟩ := eb
                have hin : ∀ row ∈ (rows.drop i).take len, row ∈ rows := fun row hr => List.mem_of_mem_drop (List.mem_of_mem_take hr)
                have em : m' = size := by
                  obtain ⟨row, hr⟩ := List.exists_mem_of_ne_nil _ he
                  rw [← h4 row (hin row hr), (hw row hr).1]
                subst em
                have hwm : ∀ row ∈ (rows.drop i).take len, row.cells.length = m' := fun row hr => h4 row (hin row hr)
                have hc : ∀ (a j : Nat) (row v : V), ((rows.drop i).take len)[a]? = some row → row.cells[j]? = some v → w.cell? ⟨b', i * m' + a * m' + j, none⟩ = some ((c[(i + a) * m' + j]?).getD undef) ∧ RepP w S v ((c[(i + a) * m' + j]?).getD undef) := by
                  intro a j row v q1 q2
                  have q3 : rows[i + a]? = some row := by
                    rw [List.getElem?_take] at q1
                    split at q1
                    · rw [List.getElem?_drop] at q1; exact q1
                    · cases q1
                  obtain ⟨y, k1, k2⟩ := h6 (i + a) j row v q3 q2
                  rw [k1]
                  refine ⟨?_, k2⟩
                  rw [cell_of_row w b' (i * m' + a * m' + j) c e _ h3, ← Nat.add_mul, k1]
                  rfl
                obtain ⟨cs, k1, k2, k3, k4⟩ := rows_flat h0 hwm hc
                rw [hxl] at k1 ⊢
                refine ⟨cs, ⟨.inl ⟨_, cap, rfl⟩, fun w' hw' => ?_⟩, k1, k3, k4 fun row hr => (hw row hr).2⟩
                exact run_firstCells_some w' m' len _ _ cap cs k1 (fun j v hj => by unfold World.cell?; rw [hw']; exact k2 j v hj)
          · have he : (rows.drop i).take len = [] := by rw [hl0]; simp
            have hxl : ((rows.drop i).take len).length = 0 := by rw [he]; rfl
            have := hemp ad 0 he
            rw [hxl] at this
            rw [hxl]
            exact this
    · cases hy
  | _ => simp only [srcR] at hy; cases hy
theorem ap_vec {size bytes k : Nat} {T U ty e : TypeId} {i : TypeInfo} {z x y : Value} {nm : Nat} {rows xs : List V} (hst : Stable J) (hs : St J w S F θ σ l g)
    (hU : UTy P U) (hu : P.underlying T = some (.slice e)) (hi : P.info? e = some i) (hz : i.zero = some z) (hsize : i.size = size) (hby : i.bytes = bytes) (hzs : z.cells.size = size) (h0 : 0 < size) (hty : tyOk nm e)
    (rx : Rep w S θ σ l (.sl (.own nm) rows) x) (hnews : ∃ news : List Value, Reads P w size xs.length y news ∧ news.length = xs.length * size ∧ (∀ (i j : Nat) (row v : V), xs[i]? = some row → row.cells[j]? = some v → ∃ y, news[i * size + j]? = some y ∧ RepP w S v y) ∧ ∀ y ∈ news, y.oneCell' = true) (hv : σ nm = .vec k) (hk : rows.length = k) (hw : wd nm = size)
    (hxs : ∀ row ∈ xs, row.cells.length = size ∧ row.cells.all leafB = true) (hb : (k + xs.length) * bytes ≤ 140737488355328) (hn : k + xs.length ≤ 140737488355328)
    (hK : K (.sl (.own nm) (rows ++ xs)) (ups σ nm (.vec (k + xs.length))) g) :
    ∃ x' w', (Builtin.append_ #[T, U] ty #[x, y]).run P w = .ok x' w' ∧ OpPost J w S F θ σ l K x' w' := by
  subst hsize hby
  obtain ⟨news, n1, n2, n3, n4⟩ := hnews
  have hblk := hs.hblk nm
  rw [hv] at hblk
  by_cases hx : xs = []
  ·
    subst hx
    have hnews : news = [] := List.eq_nil_of_length_eq_zero (by simpa using n2)
    subst hnews
    obtain ⟨ad, cap, e1, hcap, _⟩ := rx.sl_inv
    refine ⟨x, w, by rw [e1]; exact ap_same T U ty e i hU hu hi ad rows.length cap y n1 hcap, ?_⟩
    have hσ : ups σ nm (.vec (k + ([] : List V).length)) = σ := by rw [List.length_nil, Nat.add_zero, ← hv]; exact ups_self σ nm
    rw [hσ, List.append_nil] at hK
    exact OpPost.same hs hK rx
  have hxl : 0 < xs.length := List.length_pos_iff.2 hx
  have grow : ∀ (base : Option Addr) (cap : Nat) (olds : List Value), x = .slice base rows.length cap → cap < k + xs.length → Reads P w i.size rows.length (.slice base rows.length cap) olds → olds.length = rows.length * i.size →
      (∀ (q j : Nat) (row v : V), rows[q]? = some row → row.cells[j]? = some v → ∃ y, olds[q * i.size + j]? = some y ∧ RepP w S v y) → (∀ row ∈ rows, row.cells.length = i.size) →
      ∃ x' w', (Builtin.append_ #[T, U] ty #[x, y]).run P w = .ok x' w' ∧ OpPost J w S F θ σ l K x' w' := by
    intro base cap olds ex hlt ho1 ho2 ho3 hwr
    subst ex
    have hrun := ap_grow (P := P) (w := w) T U ty e i z hU hu hi hz base rows.length cap xs.length olds y news ho1 n1 (by omega) (by rw [hk]; exact hb) (by omega)
    have hge : rows.length + xs.length ≤ grownCap w (rows.length + xs.length) cap e := grownCap_ge w _ cap e
    generalize hC : grownCap w (rows.length + xs.length) cap e = C at hrun hge
    obtain ⟨cs, hcs⟩ : ∃ cs : Array Value, cs = olds.toArray ++ news.toArray ++ Builtin.zeroCells z.cells (C - (rows.length + xs.length)) := ⟨_, rfl⟩
    rw [← hcs] at hrun
    have hcl : cs.toList = olds ++ news ++ (Builtin.zeroCells z.cells (C - (rows.length + xs.length))).toList := by rw [hcs]; simp
    have hsz : cs.size = C * i.size := by
      rw [hcs]
      simp only [Array.size_append, List.size_toArray, size_zeroCells, hzs, ho2, n2, ← Nat.add_mul]
      congr 1
      omega
    have hmul : (k + xs.length) * i.size ≤ C * i.size := Nat.mul_le_mul_right _ (by omega)
    have hfr := Fr.vmove hs (.cells cs e (0, 0)) nm i.size k (k + xs.length) hv (by omega)
    refine ⟨_, _, hrun, _, _, g, _, F, _, hK, St.vmove hst hs (.cells cs e (0, 0)) nm i.size k (k + xs.length) hv (by omega) (.inr ⟨w.heap.size, i.size, cs, e, upn_self _ _ _, heap_alloc_new' w.drew _, hw.symm, by rw [hsz]; exact hmul, hty⟩), hfr, ?_⟩
    have hcell : ∀ (q j : Nat) (row v : V), (rows ++ xs)[q]? = some row → row.cells[j]? = some v → ∃ y, cs.toList[q * i.size + j]? = some y ∧ RepP w S v y := by
      rw [hcl]; exact two_rows ho2 ho3 n3
    rw [← List.length_append] at *
    have := Rep.own (w := w.drew.alloc (.cells cs e (0, 0))) (S := fun b => S b ∨ ∃ m, θ nm = some (b, m)) (θ := upn θ nm (some (w.heap.size, i.size))) (σ := ups σ nm (.vec (k + xs.length))) (l := l)
      nm (rows ++ xs) w.heap.size 0 C i.size (fun q j => cs.toList.getD (q * i.size + j) undef) (by rw [upt_self]; intro h; cases h) (.inr ⟨i.size, k + xs.length, upn_self _ _ _, upt_self _ _ _, by simp [hk]⟩) hge ?_ ?_ ?_ ?_
    · exact this
    · intro row hrow
      rcases List.mem_append.1 hrow with hrow | hrow
      · exact hwr row hrow
      · exact (hxs row hrow).1
    · intro q j row v h1 h2
      obtain ⟨y, hy, hr⟩ := hcell q j row v h1 h2
      rw [Nat.zero_add, getD_of hy]
      have := cell_of_row (w.drew.alloc (.cells cs e (0, 0))) w.heap.size (q * i.size + j) cs e (0, 0) (heap_alloc_new' w.drew _)
      rw [this]
      simpa using hy
    · intro q j row v h1 h2
      obtain ⟨y, hy, hr⟩ := hcell q j row v h1 h2
      rw [getD_of hy]
      exact hr.mono (hfr.stable hs) hfr.smono
    · intro k' hk'
      rw [upt_self] at hk'
      injection hk' with hk'
      exact ⟨by simp; omega, fun _ => ⟨upn_self _ _ _, rfl, cs, e, heap_alloc_new' w.drew _, by rw [hsz]; exact Nat.le_refl _⟩⟩
  cases rx with
  | pure h => cases h
  | ownemp _ ad hne =>
    refine grow ad 0 [] rfl (by simp at hk; omega) (reads_nil _ _ _) (by simp) (fun q j row v h => by simp at h) (by simp)
  | own _ _ b off cap m ys hne hbs hcap hwr hc hr hf =>
    obtain ⟨hle, hfull⟩ := hf k hv
    obtain ⟨hθ, rfl, hco⟩ := hfull hk
    rcases hblk with ⟨h2, _⟩ | ⟨b', m', c, e', h2, h3, h4⟩
    · rw [hθ] at h2; cases h2
    have eb : b' = b ∧ m' = m := by rw [hθ] at h2; simp at h2; exact ⟨h2.1.symm, h2.2.symm⟩
    obtain ⟨rfl, rfl⟩ := eb
    have em : m' = i.size := by rw [h4.1, hw]
    subst em
    by_cases hroom : rows.length + xs.length ≤ cap
    ·
      obtain ⟨c2, e2, h5, h6⟩ := hco
      rw [h3] at h5
      injection h5 with h5
      injection h5 with h5 h7
      subst h5 h7
      have hfit : rows.length * i.size + news.length ≤ c.size := by
        rw [n2, ← Nat.add_mul]
        exact Nat.le_trans (Nat.mul_le_mul_right _ hroom) h6
      have hrun := ap_room (P := P) (w := w) T U ty e e' i hU hu hi b' rows.length cap xs.length c h3 y news n1 n4 hroom hfit
      obtain ⟨c', hc'⟩ : ∃ c' : Array Value, c' = (c.toList.take (rows.length * i.size) ++ news ++ c.toList.drop (rows.length * i.size + news.length)).toArray := ⟨_, rfl⟩
      rw [← hc'] at hrun
      have hcs : c'.size = c.size := by rw [hc']; have := splice_len c.toList news (rows.length * i.size) (by simpa using hfit); simpa using this
      have hget : ∀ q, c'[q]? = if rows.length * i.size ≤ q ∧ q < rows.length * i.size + news.length then news[q - rows.length * i.size]? else c.toList[q]? := by
        intro q; rw [hc', List.getElem?_toArray]; exact splice_get c.toList news (rows.length * i.size) (by simpa using hfit) q
      have hbig : (k + xs.length) * i.size ≤ c.size := by rw [← hk, Nat.add_mul, ← n2]; exact hfit
      have hfr := Fr.write hs nm b' i.size c c' e' (.vec (k + xs.length)) (live_vec hv) hθ h3 hcs (by
        rw [hv]
        refine ⟨⟨_, rfl, Nat.le_add_right _ _⟩, fun j hj => ?_⟩
        rw [hget, if_neg (by rw [hk]; omega)]; simp)
      refine ⟨_, _, hrun, _, _, g, S, F, θ, hK, St.write hst hs nm b' i.size c' _ (live_vec hv) hθ hfr (.inr ⟨b', i.size, c', e', hθ, setRow_heap w b' c c' _ _ h3, hw.symm, by rw [hcs]; exact hbig, h4.2.2⟩), hfr, ?_⟩
      have hcell : ∀ (q j : Nat) (row v : V), (rows ++ xs)[q]? = some row → row.cells[j]? = some v → ∃ y, c'[q * i.size + j]? = some y ∧ RepP w S v y := by
        intro q j row v hq hj
        by_cases cq : q < rows.length
        · rw [List.getElem?_append_left cq] at hq
          have hjl := (List.getElem?_eq_some_iff.1 hj).1
          rw [hwr row (mem_of_get hq)] at hjl
          have : (q + 1) * i.size ≤ rows.length * i.size := Nat.mul_le_mul_right _ cq
          rw [Nat.succ_mul] at this
          refine ⟨ys q j, ?_, hr q j row v hq hj⟩
          rw [hget, if_neg (by omega)]
          have h8 := hc q j row v hq hj
          rw [cell_of_row w b' _ c e' _ h3, Nat.zero_add] at h8
          simpa using h8
        · rw [List.getElem?_append_right (by omega)] at hq
          obtain ⟨yv, hy, hrr⟩ := n3 _ j row v hq hj
          have hlt := (List.getElem?_eq_some_iff.1 hy).1
          have e : q * i.size = rows.length * i.size + (q - rows.length) * i.size := by rw [← Nat.add_mul]; congr 1; omega
          refine ⟨yv, ?_, hrr⟩
          rw [hget, if_pos (by omega), show q * i.size + j - rows.length * i.size = (q - rows.length) * i.size + j from by omega]
          exact hy
      rw [← List.length_append]
      refine .own nm (rows ++ xs) b' 0 cap i.size (fun q j => c'.toList.getD (q * i.size + j) undef) (by rw [upt_self]; intro h; cases h) (.inr ⟨i.size, k + xs.length, hθ, upt_self _ _ _, by simp [hk]⟩) (by simp; omega) ?_ ?_ ?_ ?_
      · intro row hrow
        rcases List.mem_append.1 hrow with hrow | hrow
        · exact hwr row hrow
        · exact (hxs row hrow).1
      · intro q j row v h1 h2
        obtain ⟨yv, hy, hrr⟩ := hcell q j row v h1 h2
        rw [Nat.zero_add, cell_of_row _ _ _ c' e' (0, 0) (setRow_heap w b' c c' _ _ h3), hy, getD_of (by simpa using hy)]
      · intro q j row v h1 h2
        obtain ⟨yv, hy, hrr⟩ := hcell q j row v h1 h2
        rw [getD_of (by simpa using hy)]
        exact hrr.mono (hfr.stable hs) hfr.smono
      · intro k' hk'
        rw [upt_self] at hk'
        injection hk' with hk'
        exact ⟨by simp; omega, fun _ => ⟨hθ, rfl, c', e', setRow_heap w b' c c' _ _ h3, by rw [hcs]; exact h6⟩⟩
    · obtain ⟨olds, o1, o2, o3⟩ := olds_of (P := P) (cap := cap) h0 hwr (fun q j row v h1 h2 => ⟨hc q j row v h1 h2, hr q j row v h1 h2⟩)
      exact grow _ cap olds rfl (by omega) o1 o2 o3 hwr
theorem ap_arr {size bytes gen len : Nat} {T U ty e : TypeId} {i : TypeInfo} {z x y : Value} {nm : Nat} {rows xs : List V} (hst : Stable J) (hs : St J w S F θ σ l g)
    (hU : UTy P U) (hu : P.underlying T = some (.slice e)) (hi : P.info? e = some i) (hz : i.zero = some z) (hsize : i.size = size) (hby : i.bytes = bytes) (hzs : z.cells.size = size) (h0 : 0 < size)
    (rx : Rep w S θ σ l (.msl nm gen 0 len) x) (hnews : ∃ news : List Value, Reads P w size xs.length y news ∧ news.length = xs.length * size ∧ (∀ (i j : Nat) (row v : V), xs[i]? = some row → row.cells[j]? = some v → ∃ y, news[i * size + j]? = some y ∧ RepP w S v y) ∧ ∀ y ∈ news, y.oneCell' = true) (hv : σ nm = .arr gen rows) (hw : wd nm = size)
    (hxs : ∀ row ∈ xs, row.cells.length = size ∧ row.cells.all leafB = true) (hb : (len + xs.length) * bytes ≤ 140737488355328) (hn : len + xs.length ≤ 140737488355328)
    (hK : K (.msl nm (gen + 1) 0 (len + xs.length)) (ups σ nm (.arr (gen + 1) (rows.take len ++ xs))) g) :
    ∃ x' w', (Builtin.append_ #[T, U] ty #[x, y]).run P w = .ok x' w' ∧ OpPost J w S F θ σ l K x' w' := by
  subst hsize hby
  obtain ⟨news, n1, n2, n3, n4⟩ := hnews
  have hblk := hs.hblk nm
  rw [hv] at hblk
  have hused : ∀ rows', ups σ nm (.arr (gen + 1) rows') nm ≠ .unused := by intro rows'; rw [upt_self]; intro h; cases h
  have hg1 : ∀ rows', ∀ gen' rows1, ups σ nm (.arr (gen + 1) rows') nm = .arr gen' rows1 → gen + 1 ≤ gen' := by
    intro rows' gen' rows1 h
    rw [upt_self] at h
    injection h with h1 h2
    omega
  have grow : ∀ (base : Option Addr) (cap : Nat) (olds : List Value), x = .slice base len cap → cap < len + xs.length → Reads P w i.size len (.slice base len cap) olds → olds.length = (rows.take len).length * i.size → (rows.take len).length = len →
      (∀ (q j : Nat) (row v : V), (rows.take len)[q]? = some row → row.cells[j]? = some v → ∃ y, olds[q * i.size + j]? = some y ∧ RepP w S v y) → (∀ row ∈ rows.take len, row.cells.length = i.size) →
      ∃ x' w', (Builtin.append_ #[T, U] ty #[x, y]).run P w = .ok x' w' ∧ OpPost J w S F θ σ l K x' w' := by
    intro base cap olds ex hlt ho1 ho2 hlen ho3 hwr
    subst ex
    have hrun := ap_grow (P := P) (w := w) T U ty e i z hU hu hi hz base len cap xs.length olds y news ho1 n1 (by omega) hb (by omega)
    have hge : len + xs.length ≤ grownCap w (len + xs.length) cap e := grownCap_ge w _ cap e
    generalize hC : grownCap w (len + xs.length) cap e = C at hrun hge
    obtain ⟨cs, hcs⟩ : ∃ cs : Array Value, cs = olds.toArray ++ news.toArray ++ Builtin.zeroCells z.cells (C - (len + xs.length)) := ⟨_, rfl⟩
    rw [← hcs] at hrun
    have hcl : cs.toList = olds ++ news ++ (Builtin.zeroCells z.cells (C - (len + xs.length))).toList := by rw [hcs]; simp
    have hsz : cs.size = C * i.size := by
      rw [hcs]
      simp only [Array.size_append, List.size_toArray, size_zeroCells, hzs, ho2, n2, ← Nat.add_mul]
      congr 1
      omega
    have hmul : (len + xs.length) * i.size ≤ C * i.size := Nat.mul_le_mul_right _ hge
    have hfr := Fr.amove hs (.cells cs e (0, 0)) nm i.size gen rows (rows.take len ++ xs) hv
    have hcell : ∀ (q j : Nat) (row v : V), (rows.take len ++ xs)[q]? = some row → row.cells[j]? = some v → ∃ y, cs.toList[q * i.size + j]? = some y ∧ RepP w S v y := by
      rw [hcl]; exact two_rows ho2 ho3 n3
    have hwall : ∀ row ∈ rows.take len ++ xs, row.cells.length = i.size := by
      intro row hrow
      rcases List.mem_append.1 hrow with hrow | hrow
      · exact hwr row hrow
      · exact (hxs row hrow).1
    refine ⟨_, _, hrun, _, _, g, _, F, _, hK, St.amove hst hs (.cells cs e (0, 0)) nm i.size gen rows (rows.take len ++ xs) hv (.inr ⟨w.heap.size, i.size, cs, e, upn_self _ _ _, heap_alloc_new' w.drew _, hwall, ⟨hw.symm, by rw [hsz, List.length_append, hlen]; exact hmul⟩, fun q j row v h1 h2 => ?_⟩), hfr, ?_⟩
    · obtain ⟨yv, hy, hr⟩ := hcell q j row v h1 h2
      exact ⟨yv, by simpa using hy, hr.mono (hfr.stable hs) hfr.smono⟩
    · exact .msl nm (gen + 1) 0 (len + xs.length) _ rfl (hused _) (hg1 _) fun rows1 h1 => .inl ⟨w.heap.size, i.size, C, upn_self _ _ _, hge, by simp, ⟨cs, e, heap_alloc_new' w.drew _, by simp [hsz]⟩, by
        rw [upt_self] at h1
        injection h1 with _ h1
        rw [← h1, List.length_append, hlen]; omega⟩
  cases rx with
  | pure h => cases h
  | msl _ _ _ _ _ ho hne hg hx =>
    rcases hx rows hv with ⟨b, m, cap, hθ, hle, e1, hco, hlen⟩ | ⟨rfl, ad, e1⟩
    · rcases hblk with ⟨h2, _⟩ | ⟨b', m', c, e', h2, h3, h4, h5, h6⟩
      · rw [hθ] at h2; cases h2
      have eb : b' = b ∧ m' = m := by rw [hθ] at h2; simp at h2; exact ⟨h2.1.symm, h2.2.symm⟩
      obtain ⟨rfl, rfl⟩ := eb
      have em : m' = i.size := by rw [h5.1, hw]
      subst em
      have hlt : (rows.take len).length = len := by simp; omega
      have hwr : ∀ row ∈ rows.take len, row.cells.length = i.size := fun row hrow => h4 row (List.mem_of_mem_take hrow)
      have hrow : ∀ (q j : Nat) (row v : V), (rows.take len)[q]? = some row → row.cells[j]? = some v → ∃ y, c[q * i.size + j]? = some y ∧ RepP w S v y := by
        intro q j row v h7 h8
        rw [List.getElem?_take] at h7
        split at h7
        · exact h6 q j row v h7 h8
        · cases h7
      rw [Nat.zero_mul] at e1
      by_cases hroom : len + xs.length ≤ cap
      · obtain ⟨c2, e2, k5, k6⟩ := hco
        rw [h3] at k5
        injection k5 with k5
        injection k5 with k5 k7
        subst k5 k7
        rw [Nat.zero_add] at k6
        have hfit : len * i.size + news.length ≤ c.size := by
          rw [n2, ← Nat.add_mul]
          exact Nat.le_trans (Nat.mul_le_mul_right _ hroom) k6
        have hrun := ap_room (P := P) (w := w) T U ty e e' i hU hu hi b' len cap xs.length c h3 y news n1 n4 hroom hfit
        obtain ⟨c', hc'⟩ : ∃ c' : Array Value, c' = (c.toList.take (len * i.size) ++ news ++ c.toList.drop (len * i.size + news.length)).toArray := ⟨_, rfl⟩
        rw [← hc'] at hrun
        have hcs : c'.size = c.size := by rw [hc']; have := splice_len c.toList news (len * i.size) (by simpa using hfit); simpa using this
        have hget : ∀ q, c'[q]? = if len * i.size ≤ q ∧ q < len * i.size + news.length then news[q - len * i.size]? else c.toList[q]? := by
          intro q; rw [hc', List.getElem?_toArray]; exact splice_get c.toList news (len * i.size) (by simpa using hfit) q
        have hbig : (len + xs.length) * i.size ≤ c.size := by rw [Nat.add_mul, ← n2]; exact hfit
        have hfr := Fr.write hs nm b' i.size c c' e' (.arr (gen + 1) (rows.take len ++ xs)) (live_arr hv) hθ h3 hcs (by rw [hv]; exact ⟨rows, .inr ⟨_, rfl⟩⟩)
        subst e1
        refine ⟨_, _, hrun, _, _, g, S, F, θ, hK, St.write hst hs nm b' i.size c' _ (live_arr hv) hθ hfr (.inr ⟨b', i.size, c', e', hθ, setRow_heap w b' c c' _ _ h3, ?_, ⟨hw.symm, by rw [hcs, List.length_append, hlt]; exact hbig⟩, fun q j row v hq hj => ?_⟩), hfr, ?_⟩
        · intro row hr
          rcases List.mem_append.1 hr with hr | hr
          · exact hwr row hr
          · exact (hxs row hr).1
        · by_cases cq : q < len
          · rw [List.getElem?_append_left (by omega)] at hq
            have hjl := (List.getElem?_eq_some_iff.1 hj).1
            rw [hwr row (mem_of_get hq)] at hjl
            have : (q + 1) * i.size ≤ len * i.size := Nat.mul_le_mul_right _ cq
            rw [Nat.succ_mul] at this
            obtain ⟨yv, hy, hr⟩ := hrow q j row v hq hj
            refine ⟨yv, ?_, hr.mono (hfr.stable hs) hfr.smono⟩
            rw [hget, if_neg (by omega)]
            simpa using hy
          · rw [List.getElem?_append_right (by omega), hlt] at hq
            obtain ⟨yv, hy, hrr⟩ := n3 _ j row v hq hj
            have hlt' := (List.getElem?_eq_some_iff.1 hy).1
            have e : q * i.size = len * i.size + (q - len) * i.size := by rw [← Nat.add_mul]; congr 1; omega
            refine ⟨yv, ?_, hrr.mono (hfr.stable hs) hfr.smono⟩
            rw [hget, if_pos (by omega), show q * i.size + j - len * i.size = (q - len) * i.size + j from by omega]
            exact hy
        · exact .msl nm (gen + 1) 0 (len + xs.length) _ rfl (hused _) (hg1 _) fun rows1 h1 => .inl ⟨b', i.size, cap, hθ, hroom, by simp, ⟨c', e', setRow_heap w b' c c' _ _ h3, by rw [hcs, Nat.zero_add]; exact k6⟩, by
            rw [upt_self] at h1
            injection h1 with _ h1
            rw [← h1, List.length_append, hlt]; omega⟩
      · have hrow2 : ∀ (q j : Nat) (row v : V), (rows.take len)[q]? = some row → row.cells[j]? = some v → w.cell? ⟨b', 0 + q * i.size + j, none⟩ = some (c.getD (q * i.size + j) undef) ∧ RepP w S v (c.getD (q * i.size + j) undef) := by
          intro q j row v hq hj
          obtain ⟨yv, hy, hr⟩ := hrow q j row v hq hj
          have hi := Array.getElem?_eq_some_iff.1 hy
          have e2 : c.getD (q * i.size + j) undef = yv := by simp [Array.getD, hi.1, hi.2]
          rw [e2, cell_of_row w b' _ c e' _ h3, Nat.zero_add]
          exact ⟨hy, hr⟩
        obtain ⟨olds, o1, o2, o3⟩ := olds_of (P := P) (cap := cap) (ys := fun q j => c.getD (q * i.size + j) undef) h0 hwr hrow2
        rw [hlt] at o1
        exact grow _ cap olds e1 (by omega) o1 o2 hlt o3 hwr
    · by_cases hx : xs = []
      · subst hx
        have hnews : news = [] := List.eq_nil_of_length_eq_zero (by simpa using n2)
        subst hnews
        subst e1
        refine ⟨_, w, ap_same T U ty e i hU hu hi ad 0 0 y n1 (Nat.le_refl _), _, _, g, S, F, θ, hK, St.regen hst hs nm gen rows _ hv ?_, Fr.regen nm gen rows _ hv, ?_⟩
        · simp only [List.take_zero, List.append_nil]
          rcases hblk with ⟨h2, _⟩ | ⟨b', m', c, e', h2, h3, h4, h5, h6⟩
          · exact .inl ⟨h2, rfl⟩
          · exact .inr ⟨b', m', c, e', h2, h3, by simp, ⟨h5.1, by simp⟩, fun q j row v h => by simp at h⟩
        · exact .msl nm (gen + 1) 0 _ _ rfl (hused _) (hg1 _) fun rows1 h1 => .inr ⟨rfl, ad, rfl⟩
      · have hxl : 0 < xs.length := List.length_pos_iff.2 hx
        exact grow ad 0 [] e1 (by omega) (reads_nil _ _ _) (by simp) (by simp) (fun q j row v h => by simp at h) (by simp)
theorem sop_append {size bytes et : Nat} {y z : Opd} (hst : Stable J) (hs : St J w S F θ σ l g) (he : EnvRep w S θ σ l ρ a.tmps) (hc : chkOp P o.op (.append size bytes et y z) = true) (h : AWop P H ρ σ g (.append size bytes et y z) K) : RunsTo P o a w (OpPost J w S F θ σ l K) := by
  cases ho : o.op <;> rw [ho] at hc <;> simp only [chkOp, Bool.false_eq_true] at hc
  rename_i c
  simp only [Bool.and_eq_true] at hc
  obtain ⟨hc1, hc2⟩ := hc
  split at hc1
  · rename_i hcal
    split at hc2
    · rename_i p q t u hargs htys
      simp only [Bool.and_eq_true] at hc2
      obtain ⟨⟨⟨⟨hp, hq⟩, htu⟩, hsl⟩, hel⟩ := hc2
      obtain ⟨e, i, zv, hu, hi, hz, hsize, hby, hzs, h0⟩ := sliceZ_facts hsl
      have het : e = et := by
        unfold tElem at hel
        rw [hu] at hel
        exact Nat.eq_of_beq_eq_true hel
      have hU : UTy P u := by
        rcases Bool.or_eq_true_iff.1 htu with h1 | h1
        · have := Nat.eq_of_beq_eq_true h1
          subst this
          exact .inl ⟨e, hu⟩
        · unfold tString at h1
          split at h1
          · exact .inr (by assumption)
          · cases h1
      have rx := opd_rep he hp
      have ry := opd_rep he hq
      obtain ⟨callee, args, argTypes⟩ := c
      dsimp only at hcal hargs htys
      subst hcal
      have hargs' : args = #[p, q] := by rw [← hargs]
      have htys' : argTypes = #[t, u] := by rw [← htys]
      subst hargs' htys'
      have fin : (∃ x' w', (Builtin.append_ #[t, u] o.type #[a.eval p, a.eval q]).run P w = .ok x' w' ∧ OpPost J w S F θ σ l K x' w') → RunsTo P o a w (OpPost J w S F θ σ l K) := by
        rintro ⟨x', w', h1, h2⟩
        refine ⟨x', w', .inl ?_, h2⟩
        simp [execOp, ho, resolve, invoke, builtin, h1]
      simp only [AWop] at h
      split at h
      · rename_i nm rows xs hx hy
        rw [hx] at rx
        split at h
        · rename_i k hv
          obtain ⟨hk, hw, hxs, hb, hn, hK⟩ := h
          rw [Bool.and_eq_true] at hw
          exact fin (ap_vec hst hs hU hu hi hz hsize hby hzs h0 (by rw [het]; exact tyOk_of hw.2) rx (news_src hs ry hy h0 hxs) hv hk (Nat.eq_of_beq_eq_true hw.1) hxs hb hn hK)
        · exact h.elim
      · rename_i nm gen len xs hx hy
        rw [hx] at rx
        split at h
        · rename_i gen' rows hv
          obtain ⟨rfl, hw, hxs, hb, hn, hK⟩ := h
          exact fin (ap_arr hst hs hU hu hi hz hsize hby hzs h0 rx (news_src hs ry hy h0 hxs) hv (Nat.eq_of_beq_eq_true hw) hxs hb hn hK)
        · exact h.elim
      · exact h.elim
    · cases hc2
  · cases hc1
theorem flat_len {m : Nat} : ∀ {xs : List V}, (∀ row ∈ xs, row.cells.length = m) → (flatC xs).length = xs.length * m
  | [], _ => by simp [flatC]
  | r :: xs, h => by
    simp only [flatC, List.length_append, List.length_cons, flat_len (xs := xs) fun row hr => h row (by simp [hr]), h r (by simp), Nat.succ_mul]
    omega
theorem flat_get {m : Nat} : ∀ {xs : List V}, (∀ row ∈ xs, row.cells.length = m) → ∀ {q : Nat} {v : V}, (flatC xs)[q]? = some v → ∃ i j row, xs[i]? = some row ∧ row.cells[j]? = some v ∧ q = i * m + j
  | [], _, q, v, hq => by simp [flatC] at hq
  | r :: xs, h, q, v, hq => by
    simp only [flatC] at hq
    have hr := h r (by simp)
    by_cases c : q < r.cells.length
    · rw [List.getElem?_append_left c] at hq
      exact ⟨0, q, r, rfl, hq, by omega⟩
    · rw [List.getElem?_append_right (by omega)] at hq
      obtain ⟨i, j, row, h1, h2, h3⟩ := flat_get (xs := xs) (fun row hr => h row (by simp [hr])) hq
      exact ⟨i + 1, j, row, by simpa using h1, h2, by rw [Nat.succ_mul]; omega⟩
theorem flat_at {m : Nat} : ∀ {xs : List V}, (∀ row ∈ xs, row.cells.length = m) → ∀ {i j : Nat} {row v : V}, xs[i]? = some row → row.cells[j]? = some v → (flatC xs)[i * m + j]? = some v
  | [], _, i, j, row, v, h1, _ => by simp at h1
  | r :: xs, h, 0, j, row, v, h1, h2 => by
    simp only [List.getElem?_cons_zero, Option.some.injEq] at h1
    subst h1
    simp only [flatC]
    rw [List.getElem?_append_left (by have := (List.getElem?_eq_some_iff.1 h2).1; omega)]
    simpa using h2
  | r :: xs, h, i + 1, j, row, v, h1, h2 => by
    have hr := h r (by simp)
    simp only [flatC]
    rw [List.getElem?_append_right (by rw [Nat.succ_mul]; omega), show (i + 1) * m + j - r.cells.length = i * m + j from by rw [Nat.succ_mul]; omega]
    exact flat_at (xs := xs) (fun row hr => h row (by simp [hr])) (by simpa using h1) h2
theorem ap_rgrow {size bytes n cap : Nat} {T U ty e : TypeId} {i : TypeInfo} {z y : Value} {base : Option Addr} {olds : List Value} {lo : List V} {nm : Nat} {xs : List V} (hst : Stable J) (hs : St J w S F θ σ l g)
    (hU : UTy P U) (hu : P.underlying T = some (.slice e)) (hi : P.info? e = some i) (hz : i.zero = some z) (hsize : i.size = size) (hby : i.bytes = bytes) (hzs : z.cells.size = size)
    (ho : Reads P w size n (.slice base n cap) olds) (hol : olds.length = n * size) (hll : lo.length = n * size) (hcell : ∀ (q : Nat) (v : V), lo[q]? = some v → ∃ y, olds[q]? = some y ∧ Rep w S θ σ l v y)
    (hnews : ∃ news : List Value, Reads P w size xs.length y news ∧ news.length = xs.length * size ∧ (∀ (i j : Nat) (row v : V), xs[i]? = some row → row.cells[j]? = some v → ∃ y, news[i * size + j]? = some y ∧ RepP w S v y) ∧ ∀ y ∈ news, y.oneCell' = true)
    (hlt : cap < n + xs.length) (hb : (n + xs.length) * bytes ≤ 140737488355328) (hn : n + xs.length ≤ 140737488355328) (hxs : ∀ row ∈ xs, row.cells.length = size ∧ row.cells.all leafB = true)
    (hv : σ nm = .unused) (hty : tyOk nm e)
    (hK : ∀ b' c', n + xs.length ≤ c' → K (.rsl b' (n + xs.length) c') (ups σ nm (.box (.tag b' (lo ++ flatC xs ++ List.replicate ((c' - (n + xs.length)) * size) .any)))) g) :
    ∃ x' w', (Builtin.append_ #[T, U] ty #[.slice base n cap, y]).run P w = .ok x' w' ∧ OpPost J w S F θ σ l K x' w' := by
  subst hsize hby
  obtain ⟨news, n1, n2, n3, n4⟩ := hnews
  have hrun := ap_grow (P := P) (w := w) T U ty e i z hU hu hi hz base n cap xs.length olds y news ho n1 (by omega) hb (by omega)
  have hge : n + xs.length ≤ grownCap w (n + xs.length) cap e := grownCap_ge w _ cap e
  generalize grownCap w (n + xs.length) cap e = C at hrun hge
  obtain ⟨cs, hcs⟩ : ∃ cs : Array Value, cs = olds.toArray ++ news.toArray ++ Builtin.zeroCells z.cells (C - (n + xs.length)) := ⟨_, rfl⟩
  rw [← hcs] at hrun
  have hcl : cs.toList = olds ++ news ++ (Builtin.zeroCells z.cells (C - (n + xs.length))).toList := by rw [hcs]; simp
  have hfl := flat_len (m := i.size) (xs := xs) fun row hr => (hxs row hr).1
  have hsz : cs.size = (lo ++ flatC xs ++ List.replicate ((C - (n + xs.length)) * i.size) V.any).length := by
    rw [hcs]
    simp only [Array.size_append, List.size_toArray, size_zeroCells, hzs, hol, n2, List.length_append, hll, hfl, List.length_replicate]
  obtain ⟨hsd, hfd⟩ := St.drew hst hs
  have hfa := Fr.alloc hsd (.cells cs e (0, 0)) nm (lo ++ flatC xs ++ List.replicate ((C - (n + xs.length)) * i.size) V.any).length (.box (.tag w.heap.size (lo ++ flatC xs ++ List.replicate ((C - (n + xs.length)) * i.size) V.any))) hv
  have hfr := hfd.trans hsd hfa
  refine ⟨_, _, hrun, _, _, g, _, F, _, hK w.heap.size C hge, St.alloc hst hsd (.cells cs e (0, 0)) nm (lo ++ flatC xs ++ List.replicate ((C - (n + xs.length)) * i.size) V.any).length (.box (.tag w.heap.size (lo ++ flatC xs ++ List.replicate ((C - (n + xs.length)) * i.size) V.any))) hv
    ⟨w.heap.size, cs, e, upn_self _ _ _, heap_alloc_new' w.drew _, ⟨hsz, hty, rfl⟩, fun q v hq => ?_⟩, hfr, .pure (.rsl _ _ _ hge)⟩
  have hq : (lo ++ flatC xs ++ List.replicate ((C - (n + xs.length)) * i.size) V.any)[q]? = some v := hq
  have hql := (List.getElem?_eq_some_iff.1 hq).1
  have hget : ∀ k : Nat, cs[k]? = (olds ++ news ++ (Builtin.zeroCells z.cells (C - (n + xs.length))).toList)[k]? := fun k => by rw [← hcl]; simp
  by_cases c1 : q < lo.length
  · rw [List.append_assoc, List.getElem?_append_left c1] at hq
    obtain ⟨yv, hy, hr⟩ := hcell q v hq
    refine ⟨yv, ?_, hr.fr hfr hs⟩
    rw [hget, List.append_assoc, List.getElem?_append_left (by omega)]
    exact hy
  · by_cases c2 : q < lo.length + (flatC xs).length
    · rw [List.append_assoc, List.getElem?_append_right (by omega), List.getElem?_append_left (by omega)] at hq
      obtain ⟨a, j, row, h1, h2, h3⟩ := flat_get (fun row hr => (hxs row hr).1) hq
      obtain ⟨yv, hy, hr⟩ := n3 a j row v h1 h2
      refine ⟨yv, ?_, .pure (hr.mono (hfr.stable hs) hfr.smono)⟩
      rw [hget, List.append_assoc, List.getElem?_append_right (by omega), List.getElem?_append_left (by omega), show q - olds.length = a * i.size + j from by omega]
      exact hy
    · rw [List.getElem?_append_right (by simp; omega)] at hq
      have hva : v = .any := by
        rw [List.getElem?_replicate] at hq
        split at hq
        · cases hq; rfl
        · cases hq
      subst hva
      have hk : q < cs.size := by rw [hsz]; exact hql
      exact ⟨cs[q], Array.getElem?_eq_getElem hk, .pure (.any _)⟩
theorem sop_appR {size bytes et : Nat} {y z : Opd} (hst : Stable J) (hs : St J w S F θ σ l g) (he : EnvRep w S θ σ l ρ a.tmps) (hc : chkOp P o.op (.appR size bytes et y z) = true) (h : AWop P H ρ σ g (.appR size bytes et y z) K) : RunsTo P o a w (OpPost J w S F θ σ l K) := by
  cases ho : o.op <;> rw [ho] at hc <;> simp only [chkOp, Bool.false_eq_true] at hc
  rename_i c
  simp only [Bool.and_eq_true] at hc
  obtain ⟨hc1, hc2⟩ := hc
  split at hc1
  · rename_i hcal
    split at hc2
    · rename_i p q t u hargs htys
      simp only [Bool.and_eq_true] at hc2
      obtain ⟨⟨⟨⟨hp, hq⟩, htu⟩, hsl⟩, hel⟩ := hc2
      obtain ⟨e, i, zv, hu, hi, hz, hsize, hby, hzs, h0⟩ := sliceZ_facts hsl
      have het : e = et := by
        unfold tElem at hel
        rw [hu] at hel
        exact Nat.eq_of_beq_eq_true hel
      have hU : UTy P u := by
        rcases Bool.or_eq_true_iff.1 htu with h1 | h1
        · have := Nat.eq_of_beq_eq_true h1
          subst this
          exact .inl ⟨e, hu⟩
        · unfold tString at h1
          split at h1
          · exact .inr (by assumption)
          · cases h1
      have rx := opd_rep he hp
      have ry := opd_rep he hq
      obtain ⟨callee, args, argTypes⟩ := c
      dsimp only at hcal hargs htys
      subst hcal
      have hargs' : args = #[p, q] := by rw [← hargs]
      have htys' : argTypes = #[t, u] := by rw [← htys]
      subst hargs' htys'
      have fin : (∃ x' w', (Builtin.append_ #[t, u] o.type #[a.eval p, a.eval q]).run P w = .ok x' w' ∧ OpPost J w S F θ σ l K x' w') → RunsTo P o a w (OpPost J w S F θ σ l K) := by
        rintro ⟨x', w', h1, h2⟩
        refine ⟨x', w', .inl ?_, h2⟩
        simp [execOp, ho, resolve, invoke, builtin, h1]
      simp only [AWop] at h
      split at h
      · rename_i xs hx hy
        rw [hx] at rx
        obtain ⟨hne, hxs, hb, hn, nm, hv, hty, hK⟩ := h
        have hnews := news_src (P := P) hs ry hy h0 hxs
        suffices key : ∀ x, Rep w S θ σ l (.sl .nil []) x → ∃ ad, x = .slice ad 0 0 by
          obtain ⟨ad, e1⟩ := key _ rx
          refine fin ?_
          rw [e1]
          have hxl : 0 < xs.length := List.length_pos_iff.2 hne
          exact ap_rgrow (n := 0) (lo := []) (olds := []) hst hs hU hu hi hz hsize hby hzs (reads_nil _ _ _) (by simp) (by simp) (fun q v h => by simp at h) hnews (by omega) (by rw [Nat.zero_add]; exact hb) (by rw [Nat.zero_add]; exact hn) hxs hv (by rw [het]; exact tyOk_of hty)
            (fun b' c' hc' => by
              have := hK b' c' (by omega)
              simp only [Nat.zero_add, List.nil_append]
              exact this)
        intro x hr
        cases hr with
        | pure h1 =>
          cases h1 with
          | nilsl ad => exact ⟨ad, rfl⟩
      · rename_i b n cap xs hx hy
        rw [hx] at rx
        obtain ⟨hne, hxs, hb, hn, nm, ll, hσ, hcap, hroom, hgrow⟩ := h
        have hnews := news_src (P := P) hs ry hy h0 hxs
        obtain ⟨e1, hnc⟩ := rx.rsl_inv
        have hk := hs.hblk nm
        rw [hσ] at hk
        obtain ⟨b', cs, e', h2, h3, ⟨h4, h4t, h4g⟩, h5⟩ := hk
        have eb : b = b' := h4g
        subst eb
        have h4 : cs.size = ll.length := h4
        have hnl : n * size ≤ ll.length := Nat.le_trans (Nat.mul_le_mul_right _ hnc) hcap
        refine fin ?_
        rw [e1]
        by_cases hc : n + xs.length ≤ cap
        · obtain ⟨news, n1, n2, n3, n4⟩ := hnews
          have hfl := flat_len (m := size) (xs := xs) fun row hr => (hxs row hr).1
          have hfit : n * size + news.length ≤ cs.size := by
            rw [n2, ← Nat.add_mul, h4]
            exact Nat.le_trans (Nat.mul_le_mul_right _ hc) hcap
          subst hsize
          have hrun := ap_room (P := P) (w := w) t u o.type e e' i hU hu hi b n cap xs.length cs h3 _ news n1 n4 hc hfit
          obtain ⟨c', hc'⟩ : ∃ c' : Array Value, c' = (cs.toList.take (n * i.size) ++ news ++ cs.toList.drop (n * i.size + news.length)).toArray := ⟨_, rfl⟩
          rw [← hc'] at hrun
          have hcs : c'.size = cs.size := by rw [hc']; have := splice_len cs.toList news (n * i.size) (by simpa using hfit); simpa using this
          have hget : ∀ q, c'[q]? = if n * i.size ≤ q ∧ q < n * i.size + news.length then news[q - n * i.size]? else cs.toList[q]? := by
            intro q; rw [hc', List.getElem?_toArray]; exact splice_get cs.toList news (n * i.size) (by simpa using hfit) q
          have hlget : ∀ q, (ll.take (n * i.size) ++ flatC xs ++ ll.drop (n * i.size + (flatC xs).length))[q]? = if n * i.size ≤ q ∧ q < n * i.size + (flatC xs).length then (flatC xs)[q - n * i.size]? else ll[q]? := fun q =>
            splice_get ll (flatC xs) (n * i.size) (by rw [hfl, ← n2, ← h4]; exact hfit) q
          have hllen := splice_len ll (flatC xs) (n * i.size) (by rw [hfl, ← n2, ← h4]; exact hfit)
          have hfr := Fr.write hs nm b (V.tag b ll).cells.length cs c' e' (.box (.tag b (ll.take (n * i.size) ++ flatC xs ++ ll.drop (n * i.size + (flatC xs).length)))) (live_box hσ) h2 h3 hcs (by rw [hσ]; exact ⟨_, rfl⟩)
          refine ⟨_, _, hrun, _, _, g, S, F, θ, hroom hc, St.write hst hs nm b (V.tag b ll).cells.length c' _ (live_box hσ) h2 hfr ⟨b, c', e', ?_, setRow_heap w b cs c' _ _ h3, ⟨?_, h4t, rfl⟩, fun q v hq => ?_⟩, hfr, .pure (.rsl _ _ _ hc)⟩
          · rw [h2]
            show some (b, ll.length) = some (b, (ll.take (n * i.size) ++ flatC xs ++ ll.drop (n * i.size + (flatC xs).length)).length)
            rw [hllen]
          · show c'.size = (ll.take (n * i.size) ++ flatC xs ++ ll.drop (n * i.size + (flatC xs).length)).length
            rw [hcs, hllen, h4]
          · have hq : (ll.take (n * i.size) ++ flatC xs ++ ll.drop (n * i.size + (flatC xs).length))[q]? = some v := hq
            rw [hlget] at hq
            split at hq
            · rename_i hin
              obtain ⟨k, j, row, h6, h7, h8⟩ := flat_get (fun row hr => (hxs row hr).1) hq
              obtain ⟨yv, hy, hr⟩ := n3 k j row v h6 h7
              refine ⟨yv, ?_, .pure (hr.mono (hfr.stable hs) hfr.smono)⟩
              rw [hget, if_pos (by omega), h8]
              exact hy
            · rename_i hin
              obtain ⟨yv, hy, hr⟩ := h5 q v hq
              refine ⟨yv, ?_, hr.fr hfr hs⟩
              rw [hget, if_neg (by omega)]
              simpa using hy
        · obtain ⟨nm', hv', hty, hK⟩ := hgrow (by omega)
          have holds : Reads P w size n (.slice (some ⟨b, 0, none⟩) n cap) (cs.toList.take (n * size)) := by
            refine ⟨.inl ⟨_, cap, rfl⟩, fun w' hw' => ?_⟩
            refine run_firstCells_some w' size n _ _ cap (cs.toList.take (n * size)) (by simp; omega) (fun j v hj => ?_)
            rw [List.getElem?_take] at hj
            split at hj
            · have := cell_of_row w b j cs e' _ h3
              unfold World.cell? at this ⊢
              rw [hw', Addr.add_lit, Nat.zero_add]
              rw [this]
              simpa using hj
            · cases hj
          exact ap_rgrow (n := n) (lo := ll.take (n * size)) (olds := cs.toList.take (n * size)) hst hs hU hu hi hz hsize hby hzs holds (by simp; omega) (by simp; omega)
            (fun q v hq => by
              rw [List.getElem?_take] at hq
              split at hq
              · rename_i hlt
                obtain ⟨yv, hy, hr⟩ := h5 q v hq
                refine ⟨yv, ?_, hr⟩
                rw [List.getElem?_take, if_pos hlt]
                simpa using hy
              · cases hq) hnews (by omega) hb hn hxs hv' (by rw [het]; exact tyOk_of hty) hK
      · exact h.elim
    · cases hc2
  · cases hc1
end
section
variable {G : Type} {J : JT G} {w w' w'' : World} {S F S' F' S'' F'' : Nat → Prop} {θ θ' θ'' : Names} {σ σ' σ'' : Store} {l : Nat} {g g' : G}
theorem Fr.grow (hs : St J w S F θ σ l g) (hg : Grow w w') {N : Nat → Prop} (hN : ∀ b, N b → w.heap.size ≤ b) : Fr w S F θ σ w' (fun b => S b ∨ N b) F θ σ where
  size := hg.size
  os := hg.os
  tape := hg.tape
  output := hg.output
  same := fun b hb _ _ => hg.same b hb
  sized := fun b c e fr h => ⟨c, fr, by rw [hg.same b (Array.getElem?_eq_some_iff.1 h).1]; exact h, rfl, .inl rfl⟩
  vecs := fun nm' k b m' h1 h2 j hj => cell_of_heap (hg.same b (live_lt hs (live_vec h1) h2))
  smono := fun _ h => .inl h
  snew := fun b h => by
    rcases h with h | h
    · exact .inl h
    · exact .inr (.inr (.inr (hN b h)))
  live := fun _ h _ => h
  fsub := fun _ h _ => h
  kdead := fun _ h => h
  kbox := fun _ row h => .inr ⟨row, h, rfl⟩
  karr := fun _ gen rows h => .inr ⟨gen, rows, h, Nat.le_refl _, fun _ => ⟨rfl, Nat.le_refl _⟩⟩
  kvec := fun _ k h => .inr ⟨k, h, Nat.le_refl _, fun _ => rfl, fun _ _ h => .inl h⟩
theorem BlkOk.later (hs : St J w S F θ σ l g) (hfr : Fr w S F θ σ w' S' F' θ' σ') (nm : Nat) (e1 : σ' nm = σ nm) (e2 : θ' nm = θ nm) (hb : ∀ b m, (σ nm).live → θ nm = some (b, m) → w'.heap[b]? = w.heap[b]?) :
    BlkOk w' S' θ' σ' l nm (σ' nm) := by
  have hk := hs.hblk nm
  rw [e1]
  cases h : σ nm with
  | unused => rw [h] at hk; simp only [BlkOk] at hk ⊢; rw [e2]; exact hk
  | dead => trivial
  | box row =>
    rw [h] at hk
    simp only [BlkOk] at hk ⊢
    obtain ⟨b, c, e, h1, h2, h3, h4⟩ := hk
    refine ⟨b, c, e, by rw [e2]; exact h1, by rw [hb b _ (live_box h) h1]; exact h2, h3, fun j v hj => ?_⟩
    obtain ⟨y, hy, hr⟩ := h4 j v hj
    exact ⟨y, hy, hr.fr hfr hs⟩
  | arr gen rows =>
    rw [h] at hk
    simp only [BlkOk] at hk ⊢
    rcases hk with ⟨h1, h2⟩ | ⟨b, m, c, e, h1, h2, h3, h4, h5⟩
    · exact .inl ⟨by rw [e2]; exact h1, h2⟩
    · refine .inr ⟨b, m, c, e, by rw [e2]; exact h1, by rw [hb b _ (live_arr h) h1]; exact h2, h3, h4, fun i j row v h6 h7 => ?_⟩
      obtain ⟨y, hy, hr⟩ := h5 i j row v h6 h7
      exact ⟨y, hy, hr.mono (hfr.stable hs) hfr.smono⟩
  | vec k =>
    rw [h] at hk
    simp only [BlkOk] at hk ⊢
    rcases hk with ⟨h1, h2⟩ | ⟨b, m, c, e, h1, h2, h3⟩
    · exact .inl ⟨by rw [e2]; exact h1, h2⟩
    · exact .inr ⟨b, m, c, e, by rw [e2]; exact h1, by rw [hb b _ (live_vec h) h1]; exact h2, h3⟩
theorem St.grow (hst : Stable J) (hs : St J w S F θ σ l g) (hg : Grow w w') {N : Nat → Prop} (hN : ∀ b, N b → w.heap.size ≤ b) (hN' : ∀ b, N b → b < w'.heap.size) : St J w' (fun b => S b ∨ N b) F θ σ l g := by
  have hfr := Fr.grow hs hg hN
  refine ⟨fun b hb => ?_, fun nm => BlkOk.later hs hfr nm rfl rfl fun b m h1 h2 => hg.same b (live_lt hs h1 h2), hs.hinj, fun b hb hS => ?_, fun b hb => ?_, ?_⟩
  · rcases hb with hb | hb
    · exact Nat.lt_of_lt_of_le (hs.hS b hb) hg.size
    · exact hN' b hb
  · obtain ⟨nm, m, h1, h2⟩ := hb
    rcases hS with hS | hS
    · exact hs.hliveS b ⟨nm, m, h1, h2⟩ hS
    · have := live_lt hs h1 h2; have := hN b hS; omega
  · obtain ⟨h1, h2, h3⟩ := hs.hF b hb
    refine ⟨Nat.lt_of_lt_of_le h1 hg.size, fun hS => ?_, h3⟩
    rcases hS with hS | hS
    · exact h2 hS
    · have := hN b hS; omega
  · exact hst.2 g w S F _ _ hs.hJ hs.hS (fun b hb' => (hs.hF b hb').1) (fun b hb' => by
      rcases hb' with hb' | hb'
      · exact hg.same b (hs.hS b hb')
      · exact hg.same b (hs.hF b hb').1) hfr.smono hfr.size hg.os hg.tape hg.output (fun b hb => by
      rcases hb with hb | hb
      · exact ⟨Nat.lt_of_lt_of_le (hs.hS b hb) hg.size, fun hf => (hs.hF b hf).2.1 hb⟩
      · exact ⟨hN' b hb, fun hf => by have := (hs.hF b hf).1; have := hN b hb; omega⟩) hfr.sizedS
theorem Rep.ext (hp : ∀ nm, σ nm ≠ .unused → σ' nm = σ nm ∧ θ' nm = θ nm) {v : V} {x : Value} (h : Rep w S θ σ l v x) : Rep w S θ' σ' l v x := by
  induction h with
  | pure h1 => exact .pure h1
  | agg vs xs hl _ ih => exact .agg vs xs hl ih
  | tup vs xs hl _ ih => exact .tup vs xs hl ih
  | fn f vs xs hl _ ih => exact .fn f vs xs hl ih
  | bptr nm j x ho hn h1 =>
    obtain ⟨e1, e2⟩ := hp nm hn
    exact .bptr nm j x ho (by rw [e1]; exact hn) (by rw [e1, e2]; exact h1)
  | ptr nm gen i j x ho hn hg h1 =>
    obtain ⟨e1, e2⟩ := hp nm hn
    exact .ptr nm gen i j x ho (by rw [e1]; exact hn) (by rw [e1]; exact hg) (by rw [e1, e2]; exact h1)
  | msl nm gen i len x ho hn hg h1 =>
    obtain ⟨e1, e2⟩ := hp nm hn
    exact .msl nm gen i len x ho (by rw [e1]; exact hn) (by rw [e1]; exact hg) (by rw [e1, e2]; exact h1)
  | own nm rows b off cap m ys hn hb hcap hw hcc hr hf =>
    obtain ⟨e1, e2⟩ := hp nm hn
    exact .own nm rows b off cap m ys (by rw [e1]; exact hn) (by rw [e1, e2]; exact hb) hcap hw hcc hr (by rw [e1, e2]; exact hf)
  | ownemp nm a hn =>
    obtain ⟨e1, e2⟩ := hp nm hn
    exact .ownemp nm a (by rw [e1]; exact hn)
  | cptro nm row b o j ys hn hb hcc hr =>
    obtain ⟨e1, e2⟩ := hp nm hn
    exact .cptro nm row b o j ys (by rw [e1]; exact hn) (by rw [e1, e2]; exact hb) hcc hr
  | rnd => exact .rnd
def restrN (pn : List Nat) (θ : Names) : Names := fun nm => bif memB nm pn then θ nm else none
def mergeN (pn : List Nat) (θ θ' : Names) : Names := fun nm => bif memB nm pn then θ' nm else θ nm
theorem memB_false {nm : Nat} {pn : List Nat} (h : nm ∉ pn) : memB nm pn = false := by
  cases hm : memB nm pn with
  | false => rfl
  | true => exact absurd ((memB_iff nm pn).1 hm) h
theorem restr_in {pn : List Nat} {nm : Nat} (h : nm ∈ pn) : restr pn σ nm = σ nm ∧ restrN pn θ nm = θ nm := by
  simp [restr, restrN, (memB_iff nm pn).2 h]
theorem restr_out {pn : List Nat} {nm : Nat} (h : nm ∉ pn) : restr pn σ nm = .unused ∧ restrN pn θ nm = none := by
  simp [restr, restrN, memB_false h]
theorem merge_in {pn : List Nat} {nm : Nat} (h : nm ∈ pn) : merge pn σ σ' nm = σ' nm ∧ mergeN pn θ θ' nm = θ' nm := by
  simp [merge, mergeN, (memB_iff nm pn).2 h]
theorem merge_out {pn : List Nat} {nm : Nat} (h : nm ∉ pn) : merge pn σ σ' nm = σ nm ∧ mergeN pn θ θ' nm = θ nm := by
  simp [merge, mergeN, memB_false h]
theorem live_restr {pn : List Nat} {b : Nat} (h : LiveB (restrN pn θ) (restr pn σ) b) : ∃ nm m, nm ∈ pn ∧ (σ nm).live ∧ θ nm = some (b, m) := by
  obtain ⟨nm, m, h1, h2⟩ := h
  by_cases hm : nm ∈ pn
  · obtain ⟨e1, e2⟩ := restr_in (σ := σ) (θ := θ) hm
    exact ⟨nm, m, hm, by rw [← e1]; exact h1, by rw [← e2]; exact h2⟩
  · rw [(restr_out (σ := σ) (θ := θ) hm).1] at h1; exact h1.elim
theorem kept_block {pn : List Nat} (hs : St J w S F θ σ l g) (hfr : Fr w S F (restrN pn θ) (restr pn σ) w' S' F' θ' σ') {nm b m : Nat} (hn : nm ∉ pn) (hl : (σ nm).live) (hb : θ nm = some (b, m)) : w'.heap[b]? = w.heap[b]? := by
  refine hfr.same b (live_lt hs hl hb) (fun h => ?_) (fun h => (hs.hF b h).2.2 ⟨nm, m, hl, hb⟩)
  obtain ⟨nm', m', h1, h2, h3⟩ := live_restr h
  exact hn (by rw [hs.hinj nm nm' b m m' hl h2 hb h3]; exact h1)
theorem merge_fr {pn : List Nat} (hs : St J w S F θ σ l g) (hfr : Fr w S F (restrN pn θ) (restr pn σ) w' S' F' θ' σ') : Fr w S F θ σ w' S' F' (mergeN pn θ θ') (merge pn σ σ') where
  size := hfr.size
  os := hfr.os
  tape := hfr.tape
  output := hfr.output
  same := fun b hb hl hF => hfr.same b hb (fun h => by
    obtain ⟨nm, m, _, h2, h3⟩ := live_restr h
    exact hl ⟨nm, m, h2, h3⟩) hF
  sized := fun b c e fr hc => by
    obtain ⟨c', f, h1, h2, h3⟩ := hfr.sized b c e fr hc
    refine ⟨c', f, h1, h2, h3.imp id fun h4 => ⟨h4.1, ?_⟩⟩
    rintro ⟨nm, m, h5, h6⟩
    by_cases hm : nm ∈ pn
    · obtain ⟨e1, e2⟩ := merge_in (σ := σ) (σ' := σ') (θ := θ) (θ' := θ') hm
      exact h4.2 ⟨nm, m, by rw [← e1]; exact h5, by rw [← e2]; exact h6⟩
    · obtain ⟨e1, e2⟩ := merge_out (σ := σ) (σ' := σ') (θ := θ) (θ' := θ') hm
      rw [e1] at h5
      rw [e2] at h6
      rcases hfr.snew b h4.1 with h | h | h | h
      · exact hs.hliveS b ⟨nm, m, h5, h6⟩ h
      · obtain ⟨nm', m', k1, k2, k3⟩ := live_restr h
        exact hm (by rw [hs.hinj nm nm' b m m' h5 k2 h6 k3]; exact k1)
      · exact (hs.hF b h).2.2 ⟨nm, m, h5, h6⟩
      · have := live_lt hs h5 h6; omega
  vecs := fun nm k b m h1 h2 j hj => by
    by_cases hm : nm ∈ pn
    · obtain ⟨e1, e2⟩ := restr_in (σ := σ) (θ := θ) hm
      exact hfr.vecs nm k b m (by rw [e1]; exact h1) (by rw [e2]; exact h2) j hj
    · exact cell_of_heap (kept_block hs hfr hm (live_vec h1) h2)
  smono := hfr.smono
  snew := fun b hb => by
    rcases hfr.snew b hb with h | h | h | h
    · exact .inl h
    · obtain ⟨nm, m, _, h2, h3⟩ := live_restr h
      exact .inr (.inl ⟨nm, m, h2, h3⟩)
    · exact .inr (.inr (.inl h))
    · exact .inr (.inr (.inr h))
  live := fun b => by
    rintro ⟨nm, m, h1, h2⟩ hlt
    by_cases hm : nm ∈ pn
    · obtain ⟨e1, e2⟩ := merge_in (σ := σ) (σ' := σ') (θ := θ) (θ' := θ') hm
      obtain ⟨nm', m', _, h3, h4⟩ := live_restr (hfr.live b ⟨nm, m, by rw [← e1]; exact h1, by rw [← e2]; exact h2⟩ hlt)
      exact ⟨nm', m', h3, h4⟩
    · obtain ⟨e1, e2⟩ := merge_out (σ := σ) (σ' := σ') (θ := θ) (θ' := θ') hm
      exact ⟨nm, m, by rw [← e1]; exact h1, by rw [← e2]; exact h2⟩
  fsub := hfr.fsub
  kdead := fun nm h => by
    by_cases hm : nm ∈ pn
    · rw [(merge_in (σ := σ) (σ' := σ') (θ := θ) (θ' := θ') hm).1]
      exact hfr.kdead nm (by rw [(restr_in (σ := σ) (θ := θ) hm).1]; exact h)
    · rw [(merge_out (σ := σ) (σ' := σ') (θ := θ) (θ' := θ') hm).1]; exact h
  kbox := fun nm row h => by
    by_cases hm : nm ∈ pn
    · obtain ⟨e1, e2⟩ := merge_in (σ := σ) (σ' := σ') (θ := θ) (θ' := θ') hm
      obtain ⟨e3, e4⟩ := restr_in (σ := σ) (θ := θ) hm
      rw [e1, e2, ← e4]
      exact hfr.kbox nm row (by rw [e3]; exact h)
    · obtain ⟨e1, e2⟩ := merge_out (σ := σ) (σ' := σ') (θ := θ) (θ' := θ') hm
      rw [e1, e2]; exact .inr ⟨row, h, rfl⟩
  karr := fun nm gen rows h => by
    by_cases hm : nm ∈ pn
    · obtain ⟨e1, e2⟩ := merge_in (σ := σ) (σ' := σ') (θ := θ) (θ' := θ') hm
      obtain ⟨e3, e4⟩ := restr_in (σ := σ) (θ := θ) hm
      rw [e1, e2, ← e4]
      exact hfr.karr nm gen rows (by rw [e3]; exact h)
    · obtain ⟨e1, e2⟩ := merge_out (σ := σ) (σ' := σ') (θ := θ) (θ' := θ') hm
      rw [e1, e2]; exact .inr ⟨gen, rows, h, Nat.le_refl _, fun _ => ⟨rfl, Nat.le_refl _⟩⟩
  kvec := fun nm k h => by
    by_cases hm : nm ∈ pn
    · obtain ⟨e1, e2⟩ := merge_in (σ := σ) (σ' := σ') (θ := θ) (θ' := θ') hm
      obtain ⟨e3, e4⟩ := restr_in (σ := σ) (θ := θ) hm
      rw [e1, e2, ← e4]
      exact hfr.kvec nm k (by rw [e3]; exact h)
    · obtain ⟨e1, e2⟩ := merge_out (σ := σ) (σ' := σ') (θ := θ) (θ' := θ') hm
      rw [e1, e2]; exact .inr ⟨k, h, Nat.le_refl _, fun _ => rfl, fun _ _ h => .inl h⟩
theorem merge_ext {pn : List Nat} (hun : ∀ nm, nm ∉ pn → σ' nm = .unused) (nm : Nat) (h : σ' nm ≠ .unused) : merge pn σ σ' nm = σ' nm ∧ mergeN pn θ θ' nm = θ' nm := by
  by_cases hm : nm ∈ pn
  · exact merge_in hm
  · exact absurd (hun nm hm) h
theorem merge_st {pn : List Nat} (hs : St J w S F θ σ l g) (hfr : Fr w S F (restrN pn θ) (restr pn σ) w' S' F' θ' σ') (hs' : St J w' S' F' θ' σ' l g') (hun : ∀ nm, nm ∉ pn → σ' nm = .unused) :
    St J w' S' F' (mergeN pn θ θ') (merge pn σ σ') l g' := by
  have hM := merge_fr hs hfr
  have clash : ∀ {n1 n2 b m m'}, n1 ∉ pn → (σ n1).live → θ n1 = some (b, m) → n2 ∈ pn → (σ' n2).live → θ' n2 = some (b, m') → False := by
    intro n1 n2 b m m' h1 h2 h3 h4 h5 h6
    obtain ⟨n3, m3, h7, h8, h9⟩ := live_restr (hfr.live b ⟨n2, m', h5, h6⟩ (live_lt hs h2 h3))
    exact h1 (by rw [hs.hinj n1 n3 b m m3 h2 h8 h3 h9]; exact h7)
  refine ⟨hs'.hS, fun nm => ?_, fun n1 n2 b m m' h1 h2 h3 h4 => ?_, ?_, fun b hb => ?_, hs'.hJ⟩
  · by_cases hm : nm ∈ pn
    · obtain ⟨e1, e2⟩ := merge_in (σ := σ) (σ' := σ') (θ := θ) (θ' := θ') hm
      have hk := hs'.hblk nm
      rw [e1]
      cases h : σ' nm with
      | unused => rw [h] at hk; simp only [BlkOk] at hk ⊢; rw [e2]; exact hk
      | dead => trivial
      | box row =>
        rw [h] at hk
        simp only [BlkOk] at hk ⊢
        obtain ⟨b, c, e, h1, h2, h3, h4⟩ := hk
        refine ⟨b, c, e, by rw [e2]; exact h1, h2, h3, fun j v hj => ?_⟩
        obtain ⟨y, hy, hr⟩ := h4 j v hj
        exact ⟨y, hy, hr.ext (merge_ext hun)⟩
      | arr gen rows => rw [h] at hk; simp only [BlkOk] at hk ⊢; rw [e2]; exact hk
      | vec k => rw [h] at hk; simp only [BlkOk] at hk ⊢; rw [e2]; exact hk
    · obtain ⟨e1, e2⟩ := merge_out (σ := σ) (σ' := σ') (θ := θ) (θ' := θ') hm
      exact BlkOk.later hs hM nm e1 e2 fun b m h1 h2 => kept_block hs hfr hm h1 h2
  · by_cases m1 : n1 ∈ pn
    · obtain ⟨e1, e2⟩ := merge_in (σ := σ) (σ' := σ') (θ := θ) (θ' := θ') m1
      rw [e1] at h1
      rw [e2] at h3
      by_cases m2 : n2 ∈ pn
      · obtain ⟨e3, e4⟩ := merge_in (σ := σ) (σ' := σ') (θ := θ) (θ' := θ') m2
        exact hs'.hinj n1 n2 b m m' h1 (by rw [← e3]; exact h2) h3 (by rw [← e4]; exact h4)
      · obtain ⟨e3, e4⟩ := merge_out (σ := σ) (σ' := σ') (θ := θ) (θ' := θ') m2
        exact (clash m2 (by rw [← e3]; exact h2) (by rw [← e4]; exact h4) m1 h1 h3).elim
    · obtain ⟨e1, e2⟩ := merge_out (σ := σ) (σ' := σ') (θ := θ) (θ' := θ') m1
      rw [e1] at h1
      rw [e2] at h3
      by_cases m2 : n2 ∈ pn
      · obtain ⟨e3, e4⟩ := merge_in (σ := σ) (σ' := σ') (θ := θ) (θ' := θ') m2
        exact (clash m1 h1 h3 m2 (by rw [← e3]; exact h2) (by rw [← e4]; exact h4)).elim
      · obtain ⟨e3, e4⟩ := merge_out (σ := σ) (σ' := σ') (θ := θ) (θ' := θ') m2
        exact hs.hinj n1 n2 b m m' h1 (by rw [← e3]; exact h2) h3 (by rw [← e4]; exact h4)
  · rintro b ⟨nm, m, h1, h2⟩ hS
    by_cases hm : nm ∈ pn
    · obtain ⟨e1, e2⟩ := merge_in (σ := σ) (σ' := σ') (θ := θ) (θ' := θ') hm
      exact hs'.hliveS b ⟨nm, m, by rw [← e1]; exact h1, by rw [← e2]; exact h2⟩ hS
    · obtain ⟨e1, e2⟩ := merge_out (σ := σ) (σ' := σ') (θ := θ) (θ' := θ') hm
      rw [e1] at h1
      rw [e2] at h2
      rcases hfr.snew b hS with h | h | h | h
      · exact hs.hliveS b ⟨nm, m, h1, h2⟩ h
      · obtain ⟨n3, m3, h7, h8, h9⟩ := live_restr h
        exact hm (by rw [hs.hinj nm n3 b m m3 h1 h8 h2 h9]; exact h7)
      · exact (hs.hF b h).2.2 ⟨nm, m, h1, h2⟩
      · have := live_lt hs h1 h2; omega
  · obtain ⟨k1, k2, k3⟩ := hs'.hF b hb
    refine ⟨k1, k2, ?_⟩
    rintro ⟨nm, m, h1, h2⟩
    by_cases hm : nm ∈ pn
    · obtain ⟨e1, e2⟩ := merge_in (σ := σ) (σ' := σ') (θ := θ) (θ' := θ') hm
      exact k3 ⟨nm, m, by rw [← e1]; exact h1, by rw [← e2]; exact h2⟩
    · obtain ⟨e1, e2⟩ := merge_out (σ := σ) (σ' := σ') (θ := θ) (θ' := θ') hm
      rw [e1] at h1
      rw [e2] at h2
      exact (hs.hF b (hfr.fsub b hb (live_lt hs h1 h2))).2.2 ⟨nm, m, h1, h2⟩
end
section
variable {G : Type} {J : JT G} {w w' w'' : World} {S F S' F' S'' F'' : Nat → Prop} {θ θ' θ'' : Names} {σ σ' σ'' : Store} {l : Nat} {g g' : G}
variable {P : Program} {o : Oper} {a : Act} {ρ : Env} {K : V → Store → G → Prop} {H : HT G}
theorem reps_append {R : V → Value → Prop} {vs us : List V} {xs ys : List Value} (h1 : Reps R vs xs) (h2 : Reps R us ys) : Reps R (vs ++ us) (xs ++ ys) := by
  refine ⟨by simp [h1.1, h2.1], fun i v x hv hx => ?_⟩
  by_cases c : i < vs.length
  · rw [List.getElem?_append_left c] at hv
    rw [List.getElem?_append_left (by rw [← h1.1]; exact c)] at hx
    exact h1.2 i v x hv hx
  · rw [List.getElem?_append_right (by omega)] at hv
    rw [List.getElem?_append_right (by rw [← h1.1]; omega)] at hx
    exact h2.2 _ v x hv (by rw [h1.1]; exact hx)
theorem reps_pure {vs : List V} {xs : List Value} (h : Reps (Rep w S θ σ l) vs xs) (hp : pureL vs = true) : Reps (RepP w S) vs xs :=
  ⟨h.1, fun i v x hv hx => (h.2 i v x hv hx).toP ((pureL_iff vs).1 hp v (mem_of_get hv))⟩
theorem reps_map {R R' : V → Value → Prop} {f : V → V} {vs : List V} {xs : List Value} (h : Reps R vs xs) (hf : ∀ v x, v ∈ vs → R v x → R' (f v) x) : Reps R' (vs.map f) xs := by
  refine ⟨by simpa using h.1, fun i v x hv hx => ?_⟩
  rw [List.getElem?_map] at hv
  cases h4 : vs[i]? with
  | none => simp [h4] at hv
  | some u => simp [h4] at hv; subst hv; exact hf u x (mem_of_get h4) (h.2 i u x h4 hx)
def wf (ro : Option Nat) : Fence := { Fence.wide with round := ro }
theorem callsIn_wf {ro : Option Nat} {f : FuncId} {args : Array Value} {R : Ending → World → Prop} (h : CallsIn Fence.wide 0 P f args w R) : CallsIn (wf ro) 0 P f args w R := h
theorem roundIn_wf {ro : Option Nat} {lf : Nat} {f : FuncId} {tmps : Array Value} {assign body : Code} {R : Ending → World → Prop} (h : RoundIn Fence.wide 0 P lf f tmps assign body w R) : RoundIn (wf ro) 0 P lf f tmps assign body w R := h
theorem runs_wp {next : Act → World → Prop} {Q : Exit → Act → World → Prop} {ro : Option Nat} (hd : ∀ c, o.op ≠ .defer c) (h : RunsTo P o a w (OpPost J w S F θ σ l K))
    (hn : ∀ x w', OpPost J w S F θ σ l K x w' → next (a.put o.dst x) w') : o.wpIn (wf ro) 0 P a w next Q := by
  refine ⟨fun _ _ => trivial, ?_⟩
  rw [Oper.semAt_eq _ _ _ hd]
  obtain ⟨x, w', h1, h2⟩ := h
  rcases h1 with h1 | ⟨h1, rfl⟩
  · rw [h1]; exact hn x w' h2
  · rw [h1]; exact hn undef w' h2
theorem chk_not_defer {aop : AOp} (hc : chkOp P o.op aop = true) : ∀ c, o.op ≠ .defer c := by
  intro c e
  rw [e] at hc
  cases aop <;> simp [chkOp] at hc
theorem find_callable {f : Nat} (h : callable P f = true) : ∃ fn, P.funcs[f]? = some fn ∧ fn.name ≠ "runtime.NumGoroutine" ∧ fn.body.isSome = true := by
  unfold callable at h
  split at h
  · rename_i fn hf
    simp only [Bool.and_eq_true, bne_iff_ne, ne_eq] at h
    exact ⟨fn, hf, h.1, h.2⟩
  · cases h
theorem call_run {f : Nat} (h : callable P f = true) (args : Array Value) (w : World) : (callFunc f args).run P w = .ok (.enter f args) w := by
  obtain ⟨fn, hf, hn, hb⟩ := find_callable h
  obtain ⟨c, hc⟩ := Option.isSome_iff_exists.1 hb
  simp [callFunc, hf, hn, hc]
theorem call_op {c : Call} {f : Nat} {fa : Operand} {caps : List Value} (hop : o.op = .call c) (hcal : c.callee = .value fa) (hf : a.eval fa = .func (.func f) #[] caps.toArray) (hb : callable P f = true) (w : World) :
    (execOp a.eval o).run P w = .ok (.enter f ((c.args.toList.map a.eval) ++ caps).toArray) w := by
  obtain ⟨callee, args, argTypes⟩ := c
  dsimp only at hcal
  subst hcal
  have e : ((args.toList.map a.eval) ++ caps).toArray = args.map a.eval ++ caps.toArray := by
    apply Array.ext'
    simp
  rw [e]
  simp [execOp, hop, resolve, hf, Deferred.ofValue, invoke, call_run hb]
theorem yield_op {c : Call} {l : Nat} {fa : Operand} (hop : o.op = .call c) (hcal : c.callee = .value fa) (hf : a.eval fa = .func (.yield l) #[] #[]) (w : World) :
    (execOp a.eval o).run P w = (Instr.yield l (c.args.toList.map a.eval).toArray).run P w := by
  obtain ⟨callee, args, argTypes⟩ := c
  dsimp only at hcal
  subst hcal
  have e : (args.toList.map a.eval).toArray = args.map a.eval := by
    apply Array.ext'
    simp
  rw [e]
  simp [execOp, hop, resolve, hf, Deferred.ofValue, invoke]
theorem call_wp {m : Mode} {f : Opd} {args : List Opd} {next : Act → World → Prop} {Q : Exit → Act → World → Prop} {ro : Option Nat} (hst : Stable J) (hM : MonoH H) (hH : HokS P J H l) (hs : St J w S F θ σ l g) (he : EnvRep w S θ σ l ρ a.tmps)
    (hc : chkOp P o.op (.call m f args) = true) (h : AWop P H ρ σ g (.call m f args) K) (hn : ∀ x w', OpPost J w S F θ σ l K x w' → next (a.put o.dst x) w') : o.wpIn (wf ro) 0 P a w next Q := by
  have hd := chk_not_defer hc
  refine ⟨fun _ _ => trivial, ?_⟩
  rw [Oper.semAt_eq _ _ _ hd]
  cases ho : o.op <;> rw [ho] at hc <;> simp only [chkOp, Bool.false_eq_true] at hc
  rename_i c
  simp only [Bool.and_eq_true] at hc
  obtain ⟨hc1, hc2⟩ := hc
  split at hc1
  · rename_i fa hcal
    have rf := opd_rep he hc1
    have ra := opds_rep he hc2
    simp only [AWop] at h
    generalize hv : ev ρ f = v at h rf
    generalize hvs : args.map (ev ρ) = vs at h ra
    have hlen := ra.1
    unfold AWcall at h
    split at h
    ·
      rename_i fid caps
      obtain ⟨r, ⟨hcb, hfn⟩, hpf, hk⟩ := h
      obtain ⟨cs, hfe, hcl, hcr⟩ := rf.fn_inv
      have hall : Reps (Rep w S θ σ l) (vs ++ caps) ((c.args.toList.map a.eval) ++ cs) := reps_append ra ⟨hcl, hcr⟩
      rw [call_op ho hcal hfe hcb]
      refine ⟨(fun h => by cases h), ?_⟩
      by_cases hp : pureL (vs ++ caps) = true
      · have hcall := hfn w S _ hs.hS (hst.1 _ _ _ _ hs.hJ) (reps_map (reps_pure hall hp) (fun v x _ hr => hr.er σ 6))
        refine (callsIn_wf hcall).mono fun e w' he' => ?_
        obtain ⟨x', S', rfl, hr, hS1, hS2, hg⟩ := he'
        refine hn x' w' ⟨r, σ, g, _, F, θ, hk, St.grow hst hs hg (N := fun b => S' b ∧ w.heap.size ≤ b) (fun b hb => hb.2) (fun b hb => hS2 b hb.1), Fr.grow hs hg (fun b hb => hb.2), .pure (hr.mono (fun _ _ => rfl) fun b hb => ?_)⟩
        rcases hS1 b hb with h1 | h1
        · exact .inl h1
        · exact .inr ⟨hb, h1⟩
      · have hfl : flatB r = true := by
          cases hfr : flatB r with
          | true => rfl
          | false =>
            rw [hfr] at hpf
            simp at hpf
            exact absurd hpf hp
        have hcall := hfn w (All w) _ (fun b hb => hb) ((hst.1 _ _ _ _ hs.hJ).same (fun _ _ => rfl) hs.hS) (reps_map hall (fun v x _ hr => hr.er hs 6))
        refine (callsIn_wf hcall).mono fun e w' he' => ?_
        obtain ⟨x', S', rfl, hr, hS1, hS2, hg⟩ := he'
        exact hn x' w' ⟨r, σ, g, _, F, θ, hk, St.grow hst hs hg (N := fun _ => False) (fun b hb => hb.elim) (fun b hb => hb.elim), Fr.grow hs hg (fun b hb => hb.elim), .pure (hr.flat hfl)⟩
    ·
      rename_i pn fid caps
      obtain ⟨hcl1, hcl2, ⟨hcb, hct⟩, hk⟩ : _ ∧ _ ∧ _ ∧ True := ⟨h.1, h.2.1, h.2.2, trivial⟩
      obtain ⟨cs, hfe, hcl, hcr⟩ := rf.fn_inv
      have hall : Reps (Rep w S θ σ l) (vs ++ caps) ((c.args.toList.map a.eval) ++ cs) := reps_append ra ⟨hcl, hcr⟩
      have hr0 : Reps (Rep w S (restrN pn θ) (restr pn σ) l) (vs ++ caps) ((c.args.toList.map a.eval) ++ cs) :=
        ⟨hall.1, fun i v x h1 h2 => (hall.2 i v x h1 h2).restr (fun nm hm => restr_in hm) ((closedL_iff pn _).1 hcl1 v (mem_of_get h1))⟩
      have hs0 : St J w S F (restrN pn θ) (restr pn σ) l g := hs.restr (fun nm hm => restr_in hm) (fun nm hm => restr_out hm) (fun nm hm row hrow => (closedSt_iff pn σ pn).1 hcl2 nm hm row hrow)
      have hcall := hct J l hst hM hH w S F _ _ hs0 hr0
      rw [call_op ho hcal hfe hcb]
      refine ⟨(fun h => by cases h), (callsIn_wf hcall).mono fun e w' he' => ?_⟩
      obtain ⟨r, x', σ', g', S', F', θ', rfl, hK, hs', hr', hfr, hun⟩ := he'
      exact hn x' w' ⟨r, merge pn σ σ', g', S', F', mergeN pn θ θ', hK, merge_st hs hfr hs' hun, merge_fr hs hfr, hr'.ext (merge_ext hun)⟩
    ·
      obtain ⟨hp, hk⟩ := h
      have hfe := rf.rnd_inv
      have hs0 : St J w S F (restrN [] θ) (restr [] σ) l g := hs.restr (pn := []) (fun nm hm => by cases hm) (fun nm hm => restr_out hm) (fun nm hm => by cases hm)
      have e1 : restr [] σ = σ0 := by funext nm; exact (restr_out (σ := σ) (θ := θ) (List.not_mem_nil)).1
      have e2 : restrN [] θ = θ0 := by funext nm; exact (restr_out (σ := σ) (θ := θ) (List.not_mem_nil)).2
      obtain ⟨lf, tmps, asg, body, hy, hro⟩ := hH vs (c.args.toList.map a.eval) g w S F _ (by rw [← e1, ← e2]; exact hs0) (reps_pure ra hp) hk
      rw [yield_op ho hcal hfe, hy]
      refine ⟨(fun h => by cases h), (roundIn_wf hro).mono fun e w' he' => ?_⟩
      obtain ⟨r, x', g', S', F', rfl, hK, hr', hs', hfr⟩ := he'
      have hfr' : Fr w S F (restrN [] θ) (restr [] σ) w' S' F' θ0 σ0 := by rw [e1, e2]; exact hfr
      have e3 : merge [] σ σ0 = σ := by funext nm; exact (merge_out (σ := σ) (σ' := σ0) (θ := θ) (θ' := θ0) (List.not_mem_nil)).1
      have h1 := merge_st hs hfr' hs' (fun nm _ => rfl)
      have h2 := merge_fr hs hfr'
      rw [e3] at h1 h2
      exact hn x' w' ⟨r, σ, g', S', F', _, hK, h1, h2, .pure hr'⟩
    · exact h.elim
  · cases hc1
theorem op_wp {aop : AOp} {next : Act → World → Prop} {Q : Exit → Act → World → Prop} {ro : Option Nat} (hst : Stable J) (hM : MonoH H) (hH : HokS P J H l) (hs : St J w S F θ σ l g) (he : EnvRep w S θ σ l ρ a.tmps)
    (hc : chkOp P o.op aop = true) (h : AWop P H ρ σ g aop K) (hn : ∀ x w', OpPost J w S F θ σ l K x w' → next (a.put o.dst x) w') : o.wpIn (wf ro) 0 P a w next Q := by
  have hd := chk_not_defer hc
  cases aop with
  | mov x => exact runs_wp hd (sop_mov hs he hc h) hn
  | newVec nm => exact runs_wp hd (sop_newVec hst hs hc h) hn
  | newArr nm => exact runs_wp hd (sop_newArr hst hs hc h) hn
  | pick c x y => exact runs_wp hd (sop_pick hs he hc h) hn
  | bin op st et x y => exact runs_wp hd (sop_bin hs he hc h) hn
  | not x => exact runs_wp hd (sop_not hs he hc h) hn
  | dead => exact absurd h (by simp [AWop])
  | len s x => exact runs_wp hd (sop_len hs he hc h) hn
  | alloc nm z => exact runs_wp hd (sop_alloc hst hs hc h) hn
  | box nm size x => exact runs_wp hd (sop_box hst hs he hc h) hn
  | build z ps => exact runs_wp hd (sop_build hs he hc h) hn
  | bsl size xs => exact runs_wp hd (sop_bsl hst hs he hc h) hn
  | bslO nm size xs => exact runs_wp hd (sop_bslO hst hs he hc h) hn
  | load agg size x => exact runs_wp hd (sop_load hs he hc h) hn
  | store size x y => exact runs_wp hd (sop_store hst hs he hc h) hn
  | faddr off x => exact runs_wp hd (sop_faddr hs he hc h) hn
  | field agg size off x => exact runs_wp hd (sop_field hs he hc h) hn
  | iaddr size x i => exact runs_wp hd (sop_iaddr hs he hc h) hn
  | index x i => exact runs_wp hd (sop_index hs he hc h) hn
  | idxA len x i => exact runs_wp hd (sop_idxA hs he hc h) hn
  | extract x i => exact runs_wp hd (sop_extract hs he hc h) hn
  | append size bytes x y => exact runs_wp hd (sop_append hst hs he hc h) hn
  | appR size bytes x y => exact runs_wp hd (sop_appR hst hs he hc h) hn
  | slice s size x lo hi => exact runs_wp hd (sop_slice hs he hc h) hn
  | cut0 x => exact runs_wp hd (sop_cut0 hs he hc h) hn
  | mkSl nm size bytes z x y => exact runs_wp hd (sop_mkSl hst hs he hc h) hn
  | mkVec nm size bytes x y => exact runs_wp hd (sop_mkVec hst hs he hc h) hn
  | mkfn f caps => exact runs_wp hd (sop_mkfn hs he hc h) hn
  | conv k x => exact runs_wp hd (sop_conv hs he hc h) hn
  | nilck x => exact runs_wp hd (sop_nilck hs he hc h) hn
  | bslA nm size xs => exact runs_wp hd (sop_bslA hst hs he hc h) hn
  | clear size bytes z x => exact runs_wp hd (sop_clear hst hs he hc h) hn
  | isnil neg x => exact runs_wp hd (sop_isnil hs he hc h) hn
  | isnili neg x => exact runs_wp hd (sop_isnili hs he hc h) hn
  | max x y => exact runs_wp hd (sop_max hs he hc h) hn
  | call m f args => exact call_wp hst hM hH hs he hc h hn
end
def AOp.opds : AOp → List Opd
  | .mov x => [x]
  | .newVec _ => []
  | .newArr _ => []
  | .pick c a b => [c, a, b]
  | .bin _ _ _ x y => [x, y]
  | .not x => [x]
  | .len _ x => [x]
  | .alloc _ _ => []
  | .box _ _ x => [x]
  | .build _ ps => ps.map fun p => p.2.2
  | .bsl _ xs => xs
  | .bslO _ _ xs => xs
  | .load _ _ a => [a]
  | .store _ a x => [a, x]
  | .faddr _ x => [x]
  | .field _ _ _ x => [x]
  | .iaddr _ x i => [x, i]
  | .index x i => [x, i]
  | .idxA _ x i => [x, i]
  | .extract x _ => [x]
  | .append _ _ _ x y => [x, y]
  | .appR _ _ _ x y => [x, y]
  | .slice _ _ x lo hi => x :: (lo.toList ++ hi.toList)
  | .cut0 x => [x]
  | .mkSl _ _ _ _ a b => [a, b]
  | .mkVec _ _ _ a b => [a, b]
  | .mkfn _ caps => caps
  | .conv _ x => [x]
  | .nilck x => [x]
  | .isnil _ x => [x]
  | .isnili _ x => [x]
  | .bslA _ _ xs => xs
  | .clear _ _ _ x => [x]
  | .max x y => [x, y]
  | .dead => []
  | .call _ f args => f :: args
def AOp.isE : AOp → Bool
  | .mov _ | .pick .. | .bin .. | .not _ | .build .. | .bsl .. | .field .. | .index .. | .idxA .. | .extract .. | .cut0 _ | .mkfn .. | .conv .. | .max .. => true
  | _ => false
def AOp.isR (o : AOp) : Bool := o.isE || (match o with
  | .load .. | .faddr .. | .iaddr .. | .slice .. | .len .. | .nilck .. | .call .f _ _ => true
  | _ => false)
section
variable {G : Type} {P : Program} {H : HT G} {ρ ρ' : Env} {σ σ' : Store} {g g' : G} {K K' : V → Store → G → Prop}
theorem abin_split {op : BinOp} {st : Bool} {et : List LT} {x y : V} {Kv : V → Prop} (h : abin op st et x y Kv) : ∃ v, Kv v ∧ ∀ K' : V → Prop, K' v → abin op st et x y K' := by
  unfold abin at h ⊢
  split at h <;> first
    | exact h.elim
    | exact ⟨_, h.2, fun K' hk => ⟨h.1, hk⟩⟩
    | (cases hk : kEq _ _ with
       | false => rw [hk] at h; exact h.elim
       | true =>
         rw [hk] at h
         simp only [cond_true] at h ⊢
         first
           | exact ⟨_, h.2.2, fun K' hk => ⟨h.1, h.2.1, hk⟩⟩
           | exact ⟨_, h.2, fun K' hk => ⟨h.1, hk⟩⟩
           | exact ⟨_, h, fun K' hk => hk⟩)
    | (cases he : eqv st et x y with
       | none => rw [he] at h; exact h.elim
       | some b =>
         rw [he] at h
         exact ⟨_, h, fun K' hk => hk⟩)
theorem E_split {o : AOp} (he : o.isE = true) (h : AWop P H ρ σ g o K) : ∃ v, K v σ g ∧ ∀ (σ' : Store) (g' : G) (K' : V → Store → G → Prop), K' v σ' g' → AWop P H ρ σ' g' o K' := by
  cases o <;> simp only [AOp.isE, Bool.false_eq_true] at he
  case mov x => exact ⟨_, h, fun σ' g' K' hk => hk⟩
  case pick c a b =>
    simp only [AWop] at h ⊢
    split at h
    · exact ⟨_, h, fun σ' g' K' hk => hk⟩
    · exact h.elim
  case bin op st et x y =>
    simp only [AWop] at h ⊢
    obtain ⟨v, h1, h2⟩ := abin_split h
    exact ⟨v, h1, fun σ' g' K' hk => h2 _ hk⟩
  case not x =>
    simp only [AWop] at h ⊢
    split at h
    · exact ⟨_, h, fun σ' g' K' hk => hk⟩
    · exact h.elim
  case build z ps =>
    simp only [AWop] at h ⊢
    split at h
    · exact ⟨_, h, fun σ' g' K' hk => hk⟩
    · exact h.elim
  case bsl size xs =>
    simp only [AWop] at h ⊢
    exact ⟨_, h.2, fun σ' g' K' hk => ⟨h.1, hk⟩⟩
  case field agg size off x =>
    simp only [AWop] at h ⊢
    split at h
    · split at h
      · exact ⟨_, h, fun σ' g' K' hk => hk⟩
      · exact h.elim
    · exact h.elim
  case index x i =>
    simp only [AWop] at h ⊢
    split at h
    · obtain ⟨h0, c, hc, hk⟩ := h
      exact ⟨_, hk, fun σ' g' K' hk => ⟨h0, c, hc, hk⟩⟩
    · exact h.elim
  case idxA len x i =>
    simp only [AWop] at h ⊢
    split at h
    · obtain ⟨h0, h1, c, hc, hk⟩ := h
      exact ⟨_, hk, fun σ' g' K' hk => ⟨h0, h1, c, hc, hk⟩⟩
    · exact h.elim
  case extract x i =>
    simp only [AWop] at h ⊢
    split at h
    · split at h
      · exact ⟨_, h, fun σ' g' K' hk => hk⟩
      · exact h.elim
    · exact h.elim
  case cut0 x =>
    simp only [AWop] at h ⊢
    split at h
    · exact ⟨_, h, fun σ' g' K' hk => hk⟩
    · exact h.elim
  case mkfn f caps => exact ⟨_, h, fun σ' g' K' hk => hk⟩
  case conv k x =>
    simp only [AWop] at h ⊢
    split at h
    · exact ⟨_, h.2, fun σ' g' K' hk => ⟨h.1, hk⟩⟩
    · exact h.elim
  case max x y =>
    simp only [AWop] at h ⊢
    split at h
    · cases hk : kEq _ _ with
      | false => rw [hk] at h; exact h.elim
      | true => rw [hk] at h; exact ⟨_, h, fun σ' g' K' hk => hk⟩
    · exact h.elim
theorem R_split {o : AOp} (he : o.isR = true) (h : AWop P H ρ σ g o K) : ∃ v, K v σ g ∧ ∀ (K' : V → Store → G → Prop), K' v σ g → AWop P H ρ σ g o K' := by
  unfold AOp.isR at he
  cases hE : o.isE with
  | true =>
    obtain ⟨v, h1, h2⟩ := E_split hE h
    exact ⟨v, h1, fun K' hk => h2 σ g K' hk⟩
  | false =>
    rw [hE] at he
    simp only [Bool.false_or] at he
    split at he
    case h_8 => cases he
    case h_1 agg size a =>
      simp only [AWop] at h ⊢
      split at h
      · split at h
        · split at h
          · exact ⟨_, h, fun K' hk => hk⟩
          · exact h.elim
        · exact h.elim
      · split at h
        · obtain ⟨h0, row, hr, h⟩ := h
          split at h
          · exact ⟨_, h, fun K' hk => ⟨h0, row, hr, by simp only [*]⟩⟩
          · exact h.elim
        · exact h.elim
      · split at h
        · exact ⟨_, h, fun K' hk => hk⟩
        · exact h.elim
      · obtain ⟨nm, ll, v, h1, h2, h⟩ := h
        exact ⟨_, h, fun K' hk => ⟨nm, ll, v, h1, h2, hk⟩⟩
      · exact h.elim
    case h_2 off x =>
      simp only [AWop] at h ⊢
      split at h
      · exact ⟨_, h, fun K' hk => hk⟩
      · split at h
        · exact ⟨_, h, fun K' hk => hk⟩
        · exact h.elim
      · split at h
        · exact ⟨_, h.2, fun K' hk => ⟨h.1, hk⟩⟩
        · exact h.elim
      · exact ⟨_, h, fun K' hk => hk⟩
      · exact h.elim
    case h_3 size x i =>
      simp only [AWop] at h ⊢
      split at h
      · obtain ⟨h0, row, hr, hw, h⟩ := h
        exact ⟨_, h, fun K' hk => ⟨h0, row, hr, hw, hk⟩⟩
      · split at h
        · obtain ⟨h0, h1, h2, h3, h⟩ := h
          exact ⟨_, h, fun K' hk => ⟨h0, h1, h2, h3, hk⟩⟩
        · exact h.elim
      · obtain ⟨h0, h1, h⟩ := h
        exact ⟨_, h, fun K' hk => ⟨h0, h1, hk⟩⟩
      · exact h.elim
    case h_4 s size x lo hi =>
      simp only [AWop] at h ⊢
      split at h
      · obtain ⟨h0, h1, h2, h⟩ := h
        exact ⟨_, h, fun K' hk => ⟨h0, h1, h2, hk⟩⟩
      · obtain ⟨h0, h1, h2, h3, h⟩ := h
        exact ⟨_, h, fun K' hk => ⟨h0, h1, h2, h3, hk⟩⟩
      · obtain ⟨h0, h1, h⟩ := h
        exact ⟨_, h, fun K' hk => ⟨h0, h1, hk⟩⟩
      · obtain ⟨h0, h1, h2, h⟩ := h
        exact ⟨_, h, fun K' hk => ⟨h0, h1, h2, hk⟩⟩
      · split at h
        · obtain ⟨h0, h1, h2, h3, h⟩ := h
          exact ⟨_, h, fun K' hk => ⟨h0, h1, h2, h3, hk⟩⟩
        · exact h.elim
      · split at h
        · obtain ⟨h0, h1, h2, h3, h4, h⟩ := h
          exact ⟨_, h, fun K' hk => ⟨h0, h1, h2, h3, h4, hk⟩⟩
        · exact h.elim
      · exact h.elim
    case h_5 s x =>
      simp only [AWop] at h ⊢
      split at h
      · exact ⟨_, h, fun K' hk => hk⟩
      · split at h
        · exact ⟨_, h.2, fun K' hk => ⟨h.1, hk⟩⟩
        · exact h.elim
      · exact ⟨_, h, fun K' hk => hk⟩
      · exact h.elim
    case h_6 x =>
      simp only [AWop] at h ⊢
      split at h
      · split at h
        · exact ⟨_, h, fun K' hk => hk⟩
        · exact h.elim
      · exact ⟨_, h, fun K' hk => hk⟩
      · exact ⟨_, h, fun K' hk => hk⟩
      · exact ⟨_, h, fun K' hk => hk⟩
      · exact ⟨_, h, fun K' hk => hk⟩
      · exact h.elim
    case h_7 f args =>
      simp only [AWop] at h ⊢
      unfold AWcall at h ⊢
      split at h
      · rename_i fid caps e1
        obtain ⟨r, h1, h2, h3⟩ := h
        exact ⟨r, h3, fun K' hk => ⟨r, h1, h2, hk⟩⟩
      · exact absurd ‹Mode.f = Mode.s _› (by intro h; cases h)
      · exact absurd ‹Mode.f = Mode.y› (by intro h; cases h)
      · exact h.elim
theorem er_cells {σ : Store} {n : Nat} {v : V} (h : ∀ l, v ≠ .agg l) (ht : ∀ b l, v ≠ .tag b l) : (er σ n v).cells = [er σ n v] := by
  cases n with
  | zero => rfl
  | succ n =>
    cases v with
    | agg l => exact absurd rfl (h l)
    | tag b l => exact absurd rfl (ht b l)
    | bptr nm j =>
      simp only [er]
      split <;> rfl
    | msl nm gen i len =>
      simp only [er]
      split
      · cases Nat.beq gen _ <;> rfl
      · rfl
    | ptr nm gen i j =>
      simp only [er]
      split
      · cases Nat.beq gen _
        · rfl
        · simp only [cond_true]
          split <;> rfl
      · rfl
    | _ => rfl
theorem er_weakL {w : World} {S : Nat → Prop} {σ σ' : Store} {n : Nat} (ih : ∀ {v : V} {x : Value}, RepP w S (er σ' n v) x → RepP w S (er σ n v) x) {l : List V} {xs : List Value}
    (h : ∀ (i : Nat) (v : V) (x : Value), (l.map (er σ' n))[i]? = some v → xs[i]? = some x → RepP w S v x) (i : Nat) (v : V) (x : Value) (hv : (l.map (er σ n))[i]? = some v) (hx : xs[i]? = some x) : RepP w S v x := by
  rw [List.getElem?_map] at hv
  cases hu : l[i]? with
  | none => rw [hu] at hv; cases hv
  | some u =>
    rw [hu] at hv
    cases hv
    exact ih (h i _ x (by rw [List.getElem?_map, hu]; rfl) hx)
theorem er_weak {w : World} {S : Nat → Prop} {σ σ' : Store} (hσ : ∀ m, σ' m = σ m ∨ σ m = .unused) : ∀ (n : Nat) {v : V} {x : Value}, RepP w S (er σ' n v) x → RepP w S (er σ n v) x
  | 0, _, x, _ => .any x
  | n + 1, v, x, h => by
    have ih : ∀ {v : V} {x : Value}, RepP w S (er σ' n v) x → RepP w S (er σ n v) x := fun h => er_weak hσ n h
    cases v with
    | agg l =>
      simp only [er] at h ⊢
      cases h with
      | agg _ xs hl h => exact .agg _ xs (by simpa using hl) (er_weakL ih h)
    | tup l =>
      simp only [er] at h ⊢
      cases h with
      | tup _ xs hl h => exact .tup _ xs (by simpa using hl) (er_weakL ih h)
    | fn f l =>
      simp only [er] at h ⊢
      cases h with
      | fn _ _ xs hl h => exact .fn _ _ xs (by simpa using hl) (er_weakL ih h)
    | bptr nm j =>
      rcases hσ nm with e | e
      · simp only [er] at h ⊢
        rw [e] at h
        split
        · rename_i l hb
          rw [hb] at h
          simp only at h
          cases h with
          | cptr _ b o j ys hS hc hr =>
            refine .cptr _ b o j ys hS (fun i v hv => ?_) (fun i v hv => ?_)
            · have hv : (l.map (er σ n))[i]? = some v := hv
              rw [List.getElem?_map] at hv
              cases hu : l[i]? with
              | none => rw [hu] at hv; cases hv
              | some u => exact hc i (er σ' n u) (show (l.map (er σ' n))[i]? = _ by rw [List.getElem?_map, hu]; rfl)
            · have hv : (l.map (er σ n))[i]? = some v := hv
              rw [List.getElem?_map] at hv
              cases hu : l[i]? with
              | none => rw [hu] at hv; cases hv
              | some u =>
                rw [hu] at hv
                cases hv
                exact ih (hr i (er σ' n u) (show (l.map (er σ' n))[i]? = _ by rw [List.getElem?_map, hu]; rfl))
        · exact .any x
        · exact .any x
        · rename_i u hna hnt hng hb
          rw [hb] at h
          have hu : ∀ l, u ≠ .agg l := fun l hl => hna l hl
          have hg : ∀ b l, u ≠ .tag b l := fun b l hl => hng b l hl
          have h : RepP w S (.cptr .p (er σ' n u) j) x := by
            cases u with
            | agg l => exact absurd rfl (hu l)
            | tup l => exact absurd rfl (hnt l)
            | tag b l => exact absurd rfl (hg b l)
            | _ => exact h
          cases h with
          | cptr _ b o j ys hS hc hr =>
            have c1 := er_cells (σ := σ) (n := n) hu hg
            have c2 := er_cells (σ := σ') (n := n) hu hg
            refine .cptr _ b o j ys hS (fun i v hv => ?_) (fun i v hv => ?_)
            · rw [c1] at hv
              rw [c2] at hc
              cases i with
              | zero => exact hc 0 _ rfl
              | succ i => simp at hv
            · rw [c1] at hv
              rw [c2] at hr
              cases i with
              | zero =>
                simp only [List.getElem?_cons_zero, Option.some.injEq] at hv
                subst hv
                exact ih (hr 0 _ rfl)
              | succ i => simp at hv
        · exact .any x
      · simp only [er, e]
        exact .any x
    | msl nm gen i len =>
      rcases hσ nm with e | e
      · simp only [er] at h ⊢
        rw [e] at h
        exact h
      · simp only [er, e]
        exact .any x
    | ptr nm gen i j =>
      rcases hσ nm with e | e
      · simp only [er] at h ⊢
        rw [e] at h
        exact h
      · simp only [er, e]
        exact .any x
    | _ => exact h
theorem Fn_weak {σ σ' : Store} (hσ : ∀ m, σ' m = σ m ∨ σ m = .unused) {f n : Nat} {l : List V} {r : V} (h : Fn P f (l.map (er σ n)) r) : Fn P f (l.map (er σ' n)) r :=
  ⟨h.1, fun w S xs hS hgl hx => h.2 w S xs hS hgl ⟨by simpa using hx.1, er_weakL (er_weak hσ n) hx.2⟩⟩
theorem R_fresh {o : AOp} (he : o.isR = true) (h : AWop P H ρ σ g o K) : ∃ v, K v σ g ∧ ∀ (nm : Nat) (b : Blk), σ nm = .unused → ∀ (K' : V → Store → G → Prop), K' v (ups σ nm b) g → AWop P H ρ (ups σ nm b) g o K' := by
  have same : ∀ {nm : Nat} {b : Blk}, σ nm = .unused → ∀ {m : Nat} {c : Blk}, σ m = c → c ≠ .unused → ups σ nm b m = c := by
    intro nm b hu m c hm hc
    unfold ups
    cases hb : Nat.beq m nm with
    | false => exact hm
    | true =>
      have := Nat.eq_of_beq_eq_true hb
      subst this
      rw [hu] at hm
      exact absurd hm.symm hc
  unfold AOp.isR at he
  cases hE : o.isE with
  | true =>
    obtain ⟨v, h1, h2⟩ := E_split hE h
    exact ⟨v, h1, fun nm b hu K' hk => h2 _ g K' hk⟩
  | false =>
    rw [hE] at he
    simp only [Bool.false_or] at he
    split at he
    case h_8 => cases he
    case h_1 agg size a =>
      simp only [AWop] at h ⊢
      split at h
      · split at h
        · rename_i hb
          split at h
          · exact ⟨_, h, fun nm b hu K' hk => by rw [same hu hb (by simp)]; simp only [*]⟩
          · exact h.elim
        · exact h.elim
      · split at h
        · rename_i hb
          obtain ⟨h0, row, hr, h⟩ := h
          split at h
          · exact ⟨_, h, fun nm b hu K' hk => by rw [same hu hb (by simp)]; exact ⟨h0, row, hr, by simp only [*]⟩⟩
          · exact h.elim
        · exact h.elim
      · split at h
        · exact ⟨_, h, fun nm b hu K' hk => hk⟩
        · exact h.elim
      · obtain ⟨m, ll, v, h1, h2, h⟩ := h
        exact ⟨_, h, fun nm b hu K' hk => ⟨m, ll, v, same hu h1 (by simp), h2, hk⟩⟩
      · exact h.elim
    case h_2 off x =>
      simp only [AWop] at h ⊢
      split at h
      · exact ⟨_, h, fun nm b hu K' hk => hk⟩
      · split at h
        · rename_i hb
          exact ⟨_, h, fun nm b hu K' hk => by rw [same hu hb (by simp)]; exact hk⟩
        · exact h.elim
      · split at h
        · rename_i hb
          exact ⟨_, h.2, fun nm b hu K' hk => by rw [same hu hb (by simp)]; exact ⟨h.1, hk⟩⟩
        · exact h.elim
      · exact ⟨_, h, fun nm b hu K' hk => hk⟩
      · exact h.elim
    case h_3 size x i =>
      simp only [AWop] at h ⊢
      split at h
      · obtain ⟨h0, row, hr, hw, h⟩ := h
        exact ⟨_, h, fun nm b hu K' hk => ⟨h0, row, hr, hw, hk⟩⟩
      · split at h
        · rename_i hb
          obtain ⟨h0, h1, h2, h3, h⟩ := h
          exact ⟨_, h, fun nm b hu K' hk => by rw [same hu hb (by simp)]; exact ⟨h0, h1, h2, h3, hk⟩⟩
        · exact h.elim
      · obtain ⟨h0, h1, h⟩ := h
        exact ⟨_, h, fun nm b hu K' hk => ⟨h0, h1, hk⟩⟩
      · exact h.elim
    case h_4 s size x lo hi =>
      simp only [AWop] at h ⊢
      split at h
      · obtain ⟨h0, h1, h2, h⟩ := h
        exact ⟨_, h, fun nm b hu K' hk => ⟨h0, h1, h2, hk⟩⟩
      · obtain ⟨h0, h1, h2, h3, h⟩ := h
        exact ⟨_, h, fun nm b hu K' hk => ⟨h0, h1, h2, h3, hk⟩⟩
      · obtain ⟨h0, h1, h⟩ := h
        exact ⟨_, h, fun nm b hu K' hk => ⟨h0, h1, hk⟩⟩
      · obtain ⟨h0, h1, h2, h⟩ := h
        exact ⟨_, h, fun nm b hu K' hk => ⟨h0, h1, h2, hk⟩⟩
      · split at h
        · rename_i hb
          obtain ⟨h0, h1, h2, h3, h⟩ := h
          exact ⟨_, h, fun nm b hu K' hk => by rw [same hu hb (by simp)]; exact ⟨h0, h1, h2, h3, hk⟩⟩
        · exact h.elim
      · split at h
        · rename_i hb
          obtain ⟨h0, h1, h2, h3, h4, h⟩ := h
          exact ⟨_, h, fun nm b hu K' hk => by rw [same hu hb (by simp)]; exact ⟨h0, h1, h2, h3, h4, hk⟩⟩
        · exact h.elim
      · exact h.elim
    case h_5 s x =>
      simp only [AWop] at h ⊢
      split at h
      · exact ⟨_, h, fun nm b hu K' hk => hk⟩
      · split at h
        · rename_i hb
          exact ⟨_, h.2, fun nm b hu K' hk => by rw [same hu hb (by simp)]; exact ⟨h.1, hk⟩⟩
        · exact h.elim
      · exact ⟨_, h, fun nm b hu K' hk => hk⟩
      · exact h.elim
    case h_6 x =>
      simp only [AWop] at h ⊢
      split at h
      · split at h
        · rename_i hb
          exact ⟨_, h, fun nm b hu K' hk => by rw [same hu hb (by simp)]; exact hk⟩
        · exact h.elim
      · exact ⟨_, h, fun nm b hu K' hk => hk⟩
      · exact ⟨_, h, fun nm b hu K' hk => hk⟩
      · exact ⟨_, h, fun nm b hu K' hk => hk⟩
      · exact ⟨_, h, fun nm b hu K' hk => hk⟩
      · exact h.elim
    case h_7 f args =>
      simp only [AWop] at h ⊢
      unfold AWcall at h ⊢
      split at h
      · rename_i fid caps e1
        obtain ⟨r, h1, h2, h3⟩ := h
        refine ⟨r, h3, fun nm b hu K' hk => ⟨r, Fn_weak (fun m => ?_) h1, h2, hk⟩⟩
        unfold ups
        cases hb : Nat.beq m nm with
        | false => exact .inl rfl
        | true =>
          have := Nat.eq_of_beq_eq_true hb
          subst this
          exact .inr hu
      · exact absurd ‹Mode.f = Mode.s _› (by intro h; cases h)
      · exact absurd ‹Mode.f = Mode.y› (by intro h; cases h)
      · exact h.elim
def AOp.isA : AOp → Bool
  | .newVec _ | .newArr _ | .alloc .. | .box .. | .bslO .. | .mkSl .. | .mkVec .. => true
  | _ => false
theorem A_split {o : AOp} (ha : o.isA = true) (h : AWop P H ρ σ g o K) : ∃ nm b v, σ nm = .unused ∧ K v (ups σ nm b) g ∧ ∀ K' : V → Store → G → Prop, K' v (ups σ nm b) g → AWop P H ρ σ g o K' := by
  cases o <;> try (simp [AOp.isA] at ha; done)
  all_goals simp only [AWop] at h ⊢
  case newVec nm =>
    split at h
    · rename_i hu; exact ⟨nm, _, _, hu, h, fun K' hk => hk⟩
    · exact h.elim
  case newArr nm =>
    split at h
    · rename_i hu; exact ⟨nm, _, _, hu, h, fun K' hk => hk⟩
    · exact h.elim
  case alloc nm z =>
    split at h
    · rename_i hu; exact ⟨nm, _, _, hu, h, fun K' hk => hk⟩
    · exact h.elim
  case box nm size x =>
    split at h
    · rename_i hu
      cases hb : (rowB (ev ρ x) && Nat.beq size (ev ρ x).cells.length) with
      | false => rw [hb] at h; exact h.elim
      | true => rw [hb] at h; exact ⟨nm, _, _, hu, h, fun K' hk => hk⟩
    · exact h.elim
  case bslO nm size xs =>
    split at h
    · rename_i hu; exact ⟨nm, _, _, hu, h.2.2, fun K' hk => ⟨h.1, h.2.1, hk⟩⟩
    · exact h.elim
  case mkSl nm size bytes zero a b =>
    split at h
    · rename_i hu _ _
      obtain ⟨h0, h1, h2, h3, h4, h5, h⟩ := h
      exact ⟨nm, _, _, hu, h, fun K' hk => ⟨h0, h1, h2, h3, h4, h5, hk⟩⟩
    · exact h.elim
  case mkVec nm size bytes a b =>
    split at h
    · rename_i hu _ _
      obtain ⟨h0, h1, h2, h3, h4, h⟩ := h
      exact ⟨nm, _, _, hu, h, fun K' hk => ⟨h0, h1, h2, h3, h4, hk⟩⟩
    · exact h.elim
def AOp.tot : AOp → Bool
  | .mov _ | .mkfn .. => true
  | _ => false
theorem T_split {o : AOp} (ht : o.tot = true) : ∃ v, ∀ (σ : Store) (g : G) (K : V → Store → G → Prop), AWop P H ρ σ g o K ↔ K v σ g := by
  cases o <;> try (simp [AOp.tot] at ht; done)
  case mov x => exact ⟨ev ρ x, fun σ g K => Iff.rfl⟩
  case mkfn f caps => exact ⟨_, fun σ g K => Iff.rfl⟩
theorem AWop_loc {o : AOp} (hl : ∀ x ∈ o.opds, ev ρ x = ev ρ' x) : AWop P H ρ σ g o K ↔ AWop P H ρ' σ g o K := by
  have parts : ∀ (ps : List (Nat × Nat × Opd)) (l : List V), (∀ x ∈ ps.map (fun p => p.2.2), ev ρ x = ev ρ' x) → partsOf ρ l ps = partsOf ρ' l ps := by
    intro ps
    induction ps with
    | nil => intro l _; rfl
    | cons p ps ih =>
      intro l h
      obtain ⟨off, size, x⟩ := p
      simp only [partsOf]
      rw [h x (by simp)]
      split
      · exact ih _ (fun y hy => h y (by simp only [List.map_cons, List.mem_cons]; exact .inr hy))
      · rfl
  have maps : ∀ xs : List Opd, (∀ x ∈ xs, ev ρ x = ev ρ' x) → xs.map (ev ρ) = xs.map (ev ρ') := fun xs h => List.map_congr_left h
  cases o <;> simp only [AOp.opds, List.mem_cons, List.not_mem_nil, or_false, forall_eq_or_imp, forall_eq] at hl <;> simp only [AWop]
  case mov x => rw [hl]
  case pick c a b => rw [hl.1, hl.2.1, hl.2.2]
  case bin op st et x y => rw [hl.1, hl.2]
  case not x => rw [hl]
  case len s x => rw [hl]
  case box nm size x => rw [hl]
  case build z ps => rw [parts ps z hl]
  case bsl size xs => rw [maps xs hl]
  case bslO nm size xs => rw [maps xs hl]
  case load agg size a => rw [hl]
  case store size a x => rw [hl.1, hl.2]
  case faddr off x => rw [hl]
  case field agg size off x => rw [hl]
  case iaddr size x i => rw [hl.1, hl.2]
  case index x i => rw [hl.1, hl.2]
  case idxA len x i => rw [hl.1, hl.2]
  case extract x i => rw [hl]
  case append size bytes et x y => rw [hl.1, hl.2]
  case appR size bytes et x y => rw [hl.1, hl.2]
  case slice s size x lo hi =>
    have e1 : lo.map (ev ρ) = lo.map (ev ρ') := by
      cases lo with
      | none => rfl
      | some y => simp only [Option.map_some]; rw [hl.2 y (by simp)]
    have e2 : hi.map (ev ρ) = hi.map (ev ρ') := by
      cases hi with
      | none => rfl
      | some y => simp only [Option.map_some]; rw [hl.2 y (by simp)]
    rw [hl.1, e1, e2]
  case cut0 x => rw [hl]
  case mkSl nm size bytes zero a b => rw [hl.1, hl.2]
  case mkVec nm size bytes a b => rw [hl.1, hl.2]
  case mkfn f caps => rw [maps caps hl]
  case conv k x => rw [hl]
  case nilck x => rw [hl]
  case isnil neg x => rw [hl]
  case isnili neg x => rw [hl]
  case bslA nm size xs => rw [maps xs hl]
  case clear size bytes z x => rw [hl]
  case max x y => rw [hl.1, hl.2]
  case call m f args => rw [hl.1, maps args hl.2]
def gate (ρ : Env) : Option (Nat × Bool) → Option Bool
  | none => some true
  | some (s, want) => match ρ s with
    | .bool b => some (b == want)
    | .tup [] => some false
    | _ => none
theorem upd_id (ρ : Env) (s : Nat) {v : V} (h : ρ s = v) : upd ρ s v = ρ := by
  funext t
  unfold upd
  cases hb : Nat.beq t s with
  | true => rw [Nat.eq_of_beq_eq_true hb]; simp [h]
  | false => rfl
theorem AWit_gate {dst : Option Nat} {gd : Option (Nat × Bool)} {o : AOp} {K : Env → Store → G → Prop} : AWit P H (.op dst gd o) ρ σ g K ↔
    match gate ρ gd with
    | some true => AWop P H ρ σ g o fun v σ' g' => K (put ρ dst v) σ' g'
    | some false => K (put ρ dst (.tup [])) σ g
    | none => False := by
  cases gd with
  | none => simp only [AWit, gate, force_eq]
  | some p =>
    obtain ⟨s, want⟩ := p
    simp only [AWit, gate, force_eq]
    cases hs : ρ s with
    | bool b =>
      cases b <;> cases want <;> simp only [splitB] <;> simp [upd_id ρ s hs]
    | tup l => cases l <;> simp
    | _ => simp
theorem CT_mono {f : Nat} {args : List V} {pn : List Nat} {K K' : V → Store → G → Prop} (hk : ∀ v σ' g', K v σ' g' → K' v σ' g') (h : CT P H f args pn σ g K) : CT P H f args pn σ g K' := by
  refine ⟨h.1, fun J l h1 h2 h3 w S F θ xs h4 h5 => (h.2 J l h1 h2 h3 w S F θ xs h4 h5).mono fun e w' he => ?_⟩
  obtain ⟨r, x', σ', g', S', F', θ', h6, h7, h8⟩ := he
  exact ⟨r, x', σ', g', S', F', θ', h6, hk _ _ _ h7, h8⟩
theorem AWcall_mono (hM : MonoH H) {m : Mode} {f : V} {args : List V} {K K' : V → Store → G → Prop} (hk : ∀ v σ' g', K v σ' g' → K' v σ' g') (h : AWcall P H σ g m f args K) : AWcall P H σ g m f args K' := by
  unfold AWcall at h ⊢
  split at h
  · obtain ⟨r, h1, h2, h3⟩ := h
    exact ⟨r, h1, h2, hk _ _ _ h3⟩
  · exact ⟨h.1, h.2.1, CT_mono (fun _ _ _ h => hk _ _ _ h) h.2.2⟩
  · exact ⟨h.1, hM _ _ _ _ (fun _ _ h => hk _ _ _ h) h.2⟩
  · exact h.elim
theorem AWop_mono (hM : MonoH H) {o : AOp} {K K' : V → Store → G → Prop} (hk : ∀ v σ' g', K v σ' g' → K' v σ' g') (h : AWop P H ρ σ g o K) : AWop P H ρ σ g o K' := by
  by_cases hR : o.isR = true
  · obtain ⟨v, h1, h2⟩ := R_split hR h
    exact h2 K' (hk _ _ _ h1)
  · cases o <;> try (exact absurd rfl hR)
    all_goals simp only [AWop] at h ⊢
    case isnili neg x =>
      split at h
      · exact hk _ _ _ h
      · exact h.elim
    case isnil neg x =>
      split at h
      · exact fun b hb => hk _ _ _ (h b hb)
      · exact h.elim
    case bslA nm size xs =>
      split at h
      · exact ⟨h.1, h.2.1, hk _ _ _ h.2.2⟩
      · exact h.elim
    case clear size bytes z x =>
      split at h
      · split at h
        · exact ⟨h.1, h.2.1, h.2.2.1, hk _ _ _ h.2.2.2⟩
        · exact h.elim
      · exact h.elim
    case newVec nm =>
      split at h
      · exact hk _ _ _ h
      · exact h.elim
    case newArr nm =>
      split at h
      · exact hk _ _ _ h
      · exact h.elim
    case alloc nm z =>
      split at h
      · exact hk _ _ _ h
      · exact h.elim
    case box nm size x =>
      split at h
      · cases hb : (rowB (ev ρ x) && Nat.beq size (ev ρ x).cells.length) with
        | false => rw [hb] at h; exact h.elim
        | true => rw [hb] at h; exact hk _ _ _ h
      · exact h.elim
    case bslO nm size xs =>
      split at h
      · exact ⟨h.1, h.2.1, hk _ _ _ h.2.2⟩
      · exact h.elim
    case store size a x =>
      split at h
      · split at h
        · split at h
          · exact hk _ _ _ h
          · exact h.elim
        · exact h.elim
      · split at h
        · obtain ⟨h0, h1, row, hr, h⟩ := h
          refine ⟨h0, h1, row, hr, ?_⟩
          split at h
          · exact hk _ _ _ h
          · exact h.elim
        · exact h.elim
      · obtain ⟨nm, ll, ll', h1, h2, h⟩ := h
        exact ⟨nm, ll, ll', h1, h2, hk _ _ _ h⟩
      · exact h.elim
    case append size bytes et x y =>
      split at h
      · split at h
        · obtain ⟨h0, h1, h2, h3, h4, h⟩ := h
          exact ⟨h0, h1, h2, h3, h4, hk _ _ _ h⟩
        · exact h.elim
      · split at h
        · obtain ⟨h0, h1, h2, h3, h4, h⟩ := h
          exact ⟨h0, h1, h2, h3, h4, hk _ _ _ h⟩
        · exact h.elim
      · exact h.elim
    case appR size bytes et x y =>
      split at h
      · obtain ⟨h0, h1, h2, h3, nm, h4, h5, h⟩ := h
        exact ⟨h0, h1, h2, h3, nm, h4, h5, fun b c hc => hk _ _ _ (h b c hc)⟩
      · obtain ⟨h0, h1, h2, h3, nm, ll, h4, h5, h6, h7⟩ := h
        refine ⟨h0, h1, h2, h3, nm, ll, h4, h5, fun hc => hk _ _ _ (h6 hc), fun hc => ?_⟩
        obtain ⟨nm', h8, h9, h⟩ := h7 hc
        exact ⟨nm', h8, h9, fun b c hc => hk _ _ _ (h b c hc)⟩
      · exact h.elim
    case mkSl nm size bytes zero a b =>
      split at h
      · obtain ⟨h0, h1, h2, h3, h4, h5, h⟩ := h
        exact ⟨h0, h1, h2, h3, h4, h5, hk _ _ _ h⟩
      · exact h.elim
    case mkVec nm size bytes a b =>
      split at h
      · obtain ⟨h0, h1, h2, h3, h4, h⟩ := h
        exact ⟨h0, h1, h2, h3, h4, hk _ _ _ h⟩
      · exact h.elim
    case call m f args => exact AWcall_mono hM hk h
theorem AWit_mono (hM : MonoH H) {it : GItem} {K K' : Env → Store → G → Prop} (hk : ∀ ρ' σ' g', K ρ' σ' g' → K' ρ' σ' g') (h : AWit P H it ρ σ g K) : AWit P H it ρ σ g K' := by
  cases it with
  | frz t =>
    simp only [AWit] at h ⊢
    split at h
    · split at h
      · exact hk _ _ _ h
      · exact h.elim
    · split at h
      · exact ⟨h.1, hk _ _ _ h.2⟩
      · exact h.elim
    · split at h
      · exact ⟨h.1, hk _ _ _ h.2⟩
      · exact h.elim
    · exact hk _ _ _ h
    · obtain ⟨nm, ll, rows, m, h1, h2, h3, h4, h5, h⟩ := h
      exact ⟨nm, ll, rows, m, h1, h2, h3, h4, h5, hk _ _ _ h⟩
    · exact h.elim
  | op dst gd o =>
    rw [AWit_gate] at h ⊢
    split at h
    · exact AWop_mono hM (fun _ _ _ h => hk _ _ _ h) h
    · exact hk _ _ _ h
    · exact h.elim
theorem AWits_mono (hM : MonoH H) {l : List GItem} : ∀ {ρ : Env} {σ : Store} {g : G} {K K' : Env → Store → G → Prop} (_ : ∀ ρ' σ' g', K ρ' σ' g' → K' ρ' σ' g') (_ : AWits P H l ρ σ g K), AWits P H l ρ σ g K' := by
  induction l with
  | nil => intro ρ σ g K K' hk h; exact hk _ _ _ h
  | cons it r ih => intro ρ σ g K K' hk h; exact AWit_mono hM (fun ρ' σ' g' h => ih hk h) h
def AOp.isN : AOp → Bool
  | .call .f _ _ => true
  | .call .. => false
  | .isnil .. => false
  | .isnili .. => false
  | .bslA .. => false
  | .clear .. => false
  | .appR .. => false
  | _ => true
theorem N_split {o : AOp} (hn : o.isN = true) {K : V → Store → G → Prop} (h : AWop P H ρ σ g o K) : ∃ v σ' g', K v σ' g' ∧ ∀ K' : V → Store → G → Prop, K' v σ' g' → AWop P H ρ σ g o K' := by
  by_cases hR : o.isR = true
  · obtain ⟨v, h1, h2⟩ := R_split hR h
    exact ⟨v, σ, g, h1, h2⟩
  · cases o <;> try (exact absurd rfl hR)
    all_goals simp only [AWop] at h ⊢
    case isnil neg x => cases hn
    case isnili neg x => cases hn
    case bslA nm size xs => cases hn
    case clear size bytes z x => cases hn
    case appR size bytes et x y => cases hn
    case newVec nm =>
      split at h
      · exact ⟨_, _, _, h, fun K' hk => hk⟩
      · exact h.elim
    case newArr nm =>
      split at h
      · exact ⟨_, _, _, h, fun K' hk => hk⟩
      · exact h.elim
    case alloc nm z =>
      split at h
      · exact ⟨_, _, _, h, fun K' hk => hk⟩
      · exact h.elim
    case box nm size x =>
      split at h
      · cases hb : (rowB (ev ρ x) && Nat.beq size (ev ρ x).cells.length) with
        | false => rw [hb] at h; exact h.elim
        | true => rw [hb] at h; exact ⟨_, _, _, h, fun K' hk => hk⟩
      · exact h.elim
    case bslO nm size xs =>
      split at h
      · exact ⟨_, _, _, h.2.2, fun K' hk => ⟨h.1, h.2.1, hk⟩⟩
      · exact h.elim
    case store size a x =>
      split at h
      · split at h
        · split at h
          · exact ⟨_, _, _, h, fun K' hk => hk⟩
          · exact h.elim
        · exact h.elim
      · split at h
        · obtain ⟨h0, h1, row, hr, h⟩ := h
          split at h
          · rename_i e; subst h0; exact ⟨_, _, _, h, fun K' hk => ⟨rfl, h1, row, hr, by rw [e]; exact hk⟩⟩
          · exact h.elim
        · exact h.elim
      · obtain ⟨nm, ll, ll', h1, h2, h⟩ := h
        exact ⟨_, _, _, h, fun K' hk => ⟨nm, ll, ll', h1, h2, hk⟩⟩
      · exact h.elim
    case append size bytes et x y =>
      split at h
      · split at h
        · obtain ⟨h0, h1, h2, h3, h4, h⟩ := h
          exact ⟨_, _, _, h, fun K' hk => ⟨h0, h1, h2, h3, h4, hk⟩⟩
        · exact h.elim
      · split at h
        · obtain ⟨h0, h1, h2, h3, h4, h⟩ := h
          exact ⟨_, _, _, h, fun K' hk => ⟨h0, h1, h2, h3, h4, hk⟩⟩
        · exact h.elim
      · exact h.elim
    case mkSl nm size bytes zero a b =>
      split at h
      · obtain ⟨h0, h1, h2, h3, h4, h5, h⟩ := h
        exact ⟨_, _, _, h, fun K' hk => ⟨h0, h1, h2, h3, h4, h5, hk⟩⟩
      · exact h.elim
    case mkVec nm size bytes a b =>
      split at h
      · obtain ⟨h0, h1, h2, h3, h4, h⟩ := h
        exact ⟨_, _, _, h, fun K' hk => ⟨h0, h1, h2, h3, h4, hk⟩⟩
      · exact h.elim
    case call m f args =>
      cases m with
      | f => exact absurd rfl hR
      | s pn => cases hn
      | y => cases hn
def slotOf : Opd → List Nat
  | .t n => [n]
  | .c _ => []
def slots : List Opd → List Nat
  | [] => []
  | x :: r => slotOf x ++ slots r
def GItem.reads : GItem → List Nat
  | .op _ gd o => (match gd with
    | some (s, _) => [s]
    | none => []) ++ slots o.opds
  | .frz t => [t]
def GItem.dst : GItem → Option Nat
  | .op dst _ _ => dst
  | .frz t => some t
def notIn (d : Option Nat) (l : List Nat) : Bool := match d with
  | none => true
  | some d => !memB d l
def apart : Option Nat → Option Nat → Bool
  | some d, some d' => !Nat.beq d d'
  | _, _ => true
def indep (x y : GItem) : Bool := match x, y with
  | .op dx gx ox, .op dy gy oy => apart dx dy && notIn dx (GItem.reads (.op dy gy oy)) && notIn dy (GItem.reads (.op dx gx ox)) && ((ox.isN && ((ox.isR && oy.isR) || ox.isE || oy.isE || (ox.isR && oy.isA))) || (oy.tot && gy.isNone))
  | _, _ => false
theorem put_swap {dx dy : Option Nat} (h : apart dx dy = true) (v u : V) : put (put ρ dx v) dy u = put (put ρ dy u) dx v := by
  cases dx with
  | none => cases dy <;> rfl
  | some a =>
    cases dy with
    | none => rfl
    | some b =>
      simp only [apart, Bool.not_eq_true'] at h
      have hne : a ≠ b := fun e => by rw [e] at h; simp at h
      funext t
      simp only [put, upd]
      cases h1 : Nat.beq t a with
      | false => simp
      | true =>
        cases h2 : Nat.beq t b with
        | false => simp
        | true => exact absurd ((Nat.eq_of_beq_eq_true h1).symm.trans (Nat.eq_of_beq_eq_true h2)) hne
theorem put_other {d : Option Nat} {l : List Nat} (h : notIn d l = true) (v : V) {t : Nat} (ht : t ∈ l) : put ρ d v t = ρ t := by
  cases d with
  | none => rfl
  | some a =>
    simp only [put, upd]
    cases h1 : Nat.beq t a with
    | false => rfl
    | true =>
      have e := Nat.eq_of_beq_eq_true h1
      subst e
      simp only [notIn, Bool.not_eq_true'] at h
      have : ∀ l : List Nat, t ∈ l → memB t l = true := by
        intro l
        induction l with
        | nil => intro h; cases h
        | cons b r ih =>
          intro h
          simp only [memB]
          rcases List.mem_cons.1 h with rfl | h
          · simp
          · rw [ih h]; cases Nat.beq t b <;> rfl
      rw [this l ht] at h
      cases h
theorem slots_mem {l : List Opd} {n : Nat} (h : Opd.t n ∈ l) : n ∈ slots l := by
  induction l with
  | nil => cases h
  | cons x r ih =>
    simp only [slots, List.mem_append]
    rcases List.mem_cons.1 h with rfl | h
    · exact .inl (by simp [slotOf])
    · exact .inr (ih h)
theorem ev_other {d : Option Nat} {dst : Option Nat} {gd : Option (Nat × Bool)} {o : AOp} (h : notIn d (GItem.reads (.op dst gd o)) = true) (v : V) : ∀ x ∈ o.opds, ev ρ x = ev (put ρ d v) x := by
  intro x hx
  cases x with
  | c u => rfl
  | t n => exact (put_other h v (List.mem_append.2 (.inr (slots_mem hx)))).symm
theorem gate_other {d : Option Nat} {dst : Option Nat} {gd : Option (Nat × Bool)} {o : AOp} (h : notIn d (GItem.reads (.op dst gd o)) = true) (v : V) : gate (put ρ d v) gd = gate ρ gd := by
  cases gd with
  | none => rfl
  | some p =>
    obtain ⟨s, want⟩ := p
    simp only [gate]
    rw [put_other h v (List.mem_append.2 (.inl (List.mem_singleton.2 rfl)))]
theorem AWit_swap (hM : MonoH H) {x y : GItem} (hi : indep x y = true) {K : Env → Store → G → Prop} (h : AWit P H x ρ σ g fun ρ1 σ1 g1 => AWit P H y ρ1 σ1 g1 K) :
    AWit P H y ρ σ g fun ρ1 σ1 g1 => AWit P H x ρ1 σ1 g1 K := by
  unfold indep at hi
  split at hi
  case h_2 => cases hi
  rename_i dx gx ox dy gy oy
  simp only [Bool.and_eq_true, Bool.or_eq_true] at hi
  obtain ⟨⟨⟨ha, hxy⟩, hyx⟩, hcl⟩ := hi
  rw [AWit_gate] at h ⊢
  split at h
  · rename_i hgx
    have h' : AWop P H ρ σ g ox fun v σ1 g1 => (match gate ρ gy with
        | some true => AWop P H ρ σ1 g1 oy fun u σ2 g2 => K (put (put ρ dx v) dy u) σ2 g2
        | some false => K (put (put ρ dx v) dy (.tup [])) σ1 g1
        | none => False) := by
      refine AWop_mono hM (fun v σ1 g1 h => ?_) h
      rw [AWit_gate, gate_other hxy] at h
      split at h
      · rename_i hgy
        try rw [hgy]
        exact (AWop_loc (ev_other hxy v)).2 h
      · rename_i hgy; try rw [hgy]
        exact h
      · exact h.elim
    have back : ∀ u σ2 g2, AWop P H ρ σ2 g2 ox (fun v σ3 g3 => K (put (put ρ dx v) dy u) σ3 g3) → AWit P H (.op dx gx ox) (put ρ dy u) σ2 g2 K := by
      intro u σ2 g2 hx
      rw [AWit_gate, gate_other hyx, hgx]
      refine (AWop_loc (ev_other hyx u)).1 (AWop_mono hM (fun v σ3 g3 h => ?_) hx)
      rw [← put_swap ha]
      exact h
    rcases hcl with ⟨hN, hcls⟩ | ⟨hT, hgn⟩
    rotate_left
    · have hgy : gy = none := by
        cases gy with
        | none => rfl
        | some _ => cases hgn
      subst hgy
      obtain ⟨u, hu⟩ := T_split (P := P) (H := H) (ρ := ρ) hT
      refine (hu _ _ _).2 (back u σ g (AWop_mono hM (fun v σ3 g3 h => ?_) h'))
      exact (hu _ _ _).1 h
    cases hgy : gate ρ gy with
    | none =>
      rw [hgy] at h'
      obtain ⟨v, σ1, g1, h1, _⟩ := N_split hN h'
      exact h1
    | some t =>
      rw [hgy] at h'
      cases t with
      | false =>
        obtain ⟨v, σ1, g1, h1, h2⟩ := N_split hN h'
        exact back _ _ _ (h2 _ h1)
      | true =>
        rcases hcls with ((⟨hcx, hcy⟩ | hcx) | hcy) | ⟨hcx, hcy⟩
        · obtain ⟨v, h1, h2⟩ := R_split hcx h'
          obtain ⟨u, h3, h4⟩ := R_split hcy h1
          exact h4 _ (back _ _ _ (h2 _ h3))
        · obtain ⟨v, h1, h2⟩ := E_split hcx h'
          exact AWop_mono hM (fun u σ2 g2 h3 => back _ _ _ (h2 _ _ _ h3)) h1
        · obtain ⟨v, σ1, g1, h1, h2⟩ := N_split hN h'
          obtain ⟨u, h3, h4⟩ := E_split hcy h1
          exact h4 _ _ _ (back _ _ _ (h2 _ h3))
        · obtain ⟨v, h1, h2⟩ := R_fresh hcx h'
          obtain ⟨nm, b, u, hu, h3, h4⟩ := A_split hcy h1
          exact h4 _ (back _ _ _ (h2 nm b hu _ h3))
  · rename_i hgx
    rw [AWit_gate, gate_other hxy] at h
    have back : ∀ u σ2 g2, K (put (put ρ dx (.tup [])) dy u) σ2 g2 → AWit P H (.op dx gx ox) (put ρ dy u) σ2 g2 K := by
      intro u σ2 g2 h
      rw [AWit_gate, gate_other hyx, hgx, ← put_swap ha]
      exact h
    split at h
    · rename_i hgy
      try rw [hgy]
      have h := (AWop_loc (ev_other hxy (.tup []))).2 h
      exact AWop_mono hM (fun u σ1 g1 h => back _ _ _ h) h
    · rename_i hgy
      try rw [hgy]
      exact back _ _ _ h
    · exact h.elim
  · exact h.elim
end
def Before (π : List Nat) (i j : Nat) : Prop := ∃ p q, π = p ++ j :: q ∧ i ∈ p
theorem split_unique {α : Type} {p q p' q' : List α} {x : α} (hn : (p ++ x :: q).Nodup) (h : p ++ x :: q = p' ++ x :: q') : p = p' ∧ q = q' := by
  induction p generalizing p' with
  | nil =>
    cases p' with
    | nil => simp at h; exact ⟨rfl, h⟩
    | cons y p' =>
      simp at h
      obtain ⟨rfl, rfl⟩ := h
      simp at hn
  | cons y p ih =>
    cases p' with
    | nil =>
      simp at h
      obtain ⟨rfl, rfl⟩ := h
      simp at hn
    | cons z p' =>
      simp at h
      obtain ⟨rfl, h⟩ := h
      simp only [List.cons_append, List.nodup_cons] at hn
      obtain ⟨h1, h2⟩ := ih hn.2 h
      exact ⟨by rw [h1], h2⟩
theorem Before.trans {π : List Nat} (hn : π.Nodup) {i j k : Nat} (h1 : Before π i j) (h2 : Before π j k) : Before π i k := by
  obtain ⟨p, q, e1, hi⟩ := h1
  obtain ⟨p', q', e2, hj⟩ := h2
  obtain ⟨a, b, rfl⟩ := List.append_of_mem hj
  subst e2
  have e3 : p ++ j :: q = a ++ j :: (b ++ k :: q') := by rw [← e1]; simp
  have := split_unique (by rw [← e1]; exact hn) e3
  exact ⟨a ++ j :: b, q', rfl, by rw [← this.1]; simp [hi]⟩
theorem Before.irrefl {π : List Nat} (hn : π.Nodup) {i j : Nat} (h1 : Before π i j) (h2 : Before π j i) : False := by
  obtain ⟨p, q, e, hi⟩ := h1.trans hn h2
  subst e
  rw [List.nodup_append] at hn
  exact hn.2.2 _ hi _ (by simp) rfl
theorem before_total {π : List Nat} {i j : Nat} (hi : i ∈ π) (hj : j ∈ π) (hne : i ≠ j) : Before π i j ∨ Before π j i := by
  obtain ⟨p, q, rfl⟩ := List.append_of_mem hj
  rcases List.mem_append.1 hi with h | h
  · exact .inl ⟨p, q, rfl, h⟩
  · rcases List.mem_cons.1 h with h | h
    · exact absurd h hne
    · obtain ⟨a, b, rfl⟩ := List.append_of_mem h
      exact .inr ⟨p ++ j :: a, b, by simp, by simp⟩
def natTop (ops : Array Oper) : Bool := (List.range ops.size).all fun i => match ops[i]? with
  | some o => o.after.toList.all fun e => !Region.binds .any e || Nat.blt e.on i
  | none => false
theorem go_spec (ops : Array Oper) (ht : natTop ops = true) : ∀ (fuel t : Nat) (listed : Array Bool) (D U : List Nat), listed.size = ops.size → (∀ i, i < ops.size → listed.getD i true = decide (i ∈ D)) → (D ++ U).Perm (List.range ops.size) → U.length = fuel →
    ∃ π, Region.linearise.go .any ops fuel t listed [] = π ∧ (D ++ π).Perm (List.range ops.size) ∧
      ∀ p j q, π = p ++ j :: q → ∀ o, ops[j]? = some o → ∀ e ∈ o.after.toList, Region.binds .any e = true → e.on ∈ D ++ p := by
  intro fuel
  induction fuel with
  | zero =>
    intro t listed D U hsz hl hp hU
    have : U = [] := List.eq_nil_of_length_eq_zero hU
    subst this
    exact ⟨[], rfl, hp, fun p j q h => by simp at h⟩
  | succ fuel ih =>
    intro t listed D U hsz hl hp hU
    have hlt : ∀ i, i ∈ D ∨ i ∈ U → i < ops.size := by
      intro i hi
      have := hp.mem_iff.1 (List.mem_append.2 hi)
      exact List.mem_range.1 this
    have hall : ∀ i, i < ops.size → i ∈ D ∨ i ∈ U := fun i hi => List.mem_append.1 (hp.mem_iff.2 (List.mem_range.2 hi))
    have hnd : (D ++ U).Nodup := hp.nodup_iff.2 List.nodup_range
    have htop : ∀ i o, ops[i]? = some o → ∀ e ∈ o.after.toList, Region.binds .any e = true → e.on < i := by
      intro i o ho e he hb
      have hi := (Array.getElem?_eq_some_iff.1 ho).1
      have := (List.all_eq_true.1 ht) i (List.mem_range.2 hi)
      rw [ho] at this
      have := (List.all_eq_true.1 this) e he
      rw [hb] at this
      simp only [Bool.not_true, Bool.false_or] at this
      simpa [Nat.blt_eq] using this
    have hgetD : ∀ i d, i < ops.size → listed.getD i d = decide (i ∈ D) := by
      intro i d hi
      rw [← hl i hi]
      simp [Array.getD, hsz, hi]
    have hready : ∀ i, i ∈ Region.ready .any ops listed ↔ i < ops.size ∧ i ∉ D ∧ ∀ o, ops[i]? = some o → ∀ e ∈ o.after.toList, Region.binds .any e = true → e.on ∈ D := by
      intro i
      unfold Region.ready
      rw [List.mem_filter, List.mem_range]
      constructor
      · rintro ⟨hi, hx⟩
        simp only [Bool.and_eq_true, Bool.not_eq_true'] at hx
        rw [hgetD i true hi] at hx
        refine ⟨hi, by simpa using hx.1, fun o ho e he hb => ?_⟩
        have h2 := hx.2
        rw [ho] at h2
        simp only [Option.map_some, Option.getD_some] at h2
        rw [← Array.all_toList] at h2
        have h3 := (List.all_eq_true.1 h2) e he
        rw [hb] at h3
        simp only [Bool.not_true, Bool.false_or] at h3
        have h4 : e.on < ops.size := Nat.lt_trans (htop i o ho e he hb) hi
        rw [hgetD _ false h4] at h3
        simpa using h3
      · rintro ⟨hi, hD, hx⟩
        refine ⟨hi, ?_⟩
        simp only [Bool.and_eq_true, Bool.not_eq_true']
        refine ⟨by rw [hgetD i true hi]; simpa using hD, ?_⟩
        have ho : ops[i]? = some ops[i] := Array.getElem?_eq_getElem hi
        rw [ho]
        simp only [Option.map_some, Option.getD_some]
        rw [← Array.all_toList]
        refine List.all_eq_true.2 fun e he => ?_
        cases hb : Region.binds .any e with
        | false => rfl
        | true =>
          simp only [Bool.not_true, Bool.false_or]
          have h4 : e.on < ops.size := Nat.lt_trans (htop i _ ho e he hb) hi
          rw [hgetD _ false h4]
          simpa using hx _ ho e he hb
    have hne : Region.ready .any ops listed ≠ [] := by
      intro hnil
      have : ∀ i, i ∉ U := by
        intro i
        induction i using Nat.strongRecOn with
        | _ i ihi =>
          intro hiU
          have hi := hlt i (.inr hiU)
          have hiD : i ∉ D := fun hD => by
            rw [List.nodup_append] at hnd
            exact hnd.2.2 i hD i hiU rfl
          have : i ∈ Region.ready .any ops listed := (hready i).2 ⟨hi, hiD, fun o ho e he hb => by
            have h5 := htop i o ho e he hb
            rcases hall e.on (Nat.lt_trans h5 hi) with h6 | h6
            · exact h6
            · exact absurd h6 (ihi _ h5)⟩
          rw [hnil] at this
          cases this
      cases U with
      | nil => simp at hU
      | cons u U => exact this u (by simp)
    simp only [Region.linearise.go]
    change ∃ π, (match (Region.ready .any ops listed)[t % (Region.ready .any ops listed).length]? with
      | some i => Region.linearise.go .any ops fuel (t / (Region.ready .any ops listed).length) (listed.setIfInBounds i true) [i]
      | none => [].reverse) = π ∧ _
    have hpos : 0 < (Region.ready .any ops listed).length := List.length_pos_iff.2 hne
    have hidx : t % (Region.ready .any ops listed).length < (Region.ready .any ops listed).length := Nat.mod_lt _ hpos
    rw [List.getElem?_eq_getElem hidx]
    simp only []
    generalize hi : (Region.ready .any ops listed)[t % (Region.ready .any ops listed).length] = i
    have hir := (hready i).1 (by rw [← hi]; exact List.getElem_mem _)
    obtain ⟨hilt, hiD, hie⟩ := hir
    have hiU : i ∈ U := (hall i hilt).resolve_left hiD
    obtain ⟨u1, u2, rfl⟩ := List.append_of_mem hiU
    have hperm : (D ++ [i] ++ (u1 ++ u2)).Perm (List.range ops.size) := by
      refine List.Perm.trans ?_ hp
      rw [List.append_assoc]
      refine List.Perm.append_left D ?_
      simp only [List.singleton_append]
      exact List.perm_middle.symm
    obtain ⟨π, h1, h2, h3⟩ := ih (t / (Region.ready .any ops listed).length) (listed.setIfInBounds i true) (D ++ [i]) (u1 ++ u2) (by simpa using hsz) (fun j hj => by
      have hj' := hgetD j true hj
      by_cases e : j = i
      · subst e; simp [Array.getD, hsz, hj]
      · have hj2 : j < listed.size := by omega
        simp only [Array.getD, Array.size_setIfInBounds, hj2, dite_true, Array.getInternal_eq_getElem] at hj' ⊢
        rw [Array.getElem_setIfInBounds_ne (by simpa using hj2) (fun h => e h.symm), hj']
        simp [e]) hperm (by simp at hU ⊢; omega)
    refine ⟨i :: π, ?_, ?_, ?_⟩
    · rw [linearise_go_acc, h1]; rfl
    · have : D ++ i :: π = D ++ [i] ++ π := by simp
      rw [this]; exact h2
    · intro p j q hp' o ho e he hb
      cases p with
      | nil =>
        simp at hp'
        obtain ⟨rfl, rfl⟩ := hp'
        simpa using hie o ho e he hb
      | cons x p =>
        simp at hp'
        obtain ⟨rfl, hp'⟩ := hp'
        have := h3 p j q hp' o ho e he hb
        simpa using this
def aftOf (ops : Array Oper) (j : Nat) : List Nat := match ops[j]? with
  | some o => (o.after.toList.filter fun e => Region.binds .any e).map (·.on)
  | none => []
theorem lin_spec (ops : Array Oper) (ht : natTop ops = true) (t : Nat) : (Region.linearise .any ops t).Perm (List.range ops.size) ∧ ∀ j, ∀ i ∈ aftOf ops j, j < ops.size → Before (Region.linearise .any ops t) i j := by
  obtain ⟨π, h1, h2, h3⟩ := go_spec ops ht ops.size t (Array.replicate ops.size false) [] (List.range ops.size) (by simp) (fun i hi => by simp [Array.getD, hi]) (by simp) (by simp)
  have e : Region.linearise .any ops t = π := h1
  rw [e]
  refine ⟨by simpa using h2, fun j i hi hj => ?_⟩
  have hm : j ∈ π := (by simpa using h2 : π.Perm _).mem_iff.2 (List.mem_range.2 hj)
  obtain ⟨p, q, rfl⟩ := List.append_of_mem hm
  refine ⟨p, q, rfl, ?_⟩
  unfold aftOf at hi
  split at hi
  · rename_i o ho
    obtain ⟨e, he, rfl⟩ := List.mem_map.1 hi
    rw [List.mem_filter] at he
    simpa using h3 p j q rfl o ho e he.1 he.2
  · cases hi
def indepAt (l : List GItem) (x y : Nat) : Bool := match l[x]?, l[y]? with
  | some a, some b => indep a b
  | _, _ => false
def lookM : List (Nat × Nat) → Nat → Nat
  | [], _ => 0
  | (y, m) :: r, a => bif Nat.beq y a then m ||| (1 <<< a) else lookM r a
def maskOf (tab : List (Nat × Nat)) : List Nat → Nat
  | [] => 0
  | a :: r => lookM tab a ||| maskOf tab r
def chkLeaf (l : List GItem) (aft : Nat → List Nat) : List Nat → List (Nat × Nat) → Bool
  | [], _ => true
  | x :: r, tab => (tab.all fun p => (maskOf tab (aft x)).testBit p.1 || indepAt l p.1 x) && chkLeaf l aft r ((x, maskOf tab (aft x)) :: tab)
def addC (aft : Nat → List Nat) (a b : Nat) : Nat → List Nat := fun j => bif Nat.beq j b then a :: aft j else aft j
def chkOT (l : List GItem) (n : Nat) : (Nat → List Nat) → OT → Bool
  | aft, .leaf r => r.isPerm (List.range n) && chkLeaf l aft r []
  | aft, .node a b x y => !Nat.beq a b && Nat.blt a n && Nat.blt b n && chkOT l n (addC aft a b) x && chkOT l n (addC aft b a) y
section
variable {G : Type} {P : Program} {H : HT G} {ρ : Env} {σ : Store} {g : G} {K : Env → Store → G → Prop}
theorem pickAll_mid {l : List GItem} {p q : List Nat} {x : Nat} {it : GItem} (hx : l[x]? = some it) : pickAll l (p ++ x :: q) = pickAll l p ++ it :: pickAll l q := by
  induction p with
  | nil => simp [pickAll, hx]
  | cons y p ih =>
    simp only [List.cons_append, pickAll]
    cases l[y]? <;> simp [ih]
theorem pickAll_append {l : List GItem} {p q : List Nat} : pickAll l (p ++ q) = pickAll l p ++ pickAll l q := by
  induction p with
  | nil => simp [pickAll]
  | cons y p ih =>
    simp only [List.cons_append, pickAll]
    cases l[y]? <;> simp [ih]
theorem pickAll_mem {l : List GItem} {p : List Nat} {it : GItem} (h : it ∈ pickAll l p) : ∃ y ∈ p, l[y]? = some it := by
  induction p with
  | nil => simp [pickAll] at h
  | cons y p ih =>
    simp only [pickAll] at h
    cases hy : l[y]? with
    | none => rw [hy] at h; obtain ⟨z, h1, h2⟩ := ih h; exact ⟨z, by simp [h1], h2⟩
    | some a =>
      rw [hy] at h
      rcases List.mem_cons.1 h with rfl | h
      · exact ⟨y, by simp, hy⟩
      · obtain ⟨z, h1, h2⟩ := ih h; exact ⟨z, by simp [h1], h2⟩
theorem AWits_push (hM : MonoH H) {x : GItem} {q : List GItem} : ∀ {p : List GItem} {ρ : Env} {σ : Store} {g : G}, (∀ y ∈ p, indep x y = true) → AWits P H (x :: (p ++ q)) ρ σ g K → AWits P H (p ++ x :: q) ρ σ g K
  | [], _, _, _, _, h => h
  | y :: p, ρ, σ, g, hi, h => by
    have h1 : AWit P H y ρ σ g fun ρ1 σ1 g1 => AWit P H x ρ1 σ1 g1 fun ρ2 σ2 g2 => AWits P H (p ++ q) ρ2 σ2 g2 K := AWit_swap hM (hi y (by simp)) h
    exact AWit_mono hM (fun ρ1 σ1 g1 h2 => AWits_push hM (fun z hz => hi z (by simp [hz])) h2) h1
theorem before_cons {r : List Nat} {x i j : Nat} (h : Before r i j) : Before (x :: r) i j := by
  obtain ⟨p, q, rfl, hi⟩ := h
  exact ⟨x :: p, q, rfl, by simp [hi]⟩
theorem before_head {r : List Nat} {x j : Nat} (h : j ∈ r) : Before (x :: r) x j := by
  obtain ⟨p, q, rfl⟩ := List.append_of_mem h
  exact ⟨x :: p, q, rfl, by simp⟩
theorem before_drop {p q : List Nat} {x i j : Nat} (h : Before (p ++ x :: q) i j) (hi : i ≠ x) (hj : j ≠ x) : Before (p ++ q) i j := by
  obtain ⟨a, b, e, hia⟩ := h
  rcases List.append_eq_append_iff.1 e with ⟨c, e1, e2⟩ | ⟨c, e1, e2⟩
  · cases c with
    | nil => simp at e2; exact absurd e2.1.symm hj
    | cons d c =>
      simp at e2
      obtain ⟨rfl, rfl⟩ := e2
      refine ⟨p ++ c, b, by simp, ?_⟩
      rw [e1] at hia
      rcases List.mem_append.1 hia with h | h
      · simp [h]
      · rcases List.mem_cons.1 h with h | h
        · exact absurd h hi
        · simp [h]
  · cases c with
    | nil => simp at e2; exact absurd e2.1 hj
    | cons d c =>
      simp at e2
      obtain ⟨rfl, rfl⟩ := e2
      exact ⟨a, c ++ q, by rw [e1]; simp, hia⟩
theorem bubble (hM : MonoH H) {l : List GItem} : ∀ (r π : List Nat) {ρ : Env} {σ : Store} {g : G}, π.Perm r → r.Nodup → (∀ i ∈ r, i < l.length) → (∀ i j, Before r i j → indepAt l i j = true ∨ Before π i j) → AWits P H (pickAll l r) ρ σ g K → AWits P H (pickAll l π) ρ σ g K
  | [], π, ρ, σ, g, hp, _, _, _, h => by
    have : π = [] := hp.eq_nil
    subst this
    exact h
  | x :: r, π, ρ, σ, g, hp, hn, hl, hb, h => by
    have hx : x ∈ π := hp.mem_iff.2 (by simp)
    obtain ⟨p, q, rfl⟩ := List.append_of_mem hx
    have hnd : (p ++ x :: q).Nodup := hp.nodup_iff.2 hn
    have hp' : (p ++ q).Perm r := List.Perm.cons_inv ((List.perm_middle.symm.trans hp))
    have hlx : x < l.length := hl x (by simp)
    have hit : l[x]? = some l[x] := List.getElem?_eq_getElem hlx
    rw [List.nodup_cons] at hn
    have h1 : AWits P H (l[x] :: pickAll l (p ++ q)) ρ σ g K := by
      have h0 : AWits P H (l[x] :: pickAll l r) ρ σ g K := by
        have e : pickAll l (x :: r) = l[x] :: pickAll l r := by simp [pickAll, hit]
        rw [← e]; exact h
      refine AWit_mono hM (fun ρ1 σ1 g1 h2 => ?_) h0
      refine bubble hM r (p ++ q) hp' hn.2 (fun i hi => hl i (by simp [hi])) (fun i j hij => ?_) h2
      rcases hb i j (before_cons hij) with h3 | h3
      · exact .inl h3
      · refine .inr (before_drop h3 ?_ ?_)
        · rintro rfl
          obtain ⟨a, b, e, hi⟩ := hij
          exact hn.1 (by rw [e]; simp [hi])
        · rintro rfl
          obtain ⟨a, b, e, hi⟩ := hij
          exact hn.1 (by rw [e]; simp)
    rw [pickAll_mid hit]
    rw [pickAll_append] at h1
    refine AWits_push hM (fun y hy => ?_) h1
    obtain ⟨j, hj, hjl⟩ := pickAll_mem hy
    have hjr : j ∈ r := hp'.mem_iff.1 (by simp [hj])
    rcases hb x j (before_head hjr) with h3 | h3
    · unfold indepAt at h3
      rw [hit, hjl] at h3
      exact h3
    · obtain ⟨a, b, rfl⟩ := List.append_of_mem hj
      exact (Before.irrefl hnd h3 ⟨a ++ j :: b, q, by simp, by simp⟩).elim
theorem lookM_spec {tab : List (Nat × Nat)} {a i : Nat} (h : (lookM tab a).testBit i = true) : i = a ∨ ∃ m, (a, m) ∈ tab ∧ m.testBit i = true := by
  induction tab with
  | nil => simp [lookM] at h
  | cons p r ih =>
    obtain ⟨y, m⟩ := p
    simp only [lookM] at h
    cases hb : Nat.beq y a with
    | true =>
      rw [hb] at h
      have e := Nat.eq_of_beq_eq_true hb
      subst e
      simp only [cond_true, Nat.testBit_or, Bool.or_eq_true] at h
      rcases h with h | h
      · exact .inr ⟨m, by simp, h⟩
      · refine .inl ?_
        rw [Nat.one_shiftLeft, Nat.testBit_two_pow] at h
        exact (of_decide_eq_true h).symm
    | false =>
      rw [hb] at h
      rcases ih h with h1 | ⟨m', h1, h2⟩
      · exact .inl h1
      · exact .inr ⟨m', by simp [h1], h2⟩
theorem maskOf_spec {tab : List (Nat × Nat)} {as : List Nat} {i : Nat} (h : (maskOf tab as).testBit i = true) : ∃ a ∈ as, i = a ∨ ∃ m, (a, m) ∈ tab ∧ m.testBit i = true := by
  induction as with
  | nil => simp [maskOf] at h
  | cons a r ih =>
    simp only [maskOf, Nat.testBit_or, Bool.or_eq_true] at h
    rcases h with h | h
    · exact ⟨a, by simp, lookM_spec h⟩
    · obtain ⟨b, h1, h2⟩ := ih h
      exact ⟨b, by simp [h1], h2⟩
theorem leaf_spec {l : List GItem} {aft : Nat → List Nat} {π : List Nat} (hn : π.Nodup) {n : Nat} (hpn : ∀ j, j ∈ π ↔ j < n) (ha : ∀ j, j < n → ∀ i ∈ aft j, Before π i j) : ∀ (r : List Nat) (tab : List (Nat × Nat)), (∀ j ∈ r, j < n) → (∀ y m, (y, m) ∈ tab → ∀ i, m.testBit i = true → Before π i y) → chkLeaf l aft r tab = true →
    (∀ y ∈ tab.map (·.1), ∀ j ∈ r, indepAt l y j = true ∨ Before π y j) ∧ ∀ i j, Before r i j → indepAt l i j = true ∨ Before π i j
  | [], tab, _, _, _ => ⟨(fun y _ j hj => by cases hj), (fun i j hij => by obtain ⟨p, q, e, _⟩ := hij; simp at e)⟩
  | x :: r, tab, hr, htab, h => by
    simp only [chkLeaf, Bool.and_eq_true] at h
    obtain ⟨h1, h2⟩ := h
    have hx := hr x (by simp)
    have hmask : ∀ i, (maskOf tab (aft x)).testBit i = true → Before π i x := by
      intro i hi
      obtain ⟨a, hax, h3⟩ := maskOf_spec hi
      rcases h3 with rfl | ⟨m, h4, h5⟩
      · exact ha x hx i hax
      · exact (htab a m h4 i h5).trans hn (ha x hx a hax)
    obtain ⟨h3, h4⟩ := leaf_spec hn hpn ha r ((x, maskOf tab (aft x)) :: tab) (fun j hj => hr j (by simp [hj])) (fun y m hy i hi => by
      rcases List.mem_cons.1 hy with hy | hy
      · injection hy with e1 e2
        subst e1 e2
        exact hmask i hi
      · exact htab y m hy i hi) h2
    refine ⟨fun y hy j hj => ?_, fun i j hij => ?_⟩
    · rcases List.mem_cons.1 hj with rfl | hj
      · obtain ⟨pr, hpr, rfl⟩ := List.mem_map.1 hy
        have := (List.all_eq_true.1 h1) pr hpr
        rw [Bool.or_eq_true] at this
        rcases this with h5 | h5
        · exact .inr (hmask _ h5)
        · exact .inl h5
      · exact h3 y (by simp only [List.map_cons, List.mem_cons]; exact .inr hy) j hj
    · obtain ⟨p, q, e, hi⟩ := hij
      cases p with
      | nil => cases hi
      | cons z p =>
        simp at e
        obtain ⟨rfl, rfl⟩ := e
        rcases List.mem_cons.1 hi with rfl | hi
        · exact h3 i (by simp) j (by simp)
        · exact h4 i j ⟨p, q, rfl, hi⟩
theorem AWT_sound (hM : MonoH H) {l : List GItem} {n : Nat} (hl : l.length = n) {π : List Nat} (hp : π.Perm (List.range n)) : ∀ (t : OT) (aft : Nat → List Nat), (∀ j, j < n → ∀ i ∈ aft j, Before π i j) → chkOT l n aft t = true → AWT P H l t ρ σ g K → AWits P H (pickAll l π) ρ σ g K
  | .leaf r, aft, ha, hc, h => by
    simp only [chkOT, Bool.and_eq_true] at hc
    have hr := List.isPerm_iff.1 hc.1
    have hpn : ∀ j, j ∈ π ↔ j < n := fun j => by rw [hp.mem_iff, List.mem_range]
    have hrn : ∀ j ∈ r, j < n := fun j hj => List.mem_range.1 (hr.mem_iff.1 hj)
    have := (leaf_spec (l := l) (hp.nodup_iff.2 List.nodup_range) hpn ha r [] hrn (fun y m h => by cases h) hc.2).2
    exact bubble hM r π (hp.trans hr.symm) (hr.nodup_iff.2 List.nodup_range) (fun i hi => by rw [hl]; exact hrn i hi) this h
  | .node a b x y, aft, ha, hc, h => by
    simp only [chkOT, Bool.and_eq_true, Bool.not_eq_true'] at hc
    obtain ⟨⟨⟨⟨h1, h2⟩, h3⟩, h4⟩, h5⟩ := hc
    have hne : a ≠ b := fun e => by rw [e] at h1; simp at h1
    have ha2 : a < n := by simpa [Nat.blt_eq] using h2
    have hb2 : b < n := by simpa [Nat.blt_eq] using h3
    have hmem : ∀ j, j < n → j ∈ π := fun j hj => hp.mem_iff.2 (List.mem_range.2 hj)
    have key : ∀ u v, Before π u v → ∀ j, j < n → ∀ i ∈ addC aft u v j, Before π i j := by
      intro u v huv j hj i hi
      unfold addC at hi
      cases hb : Nat.beq j v with
      | true =>
        rw [hb] at hi
        have e := Nat.eq_of_beq_eq_true hb
        subst e
        rcases List.mem_cons.1 hi with rfl | hi
        · exact huv
        · exact ha j hj i hi
      | false => rw [hb] at hi; exact ha j hj i hi
    rcases before_total (hmem a ha2) (hmem b hb2) hne with hab | hab
    · exact AWT_sound hM hl hp x _ (key a b hab) h4 h.1
    · exact AWT_sound hM hl hp y _ (key b a hab) h5 h.2
end
def chkDst (n : Nat) : Option Nat → Option Nat → Bool
  | none, none => true
  | some a, some b => Nat.beq a b && Nat.blt a n
  | _, _ => false
def chkGuard (ops : Array Oper) : Option (Nat × Bool) → Option (Nat × Bool) → Bool
  | none, none => true
  | some (s, want), some (j, want') => (want == want') && (match ops[j]? with
    | some oj => (match oj.dst with
      | some d => Nat.beq d s
      | none => false)
    | none => false)
  | _, _ => false
def chkItem (P : Program) (n : Nat) (ops : Array Oper) (o : Oper) : GItem → Bool
  | .op dst gd aop => chkDst n dst o.dst && chkGuard ops gd o.guard && chkOp P o.op aop
  | .frz _ => false
def chkItemAt (P : Program) (n : Nat) (ops : Array Oper) (i : Nat) (it : GItem) : Bool := match ops[i]? with
  | some o => chkItem P n ops o it
  | none => false
def seqOk (P : Program) (n : Nat) (ops : Array Oper) : List GItem → List Nat → Bool
  | .frz t :: r, is => Nat.blt t n && seqOk P n ops r is
  | it :: r, i :: is => chkItemAt P n ops i it && seqOk P n ops r is
  | [], [] => true
  | _, _ => false
def DefOk (w : World) (S F : Nat → Prop) (θ : Names) (σ : Store) : List Deferred → Prop
  | [] => True
  | d :: ds => (∃ r, d.target = .collected r ∧ w.heap[r]? = some (.deferred (some [])) ∧ ¬ S r ∧ ¬ F r ∧ ¬ LiveB θ σ r ∧ ∀ d' ∈ ds, d'.target ≠ .collected r) ∧ DefOk w S F θ σ ds
structure Start where
  w : World
  S : Nat → Prop
  F : Nat → Prop
  θ : Names
  σ : Store
structure Cur {G : Type} (J : JT G) (l n : Nat) (s0 : Start) (w : World) (S F : Nat → Prop) (θ : Names) (σ : Store) (g : G) (ρ : Env) (a : Act) : Prop where
  st : St J w S F θ σ l g
  env : EnvRep w S θ σ l ρ a.tmps
  sz : n ≤ a.tmps.size
  fr : Fr s0.w s0.S s0.F s0.θ s0.σ w S F θ σ
  de : DefOk w S F θ σ a.defers
  dn : ∀ d ∈ a.defers, ∀ r, d.target = .collected r → s0.w.heap.size ≤ r
def PostA {G : Type} (J : JT G) (l n : Nat) (s0 : Start) (Q : Exit → Env → Store → G → Prop) : Exit → Act → World → Prop := fun e a w =>
  (e = .normal ∨ e = .ret ∨ ∃ id, e = .exit id) ∧ ∃ ρ σ g S F θ, Q e ρ σ g ∧ Cur J l n s0 w S F θ σ g ρ a
section
variable {G : Type} {J : JT G} {w w' w'' : World} {S F S' F' S'' F'' : Nat → Prop} {θ θ' θ'' : Names} {σ σ' σ'' : Store} {l n : Nat} {g g' : G}
variable {P : Program} {o : Oper} {a : Act} {ρ : Env} {H : HT G} {s0 : Start}
theorem DefOk.fr (h : Fr w S F θ σ w' S' F' θ' σ') : ∀ {ds : List Deferred}, DefOk w S F θ σ ds → DefOk w' S' F' θ' σ' ds
  | [], _ => trivial
  | d :: ds, ⟨⟨r, h1, h2, h3, h4, h5, h6⟩, h7⟩ => by
    have hlt := (Array.getElem?_eq_some_iff.1 h2).1
    refine ⟨⟨r, h1, by rw [h.same r hlt h5 h4]; exact h2, fun hS => ?_, fun hF => h4 (h.fsub r hF hlt), fun hL => h5 (h.live r hL hlt), h6⟩, DefOk.fr h h7⟩
    rcases h.snew r hS with k | k | k | k
    · exact h3 k
    · exact h5 k
    · exact h4 k
    · omega
theorem put_defers (a : Act) (d : Option Tmp) (v : Value) : (a.put d v).defers = a.defers := by cases d <;> rfl
theorem put_size (a : Act) (d : Option Tmp) (v : Value) : (a.put d v).tmps.size = a.tmps.size := by cases d <;> simp [Act.put]
theorem EnvRep.put {x : Value} {v : V} {dst : Option Nat} {d : Option Tmp} (he : EnvRep w S θ σ l ρ a.tmps) (hd : chkDst n dst d = true) (hn : n ≤ a.tmps.size) (hr : Rep w S θ σ l v x) : EnvRep w S θ σ l (put ρ dst v) (a.put d x).tmps := by
  intro t
  cases dst with
  | none =>
    cases d with
    | none => exact he t
    | some _ => cases hd
  | some b =>
    cases d with
    | none => cases hd
    | some c =>
      simp only [chkDst, Bool.and_eq_true] at hd
      have e := Nat.eq_of_beq_eq_true hd.1
      have hlt : b < n := by simpa [Nat.blt_eq] using hd.2
      subst e
      simp only [Hm.put, Act.put]
      by_cases ht : t = b
      · subst ht
        rw [upd_self]
        have : (a.tmps.setIfInBounds t x).getD t undef = x := by
          have h1 : t < (a.tmps.setIfInBounds t x).size := by simp; omega
          simp only [Array.getD, h1, dite_true, Array.getInternal_eq_getElem]
          simp
        rw [this]; exact hr
      · rw [upd_ne ρ v ht]
        have : (a.tmps.setIfInBounds b x).getD t undef = a.tmps.getD t undef := by
          simp only [Array.getD, Array.size_setIfInBounds, Array.getInternal_eq_getElem]
          split
          · rename_i h1
            rw [Array.getElem_setIfInBounds_ne h1 (fun h => ht h.symm)]
          · rfl
        rw [this]; exact he t
theorem EnvRep.fr (hs : St J w S F θ σ l g) (h : Fr w S F θ σ w' S' F' θ' σ') (he : EnvRep w S θ σ l ρ a.tmps) : EnvRep w' S' θ' σ' l ρ a.tmps := fun t => (he t).fr h hs
theorem rep_undef : Rep w S θ σ l (.tup []) undef := .pure (.tup [] [] rfl (fun i v x h => by simp at h))
theorem Cur.step {dst : Option Nat} {d : Option Tmp} {x : Value} {K : V → Store → G → Prop} (h : Cur J l n s0 w S F θ σ g ρ a) (hd : chkDst n dst d = true) (hp : OpPost J w S F θ σ l K x w') :
    ∃ v σ' g' S' F' θ', K v σ' g' ∧ Cur J l n s0 w' S' F' θ' σ' g' (put ρ dst v) (a.put d x) := by
  obtain ⟨v, σ', g', S', F', θ', hk, hs', hfr, hr⟩ := hp
  exact ⟨v, σ', g', S', F', θ', hk, hs', (h.env.fr h.st hfr).put hd h.sz hr, by rw [put_size]; exact h.sz, h.fr.trans h.st hfr, by rw [put_defers]; exact h.de.fr hfr, by rw [put_defers]; exact h.dn⟩
theorem Cur.skip {dst : Option Nat} {d : Option Tmp} (h : Cur J l n s0 w S F θ σ g ρ a) (hd : chkDst n dst d = true) : Cur J l n s0 w S F θ σ g (put ρ dst (.tup [])) (a.put d undef) :=
  ⟨h.st, h.env.put hd h.sz rep_undef, by rw [put_size]; exact h.sz, h.fr, by rw [put_defers]; exact h.de, by rw [put_defers]; exact h.dn⟩
theorem gate_wanted {ops : Array Oper} {gd : Option (Nat × Bool)} {b : Bool} (he : EnvRep w S θ σ l ρ a.tmps) (hc : chkGuard ops gd o.guard = true) (hg : gate ρ gd = some b) : Region.wanted o (yielded ops a.tmps) = b := by
  cases gd with
  | none =>
    cases hgd : o.guard with
    | none => simp only [gate, Option.some.injEq] at hg; subst hg; simp [Region.wanted, hgd]
    | some _ => rw [hgd] at hc; cases hc
  | some p =>
    obtain ⟨s, want⟩ := p
    cases hgd : o.guard with
    | none => rw [hgd] at hc; cases hc
    | some q =>
      obtain ⟨j, want'⟩ := q
      rw [hgd] at hc
      simp only [chkGuard, Bool.and_eq_true, beq_iff_eq] at hc
      obtain ⟨rfl, hc⟩ := hc
      have hy : yielded ops a.tmps j = match a.tmps[s]? with
          | some (.bool b) => some b
          | _ => none := by
        unfold yielded
        cases hj : ops[j]? with
        | none => rw [hj] at hc; cases hc
        | some oj =>
          rw [hj] at hc
          simp only at hc
          cases hdj : oj.dst with
          | none => rw [hdj] at hc; cases hc
          | some d =>
            rw [hdj] at hc
            have e := Nat.eq_of_beq_eq_true hc
            subst e
            simp only [hdj, Option.bind_some]
            cases a.tmps[d]? with
            | none => rfl
            | some v => cases v <;> rfl
      simp only [Region.wanted, hgd, hy]
      have hr := he s
      simp only [gate] at hg
      cases hs : ρ s with
      | bool c =>
        rw [hs] at hg hr
        have e := hr.bool_inv
        have hlt : s < a.tmps.size := by
          by_cases hlt : s < a.tmps.size
          · exact hlt
          · simp [Array.getD, hlt, undef] at e
        have e2 : a.tmps[s]? = some (.bool c) := by
          rw [Array.getElem?_eq_getElem hlt]
          simp [Array.getD, hlt] at e
          rw [e]
        rw [e2]
        simp only [Option.some.injEq] at hg
        subst hg
        cases c <;> cases want <;> rfl
      | tup l =>
        cases l with
        | nil =>
          rw [hs] at hg hr
          simp only [Option.some.injEq] at hg
          subst hg
          obtain ⟨xs, hx, hl, _⟩ := hr.tup_inv
          have : xs = [] := List.eq_nil_of_length_eq_zero (by simpa using hl.symm)
          subst this
          by_cases hlt : s < a.tmps.size
          · have e2 : a.tmps[s]? = some (.tuple #[]) := by
              rw [Array.getElem?_eq_getElem hlt]
              simp [Array.getD, hlt] at hx
              rw [hx]
            rw [e2]; rfl
          · rw [Array.getElem?_eq_none (by omega)]; rfl
        | cons _ _ => rw [hs] at hg; cases hg
      | _ => rw [hs] at hg; cases hg
theorem Fr.freeze (nm : Nat) (hl : (σ nm).live) : Fr w S F θ σ w (fun b => S b ∨ ∃ m, θ nm = some (b, m)) F θ (ups σ nm .dead) where
  size := Nat.le_refl _
  os := rfl
  tape := rfl
  output := ⟨rfl, by first | exact fun _ => Nat.le_refl _ | exact fun _ => Nat.le_succ _⟩
  same := fun _ _ _ _ => rfl
  sized := fun _ c _ fr h => ⟨c, fr, h, rfl, .inl rfl⟩
  vecs := fun _ _ _ _ _ _ _ _ => rfl
  smono := fun _ h => .inl h
  snew := fun b h => by
    rcases h with h | ⟨m, h⟩
    · exact .inl h
    · exact .inr (.inl ⟨nm, m, hl, h⟩)
  live := fun b => by
    rintro ⟨n1, m1, h1, h2⟩ _
    by_cases e : n1 = nm
    · subst e; rw [upt_self] at h1; exact h1.elim
    · rw [upt_ne σ _ e] at h1; exact ⟨n1, m1, h1, h2⟩
  fsub := fun _ h _ => h
  kdead := fun n h => by
    by_cases e : n = nm
    · subst e; exact upt_self _ _ _
    · rw [upt_ne σ _ e]; exact h
  kbox := fun n row h => by
    by_cases e : n = nm
    · subst e; exact .inl (upt_self _ _ _)
    · exact .inr ⟨row, by rw [upt_ne σ _ e]; exact h, rfl⟩
  karr := fun n gen rows h => by
    by_cases e : n = nm
    · subst e; exact .inl (upt_self _ _ _)
    · exact .inr ⟨gen, rows, by rw [upt_ne σ _ e]; exact h, Nat.le_refl _, fun _ => ⟨rfl, Nat.le_refl _⟩⟩
  kvec := fun n k h => by
    by_cases e : n = nm
    · subst e; exact .inl ⟨upt_self _ _ _, fun b m hb => .inr ⟨m, hb⟩⟩
    · exact .inr ⟨k, by rw [upt_ne σ _ e]; exact h, Nat.le_refl _, fun _ => rfl, fun b m hb => .inl hb⟩
theorem St.freeze (hst : Stable J) (hs : St J w S F θ σ l g) (nm : Nat) (hl : (σ nm).live) : St J w (fun b => S b ∨ ∃ m, θ nm = some (b, m)) F θ (ups σ nm .dead) l g := by
  refine St.step hst hs (Fr.freeze nm hl) nm (fun nm' e => ⟨upt_ne σ _ e, rfl⟩) (fun _ _ _ _ _ _ => rfl) (fun _ _ => rfl)
    (by rw [upt_self]; trivial) (fun b m' hl' hb' => by rw [upt_self] at hl'; exact hl'.elim) (fun b hb => ?_) (fun b nm' m' hb e h1 h2 => ?_)
  · rcases hb with hb | ⟨m, hb⟩
    · exact ⟨hs.hS b hb, fun hf => (hs.hF b hf).2.1 hb⟩
    · exact ⟨live_lt hs hl hb, fun hf => (hs.hF b hf).2.2 ⟨nm, m, hl, hb⟩⟩
  · rcases hb with hb | ⟨m, hb⟩
    · exact hs.hliveS b ⟨nm', m', h1, h2⟩ hb
    · exact e (hs.hinj nm' nm b m' m h1 hl h2 hb)
theorem Cur.freeze {t nm : Nat} {v : V} (hst : Stable J) (h : Cur J l n s0 w S F θ σ g ρ a) (hl : (σ nm).live) (hv : Rep w (fun b => S b ∨ ∃ m, θ nm = some (b, m)) θ (ups σ nm .dead) l v (a.tmps.getD t undef)) :
    Cur J l n s0 w (fun b => S b ∨ ∃ m, θ nm = some (b, m)) F θ (ups σ nm .dead) g (upd ρ t v) a := by
  have hfr := Fr.freeze (w := w) (S := S) (F := F) (θ := θ) nm hl
  refine ⟨St.freeze hst h.st nm hl, fun t' => ?_, h.sz, h.fr.trans h.st hfr, h.de.fr hfr, h.dn⟩
  by_cases e : t' = t
  · subst e; rw [upd_self]; exact hv
  · rw [upd_ne ρ v e]; exact (h.env t').fr hfr h.st
theorem frz_cur {t : Nat} {K : Env → Store → G → Prop} (hst : Stable J) (h : Cur J l n s0 w S F θ σ g ρ a) (hw : AWit P H (.frz t) ρ σ g K) :
    ∃ ρ' σ' S', K ρ' σ' g ∧ Cur J l n s0 w S' F θ σ' g ρ' a := by
  have hr := h.env t
  simp only [AWit] at hw
  split at hw
  · rename_i nm rows hv
    rw [hv] at hr
    split at hw
    · rename_i k hσ
      suffices hv : ∀ x, Rep w S θ σ l (.sl (.own nm) rows) x → RepP w (fun b => S b ∨ ∃ m, θ nm = some (b, m)) (.sl .p rows) x from ⟨_, _, _, hw, h.freeze hst (live_vec hσ) (.pure (hv _ hr))⟩
      intro x0 hr
      cases hr with
      | pure h1 => cases h1
      | own _ _ b off cap m ys hn hb hcap hwd hc hr hf =>
        refine .sl rows b off cap m ys ?_ hcap hwd hc (fun i j row v h1 h2 => (hr i j row v h1 h2).mono (fun _ _ => rfl) fun b hb => .inl hb)
        rcases hb with hb | ⟨m', k', h1, _, _⟩
        · exact .inl hb
        · exact .inr ⟨m', h1⟩
      | ownemp _ ad hn => exact .emp ad 0
    · exact hw.elim
  · rename_i nm gen i len hv
    rw [hv] at hr
    split at hw
    · rename_i gen' rows hσ
      obtain ⟨rfl, hw⟩ := hw
      suffices hv : ∀ x, Rep w S θ σ l (.msl nm gen i len) x → RepP w (fun b => S b ∨ ∃ m, θ nm = some (b, m)) (.sl .p ((rows.drop i).take len)) x from ⟨_, _, _, hw, h.freeze hst (live_arr hσ) (.pure (hv _ hr))⟩
      intro x0 hr
      cases hr with
      | pure h1 => cases h1
      | msl _ _ _ _ x ho hn hg hx =>
        rcases hx rows hσ with ⟨b, m, cap, hθ, hle, e1, hcap, hlen⟩ | ⟨rfl, ad, e1⟩
        · have hk := h.st.hblk nm
          rw [hσ] at hk
          rcases hk with ⟨h2, _⟩ | ⟨b', m', c, e', h2, h3, h4, h5, h6⟩
          · rw [hθ] at h2; cases h2
          have eb : b' = b ∧ m' = m := by rw [hθ] at h2; simp at h2; exact ⟨h2.1.symm, h2.2.symm⟩
          obtain ⟨rfl, rfl⟩ := eb
          rw [e1]
          have hl2 : ((rows.drop i).take len).length = len := by simp; omega
          have hrow : ∀ q : Nat, ∀ row, ((rows.drop i).take len)[q]? = some row → rows[i + q]? = some row := by
            intro q row hq
            rw [List.getElem?_take] at hq
            split at hq
            · rwa [List.getElem?_drop] at hq
            · cases hq
          have := RepP.sl (w := w) (S := fun b => S b ∨ ∃ m, θ nm = some (b, m)) ((rows.drop i).take len) b' (i * m') cap m' (fun q j => c.getD ((i + q) * m' + j) undef) (.inr ⟨m', hθ⟩) (by rw [hl2]; exact hle)
            (fun row hr => h4 row (List.mem_of_mem_drop (List.mem_of_mem_take hr)))
            (fun q j row v h7 h8 => by
              obtain ⟨y, hy, _⟩ := h6 (i + q) j row v (hrow q row h7) h8
              have hi := Array.getElem?_eq_some_iff.1 hy
              have e2 : c.getD ((i + q) * m' + j) undef = y := by simp [Array.getD, hi.1, hi.2]
              rw [e2, cell_of_row w b' _ c e' _ h3, ← Nat.add_mul]
              exact hy)
            (fun q j row v h7 h8 => by
              obtain ⟨y, hy, hr⟩ := h6 (i + q) j row v (hrow q row h7) h8
              have hi := Array.getElem?_eq_some_iff.1 hy
              have e2 : c.getD ((i + q) * m' + j) undef = y := by simp [Array.getD, hi.1, hi.2]
              rw [e2]
              exact hr.mono (fun _ _ => rfl) fun b hb => .inl hb)
          rw [hl2] at this
          exact this
        · rw [e1]
          simp only [List.take_zero]
          exact .emp ad 0
    · exact hw.elim
  · rename_i nm j hv
    rw [hv] at hr
    split at hw
    · rename_i row hσ
      obtain ⟨hp, hw⟩ := hw
      suffices hv : ∀ x, Rep w S θ σ l (.bptr nm j) x → RepP w (fun b => S b ∨ ∃ m, θ nm = some (b, m)) (.cptr .p row j) x from ⟨_, _, _, hw, h.freeze hst (live_box hσ) (.pure (hv _ hr))⟩
      intro x0 hr
      cases hr with
      | pure h1 => cases h1
      | bptr _ _ x ho hn hx =>
        obtain ⟨b, m, hθ, e1⟩ := hx row hσ
        have hk := h.st.hblk nm
        rw [hσ] at hk
        obtain ⟨b', c, e', h2, h3, h4, h5⟩ := hk
        have eb : b' = b := by rw [hθ] at h2; simp at h2; exact h2.1.symm
        subst eb
        rw [e1]
        have := RepP.cptr (w := w) (S := fun b => S b ∨ ∃ m, θ nm = some (b, m)) row b' 0 j (fun i => c.getD i undef) (.inr ⟨m, hθ⟩)
          (fun i v hv => by
            obtain ⟨y, hy, _⟩ := h5 i v hv
            have hi := Array.getElem?_eq_some_iff.1 hy
            have e2 : c.getD i undef = y := by simp [Array.getD, hi.1, hi.2]
            rw [e2, cell_of_row w b' _ c e' _ h3, Nat.zero_add]
            exact hy)
          (fun i v hv => by
            obtain ⟨y, hy, hr⟩ := h5 i v hv
            have hi := Array.getElem?_eq_some_iff.1 hy
            have e2 : c.getD i undef = y := by simp [Array.getD, hi.1, hi.2]
            rw [e2]
            exact (hr.toP (pure_cells hp v (mem_of_get hv))).mono (fun _ _ => rfl) fun b hb => .inl hb)
        simpa using this
    · exact hw.elim
  · rename_i hv
    rw [hv] at hr
    refine ⟨_, _, S, hw, h.st, fun t' => ?_, h.sz, h.fr, h.de, h.dn⟩
    by_cases e : t' = t
    · subst e
      rw [upd_self]
      suffices key : ∀ x, Rep w S θ σ l (.sl .nil []) x → Rep w S θ σ l (.sl .p []) x from key _ hr
      intro x hr
      cases hr with
      | pure h1 =>
        cases h1 with
        | nilsl ad => exact .pure (.emp ad 0)
    · rw [upd_ne ρ _ e]; exact h.env t'
  · rename_i b n cap hv
    rw [hv] at hr
    obtain ⟨nm, ll, rows, m, hσ, hn, hw0, hpl, htk, hw⟩ := hw
    obtain ⟨e1, hnc⟩ := hr.rsl_inv
    have hk := h.st.hblk nm
    rw [hσ] at hk
    obtain ⟨b', c, e', h2, h3, ⟨h4, h4t, h4g⟩, h5⟩ := hk
    have eb : b = b' := h4g
    subst eb
    refine ⟨_, _, _, hw, h.freeze hst (live_box hσ) (.pure ?_)⟩
    rw [e1, ← hn]
    have hat : ∀ (i j : Nat) (row v : V), rows[i]? = some row → row.cells[j]? = some v → ll[i * m + j]? = some v ∧ pureB v = true := by
      intro i j row v h6 h7
      have h8 := flat_at hw0 h6 h7
      have h9 := List.all_eq_true.1 hpl v (mem_of_get h8)
      rw [← htk, List.getElem?_take] at h8
      split at h8
      · exact ⟨h8, h9⟩
      · cases h8
    refine RepP.sl (w := w) (S := fun b => S b ∨ ∃ m, θ nm = some (b, m)) rows b 0 cap m (fun i j => c.getD (i * m + j) undef) (.inr ⟨_, h2⟩) (by omega) hw0 (fun i j row v h6 h7 => ?_) (fun i j row v h6 h7 => ?_)
    · obtain ⟨y, hy, _⟩ := h5 _ v (hat i j row v h6 h7).1
      have hi := Array.getElem?_eq_some_iff.1 hy
      have e2 : c.getD (i * m + j) undef = y := by simp [Array.getD, hi.1, hi.2]
      rw [e2, cell_of_row w b _ c e' _ h3, Nat.zero_add]
      exact hy
    · obtain ⟨y, hy, hr⟩ := h5 _ v (hat i j row v h6 h7).1
      have hi := Array.getElem?_eq_some_iff.1 hy
      have e2 : c.getD (i * m + j) undef = y := by simp [Array.getD, hi.1, hi.2]
      rw [e2]
      exact (hr.toP (hat i j row v h6 h7).2).mono (fun _ _ => rfl) fun b hb => .inl hb
  · exact hw.elim
theorem items_wp {ops : Array Oper} {Q : Exit → Act → World → Prop} {ro : Option Nat} (hst : Stable J) (hM : MonoH H) (hH : HokS P J H l) : ∀ (items : List GItem) (is : List Nat) {w : World} {S F : Nat → Prop} {θ : Names} {σ : Store} {g : G} {ρ : Env} {a : Act} {K : Env → Store → G → Prop},
    seqOk P n ops items is = true → Cur J l n s0 w S F θ σ g ρ a → AWits P H items ρ σ g K →
    (∀ ρ' σ' g' S' F' θ' w' a', K ρ' σ' g' → Cur J l n s0 w' S' F' θ' σ' g' ρ' a' → Q .normal a' w') → wpOpsIn (wf ro) 0 P ops Q is a w
  | [], [], w, S, F, θ, σ, g, ρ, a, K, _, hc, hw, hk => hk _ _ _ _ _ _ _ _ hw hc
  | [], _ :: _, _, _, _, _, _, _, _, _, _, h, _, _, _ => by simp [seqOk] at h
  | .frz t :: r, is, w, S, F, θ, σ, g, ρ, a, K, h, hc, hw, hk => by
    simp only [seqOk, Bool.and_eq_true] at h
    obtain ⟨ρ', σ', S', h1, h2⟩ := frz_cur hst hc hw
    exact items_wp hst hM hH r is h.2 h2 h1 hk
  | .op dst gd o :: r, [], _, _, _, _, _, _, _, _, _, h, _, _, _ => by simp [seqOk] at h
  | .op dst gd o :: r, i :: is, w, S, F, θ, σ, g, ρ, a, K, h, hc, hw, hk => by
    simp only [seqOk, Bool.and_eq_true] at h
    obtain ⟨h1, h2⟩ := h
    unfold chkItemAt at h1
    simp only [AWits] at hw
    rw [AWit_gate] at hw
    simp only [wpOpsIn]
    cases ho : ops[i]? with
    | none => rw [ho] at h1; cases h1
    | some op =>
      rw [ho] at h1
      simp only [chkItem, Bool.and_eq_true] at h1
      obtain ⟨⟨hd, hg⟩, hop⟩ := h1
      cases hgt : gate ρ gd with
      | none => rw [hgt] at hw; exact hw.elim
      | some b =>
        rw [hgt] at hw
        have hwant := gate_wanted hc.env hg hgt
        simp only [hwant]
        cases b with
        | true =>
          simp only [if_true]
          refine op_wp hst hM hH hc.st hc.env hop hw fun x w' hp => ?_
          obtain ⟨v, σ', g', S', F', θ', hk', hc'⟩ := hc.step hd hp
          exact items_wp hst hM hH r is h2 hc' hk' hk
        | false =>
          simp only [Bool.false_eq_true, if_false]
          exact ⟨fun _ _ => trivial, items_wp hst hM hH r is h2 (hc.skip hd) hw hk⟩
end
def allOps (P : Program) (n : Nat) (ops : Array Oper) (l : List GItem) : Bool :=
  Nat.beq l.length ops.size && (List.range ops.size).all fun i => match l[i]? with
    | some it => chkItemAt P n ops i it
    | none => false
def chkDraw (P : Program) (n : Nat) (ops : Array Oper) (l : List GItem) (t : OT) : Bool :=
  natTop ops && allOps P n ops l && chkOT l ops.size (aftOf ops) t
def chk (P : Program) (n : Nat) : Bool → Cmd → Code → Bool
  | _, .skip, .skip => true
  | _, .ops l, .region _ ops false => seqOk P n ops l (List.range ops.size)
  | _, .ops l, .region _ ops true => chkDraw P n ops l (.leaf (List.range ops.size))
  | _, .opsT t l, .region _ ops true => chkDraw P n ops l t
  | r, .seq a b, c => match a, b with
    | .frz t, b => Nat.blt t n && chk P n r b c
    | a, .frz t => Nat.blt t n && chk P n r a c
    | a, b => match c with
      | .seq x y => chk P n r a x && chk P n r b y
      | _ => false
  | r, .cond x a b, .cond c y z => chkOpd c x && chk P n r a y && chk P n r b z
  | r, .block id a, .block id' c => Nat.beq id id' && chk P n r a c
  | r, .loop a, .loop c => chk P n r a c
  | _, .exit id, .exit id' => Nat.beq id id'
  | r, .cut a, c => chk P n r a c
  | r, .nvb _ _ _ a, c => chk P n r a c
  | r, .fzb _ _ a, c => chk P n r a c
  | r, .nvs _ _ a, c => chk P n r a c
  | r, .nvt _ _ _ a, c => chk P n r a c
  | r, .tagb _ a, c => chk P n r a c
  | r, .frzr a, c => chk P n r a c
  | _, .ret, .ret => true
  | false, .rangeF _ f ps a b, .rangeFunc g qs x y => chkOpd g f && (ps == qs.toList) && (ps.all fun p => Nat.blt p n) && chk P n true a x && chk P n true b y
  | _, _, _ => false
section
variable {G : Type} {J : JT G} {w w' w'' : World} {S F S' F' S'' F'' : Nat → Prop} {θ θ' θ'' : Names} {σ σ' σ'' : Store} {l n : Nat} {g g' : G}
variable {P : Program} {o : Oper} {a : Act} {ρ : Env} {H : HT G} {s0 : Start}
theorem pickAll_range (l : List GItem) : pickAll l (List.range l.length) = l := by
  have key : ∀ (q p : List GItem), pickAll (p ++ q) (List.range' p.length q.length) = q := by
    intro q
    induction q with
    | nil => intro p; simp [pickAll]
    | cons x q ih =>
      intro p
      have := ih (p ++ [x])
      simp only [List.append_assoc, List.singleton_append, List.length_append, List.length_singleton] at this
      simp only [List.length_cons, List.range'_succ, pickAll]
      rw [List.getElem?_append_right (Nat.le_refl _)]
      simp [this]
  have := key l []
  simpa [List.range_eq_range'] using this
theorem seqOk_pick {ops : Array Oper} {l : List GItem} (h : allOps P n ops l = true) : ∀ (π : List Nat), (∀ i ∈ π, i < ops.size) → seqOk P n ops (pickAll l π) π = true
  | [], _ => rfl
  | i :: π, hp => by
    have hi := hp i (by simp)
    unfold allOps at h
    simp only [Bool.and_eq_true] at h
    have h1 := (List.all_eq_true.1 h.2) i (List.mem_range.2 hi)
    simp only [pickAll]
    cases hl : l[i]? with
    | none => rw [hl] at h1; cases h1
    | some it =>
      rw [hl] at h1
      simp only at h1 ⊢
      cases it with
      | frz t =>
        unfold chkItemAt at h1
        split at h1 <;> cases h1
      | op dst gd o =>
        simp only [seqOk, Bool.and_eq_true]
        exact ⟨h1, seqOk_pick (by unfold allOps; simp only [Bool.and_eq_true]; exact h) π (fun j hj => hp j (by simp [hj]))⟩
theorem draw_wp {ops : Array Oper} {id : Nat} {t : OT} {items : List GItem} {ro : Option Nat} {Q : Exit → Env → Store → G → Prop} (hmix : P.follows .mixedOrders = true) (hst : Stable J) (hM : MonoH H) (hH : HokS P J H l)
    (hc : chkDraw P n ops items t = true) (h : Cur J l n s0 w S F θ σ g ρ a) (hw : AWT P H items t ρ σ g (Q .normal)) : (Code.region id ops true).wpIn (wf ro) 0 P (PostA J l n s0 Q) a w := by
  simp only [chkDraw, Bool.and_eq_true] at hc
  obtain ⟨⟨h1, h2⟩, h3⟩ := hc
  refine wpIn_region_draw fun t' => ?_
  obtain ⟨d1, d2⟩ := St.drew hst h.st
  have hcur : Cur J l n s0 w.drew S F θ σ g ρ a := ⟨d1, h.env.fr h.st d2, h.sz, h.fr.trans h.st d2, h.de.fr d2, h.dn⟩
  have hsch : Region.schedule (P.follows .mixedOrders) ops t' = Region.linearise .any ops t' := by simp [Region.schedule, hmix]
  rw [hsch]
  obtain ⟨hp, hb⟩ := lin_spec ops h1 t'
  have hlen : items.length = ops.size := by
    unfold allOps at h2
    simp only [Bool.and_eq_true] at h2
    exact Nat.eq_of_beq_eq_true h2.1
  have haw := AWT_sound hM hlen hp t (aftOf ops) (fun j hj i hi => hb j i hi hj) h3 hw
  exact items_wp hst hM hH _ _ (seqOk_pick h2 _ (fun i hi => List.mem_range.1 (hp.mem_iff.1 hi))) hcur haw (fun ρ' σ' g' S' F' θ' w' a' hk hc => ⟨.inl rfl, ρ', σ', g', S', F', θ', hk, hc⟩)
theorem fitsE_mem {E : List (Nat × V)} (h : FitsE E ρ) (t : Nat) : envOf E t = .any ∨ ∃ v, (t, v) ∈ E ∧ envOf E t = v ∧ ρ t = v := by
  induction E with
  | nil => exact .inl rfl
  | cons p r ih =>
    obtain ⟨d, v⟩ := p
    simp only [envOf]
    cases hb : Nat.beq t d with
    | true =>
      have e := Nat.eq_of_beq_eq_true hb
      subst e
      exact .inr ⟨v, by simp, rfl, h.1⟩
    | false =>
      rcases ih h.2 with h1 | ⟨v', h1, h2, h3⟩
      · exact .inl h1
      · exact .inr ⟨v', by simp [h1], h2, h3⟩
theorem fitsS_mem {Sg : List (Nat × Blk)} (h : FitsS Sg σ) (t : Nat) : (t ∈ Sg.map (·.1) → stOf Sg t = σ t) ∧ (t ∉ Sg.map (·.1) → stOf Sg t = .unused) := by
  induction Sg with
  | nil => exact ⟨fun h => by simp at h, fun _ => rfl⟩
  | cons p r ih =>
    obtain ⟨d, b⟩ := p
    obtain ⟨h1, h2⟩ := ih h.2
    simp only [stOf]
    cases hb : Nat.beq t d with
    | true =>
      have e := Nat.eq_of_beq_eq_true hb
      subst e
      exact ⟨fun _ => h.1.symm, fun hn => absurd (by simp) hn⟩
    | false =>
      have hne : t ≠ d := fun e => by rw [e] at hb; simp at hb
      refine ⟨fun hm => h1 ?_, fun hn => h2 fun hm => hn ?_⟩
      · simp only [List.map_cons, List.mem_cons] at hm
        exact hm.resolve_left hne
      · simp only [List.map_cons, List.mem_cons]; exact .inr hm
theorem restr_live {pn : List Nat} (hp : ∀ nm, nm ∈ pn → σ' nm = σ nm ∧ θ' nm = θ nm) (hq : ∀ nm, nm ∉ pn → σ' nm = .unused ∧ θ' nm = none) {b : Nat} (h : LiveB θ' σ' b) : LiveB θ σ b := by
  obtain ⟨nm, m, h1, h2⟩ := h
  by_cases hm : nm ∈ pn
  · obtain ⟨e1, e2⟩ := hp nm hm
    exact ⟨nm, m, by rw [← e1]; exact h1, by rw [← e2]; exact h2⟩
  · rw [(hq nm hm).1] at h1; exact h1.elim
theorem DefOk.sub (hL : ∀ b, LiveB θ' σ' b → LiveB θ σ b) : ∀ {ds : List Deferred}, DefOk w S F θ σ ds → DefOk w S F θ' σ' ds
  | [], _ => trivial
  | _ :: _, ⟨⟨r, h1, h2, h3, h4, h5, h6⟩, h7⟩ => ⟨⟨r, h1, h2, h3, h4, fun h => h5 (hL r h), h6⟩, DefOk.sub hL h7⟩
theorem Cur.weaken {pn : List Nat} {E : List (Nat × V)} {Sg : List (Nat × Blk)} (hpn : ∀ nm, s0.σ nm ≠ .unused → nm ∈ pn) (h : Cur J l n s0 w S F θ σ g ρ a) (hf : Fits pn E Sg ρ σ) :
    Cur J l n s0 w S F (restrN (Sg.map (·.1)) θ) (stOf Sg) g (envOf E) a := by
  obtain ⟨hE, hS, hB⟩ := hf
  simp only [fitB, Bool.and_eq_true] at hB
  obtain ⟨⟨hB1, hB2⟩, hB3⟩ := hB
  have hp : ∀ nm, nm ∈ Sg.map (·.1) → stOf Sg nm = σ nm ∧ restrN (Sg.map (·.1)) θ nm = θ nm := fun nm hm => ⟨(fitsS_mem hS nm).1 hm, (restr_in (σ := σ) hm).2⟩
  have hq : ∀ nm, nm ∉ Sg.map (·.1) → stOf Sg nm = .unused ∧ restrN (Sg.map (·.1)) θ nm = none := fun nm hm => ⟨(fitsS_mem hS nm).2 hm, (restr_out (σ := σ) hm).2⟩
  have hcl := (closedSt_iff _ _ _).1 hB2
  refine ⟨h.st.restr hp hq (fun nm hm row hrow => hcl nm hm row (by rw [(hp nm hm).1]; exact hrow)), fun t => ?_, h.sz, h.fr.drop (fun nm hn => (hasAll_iff _ _).1 hB3 nm (hpn nm hn)) hp hq, h.de.sub fun b hb => restr_live hp hq hb, h.dn⟩
  rcases fitsE_mem hE t with h1 | ⟨v, h1, h2, h3⟩
  · rw [h1]; exact .pure (.any _)
  · rw [h2]
    have := h.env t
    rw [h3] at this
    exact this.restr hp ((closedE_iff _ _).1 hB1 (t, v) h1)
theorem exists_min (p : Nat → Prop) (h : ∃ k, p k) : ∃ k, p k ∧ ∀ j, p j → k ≤ j := by
  obtain ⟨k, hk⟩ := h
  induction k using Nat.strongRecOn with
  | _ k ih =>
    by_cases hex : ∃ j, j < k ∧ p j
    · obtain ⟨j, hj, hp⟩ := hex
      exact ih j hj hp
    · refine ⟨k, hk, fun j hj => ?_⟩
      by_cases hjk : j < k
      · exact absurd ⟨j, hjk, hj⟩ hex
      · omega
theorem loop_ix {F0 : Fence} {c : Code} {Q : Exit → Act → World → Prop} {ι : Type} (I : ι → Act → World → Prop) (μ : ι → Nat) (i : ι) (h0 : I i a w)
    (round : ∀ i a w, I i a w → c.wpIn F0 0 P (Exit.then (fun a' w' => ∃ i', I i' a' w' ∧ μ i' < μ i) Q) a w) : (Code.loop c).wpIn F0 0 P Q a w := by
  have key : ∀ a w, ∃ k, (∃ i, I i a w) → (∃ i, I i a w ∧ μ i = k) ∧ ∀ i, I i a w → k ≤ μ i := by
    intro a w
    by_cases hex : ∃ i, I i a w
    · obtain ⟨i, hi⟩ := hex
      obtain ⟨k, hk, hmin⟩ := exists_min (fun k => ∃ i, I i a w ∧ μ i = k) ⟨μ i, i, hi, rfl⟩
      exact ⟨k, fun _ => ⟨hk, fun j hj => hmin _ ⟨j, hj, rfl⟩⟩⟩
    · exact ⟨0, fun h => absurd h hex⟩
  refine wpIn_loop (fun a w => ∃ i, I i a w) (fun a w => (key a w).choose) ⟨i, h0⟩ fun a w hI => ?_
  obtain ⟨⟨j, hj, hjk⟩, _⟩ := (key a w).choose_spec hI
  refine wpIn_mono (round j a w hj) fun e a' w' hq => ?_
  cases e <;> try exact hq
  obtain ⟨i', h1, h2⟩ := hq
  refine ⟨⟨i', h1⟩, ?_⟩
  have := ((key a' w').choose_spec ⟨i', h1⟩).2 i' h1
  show (key a' w').choose < (key a w).choose
  rw [← hjk]
  omega
theorem nvb_cur {j nm bn : Nat} {l0 : List V} (hst : Stable J) (h : Cur J l n s0 w S F θ σ g ρ a) (hb : σ bn = .box (.agg l0)) (hu : σ nm = .unused) (hj : l0[j]? = some (.sl .nil [])) :
    Cur J l n s0 w S F θ (ups (ups σ nm (.vec 0)) bn (.box (.agg (l0.set j (.sl (.own nm) []))))) g ρ a := by
  have hθ : θ nm = none := by have := h.st.hblk nm; rw [hu] at this; exact this
  have hne : bn ≠ nm := by intro e; rw [e, hu] at hb; cases hb
  have a2 : Fr w S F θ σ w S F θ (ups σ nm (.vec 0)) := Fr.fresh nm (.vec 0) hu hθ
  have h1 : Cur J l n s0 w S F θ (ups σ nm (.vec 0)) g ρ a := ⟨St.fresh hst h.st nm (.vec 0) hu (.inl ⟨hθ, rfl⟩), h.env.fr h.st a2, h.sz, h.fr.trans h.st a2, h.de.fr a2, h.dn⟩
  have hb1 : ups σ nm (.vec 0) bn = .box (.agg l0) := by rw [upt_ne σ _ hne]; exact hb
  have hk := h1.st.hblk bn
  rw [hb1] at hk
  obtain ⟨b, c, e, k1, k2, k3, k4⟩ := hk
  have hfr := Fr.write h1.st bn b (V.agg l0).cells.length c c e (.box (.agg (l0.set j (.sl (.own nm) [])))) (live_box hb1) k1 k2 rfl (by rw [hb1]; exact ⟨_, rfl⟩)
  have hst2 := St.write hst h1.st bn b (V.agg l0).cells.length c (.box (.agg (l0.set j (.sl (.own nm) [])))) (live_box hb1) k1 hfr (by
    have hfr' := hfr
    rw [setRow_self w b c e (0, 0) k2] at hfr' ⊢
    refine ⟨b, c, e, by rw [k1]; simp [V.cells], k2, ⟨by rw [k3.1]; simp [V.cells], k3.2⟩, fun q u hq => ?_⟩
    simp only [V.cells] at hq k4
    rw [List.getElem?_set] at hq
    by_cases hjq : j = q
    · subst hjq
      obtain ⟨y, hy, hr⟩ := k4 j _ hj
      refine ⟨y, hy, ?_⟩
      have hlt := (List.getElem?_eq_some_iff.1 hj).1
      rw [if_pos rfl, if_pos hlt] at hq
      injection hq with hq
      subst hq
      cases hr with
      | pure hp =>
        cases hp with
        | nilsl ad => exact .ownemp nm ad (by rw [upt_ne _ _ (Ne.symm hne), upt_self]; intro h; cases h)
    · rw [if_neg hjq] at hq
      obtain ⟨y, hy, hr⟩ := k4 q u hq
      exact ⟨y, hy, hr.fr hfr' h1.st⟩)
  rw [setRow_self w b c e (0, 0) k2] at hfr hst2
  exact ⟨hst2, h1.env.fr h1.st hfr, h1.sz, h1.fr.trans h1.st hfr, h1.de.fr hfr, h1.dn⟩
theorem nvs_cur {nm bn : Nat} (hst : Stable J) (h : Cur J l n s0 w S F θ σ g ρ a) (hb : σ bn = .box (.sl .nil [])) (hu : σ nm = .unused) :
    Cur J l n s0 w S F θ (ups (ups σ nm (.vec 0)) bn (.box (.sl (.own nm) []))) g ρ a := by
  have hθ : θ nm = none := by have := h.st.hblk nm; rw [hu] at this; exact this
  have hne : bn ≠ nm := by intro e; rw [e, hu] at hb; cases hb
  have a2 : Fr w S F θ σ w S F θ (ups σ nm (.vec 0)) := Fr.fresh nm (.vec 0) hu hθ
  have h1 : Cur J l n s0 w S F θ (ups σ nm (.vec 0)) g ρ a := ⟨St.fresh hst h.st nm (.vec 0) hu (.inl ⟨hθ, rfl⟩), h.env.fr h.st a2, h.sz, h.fr.trans h.st a2, h.de.fr a2, h.dn⟩
  have hb1 : ups σ nm (.vec 0) bn = .box (.sl .nil []) := by rw [upt_ne σ _ hne]; exact hb
  have hk := h1.st.hblk bn
  rw [hb1] at hk
  obtain ⟨b, c, e, k1, k2, k3, k4⟩ := hk
  have hfr := Fr.write h1.st bn b (V.sl .nil []).cells.length c c e (.box (.sl (.own nm) [])) (live_box hb1) k1 k2 rfl (by rw [hb1]; exact ⟨_, rfl⟩)
  have hst2 := St.write hst h1.st bn b (V.sl .nil []).cells.length c (.box (.sl (.own nm) [])) (live_box hb1) k1 hfr (by
    have hfr' := hfr
    rw [setRow_self w b c e (0, 0) k2] at hfr' ⊢
    refine ⟨b, c, e, k1, k2, k3, fun q u hq => ?_⟩
    simp only [V.cells] at hq k4
    cases q with
    | succ q => cases hq
    | zero =>
      cases hq
      obtain ⟨y, hy, hr⟩ := k4 0 _ rfl
      refine ⟨y, hy, ?_⟩
      cases hr with
      | pure hp =>
        cases hp with
        | nilsl ad => exact .ownemp nm ad (by rw [upt_ne _ _ (Ne.symm hne), upt_self]; intro h; cases h))
  rw [setRow_self w b c e (0, 0) k2] at hfr hst2
  exact ⟨hst2, h1.env.fr h1.st hfr, h1.sz, h1.fr.trans h1.st hfr, h1.de.fr hfr, h1.dn⟩
theorem tagb_cur {t bn : Nat} {l0 : List V} (hst : Stable J) (h : Cur J l n s0 w S F θ σ g ρ a) (ht : ρ t = .bptr bn 0) (hb : σ bn = .box (.agg l0)) :
    ∃ b, Cur J l n s0 w S F θ (ups σ bn (.box (.tag b l0))) g (upd ρ t (.raw b 0)) a := by
  have hk := h.st.hblk bn
  rw [hb] at hk
  obtain ⟨b, c, e, k1, k2, k3, k4⟩ := hk
  have hfr := Fr.write h.st bn b (V.agg l0).cells.length c c e (.box (.tag b l0)) (live_box hb) k1 k2 rfl (by rw [hb]; exact ⟨_, rfl⟩)
  have hst2 := St.write hst h.st bn b (V.agg l0).cells.length c (.box (.tag b l0)) (live_box hb) k1 hfr (by
    have hfr' := hfr
    rw [setRow_self w b c e (0, 0) k2] at hfr' ⊢
    exact ⟨b, c, e, k1, k2, ⟨k3.1, k3.2.1, rfl⟩, fun q u hq => by
      obtain ⟨y, hy, hr⟩ := k4 q u hq
      exact ⟨y, hy, hr.fr hfr' h.st⟩⟩)
  rw [setRow_self w b c e (0, 0) k2] at hfr hst2
  refine ⟨b, hst2, fun t' => ?_, h.sz, h.fr.trans h.st hfr, h.de.fr hfr, h.dn⟩
  by_cases e : t' = t
  · subst e
    rw [upd_self]
    have hr := h.env t'
    rw [ht] at hr
    suffices key : ∀ x, Rep w S θ σ l (.bptr bn 0) x → x = .pointer (some ⟨b, 0, none⟩) by
      rw [key _ hr]; exact .pure (.raw b 0)
    intro x hr
    cases hr with
    | pure hp => cases hp
    | bptr _ _ _ _ hn h1 =>
      obtain ⟨b2, m, hb2, e⟩ := h1 _ hb
      rw [k1] at hb2
      simp only [Option.some.injEq, Prod.mk.injEq] at hb2
      rw [hb2.1]; exact e
  · rw [upd_ne ρ _ e]; exact (h.env t').fr hfr h.st
theorem tagv_cur {vn bn : Nat} {l0 : List V} (hst : Stable J) (h : Cur J l n s0 w S F θ σ g ρ a) (hv : σ vn = .box (.bptr bn 0)) (hb : σ bn = .box (.agg l0)) :
    ∃ b, Cur J l n s0 w S F θ (ups (ups σ bn (.box (.tag b l0))) vn (.box (.raw b 0))) g ρ a := by
  have hk := h.st.hblk bn
  rw [hb] at hk
  obtain ⟨b, c, e, k1, k2, k3, k4⟩ := hk
  have hfr := Fr.write h.st bn b (V.agg l0).cells.length c c e (.box (.tag b l0)) (live_box hb) k1 k2 rfl (by rw [hb]; exact ⟨_, rfl⟩)
  have hst2 := St.write hst h.st bn b (V.agg l0).cells.length c (.box (.tag b l0)) (live_box hb) k1 hfr (by
    have hfr' := hfr
    rw [setRow_self w b c e (0, 0) k2] at hfr' ⊢
    exact ⟨b, c, e, k1, k2, ⟨k3.1, k3.2.1, rfl⟩, fun q u hq => by
      obtain ⟨y, hy, hr⟩ := k4 q u hq
      exact ⟨y, hy, hr.fr hfr' h.st⟩⟩)
  rw [setRow_self w b c e (0, 0) k2] at hfr hst2
  have hcur : Cur J l n s0 w S F θ (ups σ bn (.box (.tag b l0))) g ρ a := ⟨hst2, fun t' => (h.env t').fr hfr h.st, h.sz, h.fr.trans h.st hfr, h.de.fr hfr, h.dn⟩
  have hne : vn ≠ bn := fun e => by subst e; rw [hv] at hb; cases hb
  have hv1 : ups σ bn (.box (.tag b l0)) vn = .box (.bptr bn 0) := by
    unfold ups
    rw [show Nat.beq vn bn = false from by cases hbq : Nat.beq vn bn with
      | false => rfl
      | true => exact absurd (Nat.eq_of_beq_eq_true hbq) hne]
    exact hv
  have hb1 : ups σ bn (.box (.tag b l0)) bn = .box (.tag b l0) := by
    unfold ups
    rw [Nat.beq_refl]
    rfl
  have hk' := hcur.st.hblk vn
  rw [hv1] at hk'
  obtain ⟨b2, c2, e2, q1, q2, q3, q4⟩ := hk'
  have hfr2 := Fr.write hcur.st vn b2 (V.bptr bn 0).cells.length c2 c2 e2 (.box (.raw b 0)) (live_box hv1) q1 q2 rfl (by rw [hv1]; exact ⟨_, rfl⟩)
  have hst3 := St.write hst hcur.st vn b2 (V.bptr bn 0).cells.length c2 (.box (.raw b 0)) (live_box hv1) q1 hfr2 (by
    rw [setRow_self w b2 c2 e2 (0, 0) q2]
    refine ⟨b2, c2, e2, q1, q2, ⟨q3.1, q3.2.1, trivial⟩, fun q u hq => ?_⟩
    have hq0 : q = 0 ∧ u = .raw b 0 := by
      cases q with
      | zero => exact ⟨rfl, by simpa [V.cells] using hq.symm⟩
      | succ q => simp [V.cells] at hq
    obtain ⟨rfl, rfl⟩ := hq0
    obtain ⟨y, hy, hr⟩ := q4 0 (.bptr bn 0) rfl
    refine ⟨y, hy, ?_⟩
    suffices key : ∀ x, Rep w S θ (ups σ bn (.box (.tag b l0))) l (.bptr bn 0) x → x = .pointer (some ⟨b, 0, none⟩) by
      rw [key _ hr]; exact .pure (.raw b 0)
    intro x hr
    cases hr with
    | pure hp => cases hp
    | bptr _ _ _ _ hn h1 =>
      obtain ⟨b3, m, hb3, e⟩ := h1 _ hb1
      rw [k1] at hb3
      simp only [Option.some.injEq, Prod.mk.injEq] at hb3
      rw [hb3.1]; exact e)
  rw [setRow_self w b2 c2 e2 (0, 0) q2] at hfr2 hst3
  exact ⟨b, hst3, fun t' => (hcur.env t').fr hfr2 hcur.st, hcur.sz, hcur.fr.trans hcur.st hfr2, hcur.de.fr hfr2, hcur.dn⟩
theorem nvt_cur {t nm : Nat} {arr : Bool} (hst : Stable J) (h : Cur J l n s0 w S F θ σ g ρ a) (ht : ρ t = .sl .nil []) (hu : σ nm = .unused) :
    Cur J l n s0 w S F θ (ups σ nm (bif arr then .arr 0 [] else .vec 0)) g (upd ρ t (bif arr then .msl nm 0 0 0 else .sl (.own nm) [])) a := by
  have hθ : θ nm = none := by have := h.st.hblk nm; rw [hu] at this; exact this
  cases arr with
  | false =>
    have a2 : Fr w S F θ σ w S F θ (ups σ nm (.vec 0)) := Fr.fresh nm (.vec 0) hu hθ
    refine ⟨St.fresh hst h.st nm (.vec 0) hu (.inl ⟨hθ, rfl⟩), fun t' => ?_, h.sz, h.fr.trans h.st a2, h.de.fr a2, h.dn⟩
    by_cases e : t' = t
    · subst e
      rw [upd_self]
      have hr := h.env t'
      rw [ht] at hr
      suffices key : ∀ x, Rep w S θ σ l (.sl .nil []) x → Rep w S θ (ups σ nm (.vec 0)) l (.sl (.own nm) []) x from key _ hr
      intro x hr
      cases hr with
      | pure hp =>
        cases hp with
        | nilsl ad => exact .ownemp nm ad (by rw [upt_self]; intro h; cases h)
    · rw [upd_ne ρ _ e]; exact (h.env t').fr a2 h.st
  | true =>
    have a2 : Fr w S F θ σ w S F θ (ups σ nm (.arr 0 [])) := Fr.fresh nm (.arr 0 []) hu hθ
    refine ⟨St.fresh hst h.st nm (.arr 0 []) hu (.inl ⟨hθ, rfl⟩), fun t' => ?_, h.sz, h.fr.trans h.st a2, h.de.fr a2, h.dn⟩
    by_cases e : t' = t
    · subst e
      rw [upd_self]
      have hr := h.env t'
      rw [ht] at hr
      suffices key : ∀ x, Rep w S θ σ l (.sl .nil []) x → Rep w S θ (ups σ nm (.arr 0 [])) l (.msl nm 0 0 0) x from key _ hr
      intro x hr
      cases hr with
      | pure hp =>
        cases hp with
        | nilsl ad => exact .msl nm 0 0 0 _ rfl (by rw [upt_self]; intro h; cases h) (fun _ _ _ => Nat.zero_le _) (fun rows _ => .inr ⟨rfl, ad, rfl⟩)
    · rw [upd_ne ρ _ e]; exact (h.env t').fr a2 h.st
theorem own_freeze {nm : Nat} {rows : List V} {x : Value} (hr : Rep w S θ σ l (.sl (.own nm) rows) x) : RepP w (fun b => S b ∨ ∃ m, θ nm = some (b, m)) (.sl .p rows) x := by
  cases hr with
  | pure h1 => cases h1
  | own _ _ b off cap m ys hn hb hcap hwd hc hr hf =>
    refine .sl rows b off cap m ys ?_ hcap hwd hc (fun i j row v h1 h2 => (hr i j row v h1 h2).mono (fun _ _ => rfl) fun b hb => .inl hb)
    rcases hb with hb | ⟨m', k', h1, _, _⟩
    · exact .inl hb
    · exact .inr ⟨m', h1⟩
  | ownemp _ ad hn => exact .emp ad 0
theorem fzb_cur {j nm bn k : Nat} {l0 rows : List V} (hst : Stable J) (h : Cur J l n s0 w S F θ σ g ρ a) (hb : σ bn = .box (.agg l0)) (hu : σ nm = .vec k) (hj : l0[j]? = some (.sl (.own nm) rows)) :
    ∃ S', Cur J l n s0 w S' F θ (ups (ups σ nm .dead) bn (.box (.agg (l0.set j (.sl .p rows))))) g ρ a := by
  have hne : bn ≠ nm := by intro e; rw [e, hu] at hb; cases hb
  have a2 := Fr.freeze (w := w) (S := S) (F := F) (θ := θ) nm (live_vec hu)
  have h1 : Cur J l n s0 w (fun b => S b ∨ ∃ m, θ nm = some (b, m)) F θ (ups σ nm .dead) g ρ a := ⟨St.freeze hst h.st nm (live_vec hu), h.env.fr h.st a2, h.sz, h.fr.trans h.st a2, h.de.fr a2, h.dn⟩
  have hb1 : ups σ nm .dead bn = .box (.agg l0) := by rw [upt_ne σ _ hne]; exact hb
  have hk0 := h.st.hblk bn
  rw [hb] at hk0
  have hk := h1.st.hblk bn
  rw [hb1] at hk
  obtain ⟨b, c, e, k1, k2, k3, k4⟩ := hk
  obtain ⟨b0, c0, e0, q1, q2, q3, q4⟩ := hk0
  have eb : b0 = b := by rw [k1] at q1; simp at q1; exact q1.symm
  subst eb
  have ec : c0 = c := by rw [k2] at q2; simp at q2; exact q2.1.symm
  subst ec
  have hfr := Fr.write h1.st bn b0 (V.agg l0).cells.length c0 c0 e (.box (.agg (l0.set j (.sl .p rows)))) (live_box hb1) k1 k2 rfl (by rw [hb1]; exact ⟨_, rfl⟩)
  have hst2 := St.write hst h1.st bn b0 (V.agg l0).cells.length c0 (.box (.agg (l0.set j (.sl .p rows)))) (live_box hb1) k1 hfr (by
    have hfr' := hfr
    rw [setRow_self w b0 c0 e (0, 0) k2] at hfr' ⊢
    refine ⟨b0, c0, e, by rw [k1]; simp [V.cells], k2, ⟨by rw [k3.1]; simp [V.cells], k3.2⟩, fun q u hq => ?_⟩
    simp only [V.cells] at hq k4 q4
    rw [List.getElem?_set] at hq
    by_cases hjq : j = q
    · subst hjq
      obtain ⟨y, hy, hr⟩ := q4 j _ hj
      refine ⟨y, hy, ?_⟩
      have hlt := (List.getElem?_eq_some_iff.1 hj).1
      rw [if_pos rfl, if_pos hlt] at hq
      injection hq with hq
      subst hq
      exact .pure (own_freeze hr)
    · rw [if_neg hjq] at hq
      obtain ⟨y, hy, hr⟩ := k4 q u hq
      exact ⟨y, hy, hr.fr hfr' h1.st⟩)
  rw [setRow_self w b0 c0 e (0, 0) k2] at hfr hst2
  exact ⟨_, hst2, h1.env.fr h1.st hfr, h1.sz, h1.fr.trans h1.st hfr, h1.de.fr hfr, h1.dn⟩
theorem frzr_cur {nm nm2 b b2 nn cc j : Nat} {l0 l2 : List V} (hst : Stable J) (h : Cur J l n s0 w S F θ σ g ρ a) (hb : σ nm = .box (.tag b l0)) (hj : l0[j]? = some (.rsl b2 nn cc)) (hu : σ nm2 = .box (.tag b2 l2)) (hne : nm ≠ nm2) (hnl : nn ≤ l2.length) (hp : (l2.take nn).all (fun v => leafB v && pureB v) = true) :
    ∃ S', Cur J l n s0 w S' F θ (ups (ups σ nm2 .dead) nm (.box (.tag b (l0.set j (.sl .p (l2.take nn)))))) g ρ a := by
  have a2 := Fr.freeze (w := w) (S := S) (F := F) (θ := θ) nm2 (live_box hu)
  have hk2 := h.st.hblk nm2
  rw [hu] at hk2
  obtain ⟨b3, c3, e3, r2, r3, ⟨r4, r4t, r4g⟩, r5⟩ := hk2
  have eb3 : b2 = b3 := r4g
  subst eb3
  have h1 : Cur J l n s0 w (fun b => S b ∨ ∃ m, θ nm2 = some (b, m)) F θ (ups σ nm2 .dead) g ρ a := ⟨St.freeze hst h.st nm2 (live_box hu), h.env.fr h.st a2, h.sz, h.fr.trans h.st a2, h.de.fr a2, h.dn⟩
  have hb1 : ups σ nm2 .dead nm = .box (.tag b l0) := by rw [upt_ne σ _ hne]; exact hb
  have hk0 := h.st.hblk nm
  rw [hb] at hk0
  obtain ⟨b0, c0, e0, q1, q2, ⟨q3, q3t, q3g⟩, q4⟩ := hk0
  have eb0 : b = b0 := q3g
  subst eb0
  have hk := h1.st.hblk nm
  rw [hb1] at hk
  obtain ⟨b4, c4, e4, k1, k2, ⟨k3, k3t, k3g⟩, k4⟩ := hk
  have eb4 : b = b4 := k3g
  subst eb4
  have ec : c0 = c4 := by rw [k2] at q2; simp at q2; exact q2.1.symm
  subst ec
  have hfr := Fr.write h1.st nm b (V.tag b l0).cells.length c0 c0 e4 (.box (.tag b (l0.set j (.sl .p (l2.take nn))))) (live_box hb1) k1 k2 rfl (by rw [hb1]; exact ⟨_, rfl⟩)
  have hst2 := St.write hst h1.st nm b (V.tag b l0).cells.length c0 (.box (.tag b (l0.set j (.sl .p (l2.take nn))))) (live_box hb1) k1 hfr (by
    have hfr' := hfr
    rw [setRow_self w b c0 e4 (0, 0) k2] at hfr' ⊢
    refine ⟨b, c0, e4, by rw [k1]; simp [V.cells], k2, ⟨by rw [k3]; simp [V.cells], k3t, rfl⟩, fun q u hq => ?_⟩
    simp only [V.cells] at hq k4 q4
    rw [List.getElem?_set] at hq
    by_cases hjq : j = q
    · subst hjq
      obtain ⟨y, hy, hr⟩ := q4 j _ hj
      refine ⟨y, hy, ?_⟩
      have hlt := (List.getElem?_eq_some_iff.1 hj).1
      rw [if_pos rfl, if_pos hlt] at hq
      injection hq with hq
      subst hq
      obtain ⟨e1, hnc⟩ := hr.rsl_inv
      rw [e1]
      have hlen : (l2.take nn).length = nn := by simp; omega
      have hat : ∀ (i j : Nat) (row v : V), (l2.take nn)[i]? = some row → row.cells[j]? = some v → j = 0 ∧ l2[i]? = some v ∧ pureB v = true := by
        intro i j row v h6 h7
        have h8 := List.all_eq_true.1 hp row (mem_of_get h6)
        simp only [Bool.and_eq_true] at h8
        have hce : row.cells = [row] := by cases row <;> first | rfl | simp [leafB] at h8
        rw [hce] at h7
        rw [List.getElem?_take] at h6
        split at h6
        · cases j with
          | zero => cases h7; exact ⟨rfl, h6, h8.2⟩
          | succ j => cases h7
        · cases h6
      have := RepP.sl (w := w) (S := fun b => S b ∨ ∃ m, θ nm2 = some (b, m)) (l2.take nn) b2 0 cc 1 (fun i j => c3.getD i undef) (.inr ⟨_, r2⟩) (by omega)
        (fun row hr => by
          have h8 := List.all_eq_true.1 hp row hr
          simp only [Bool.and_eq_true] at h8
          cases row <;> first | rfl | simp [leafB] at h8)
        (fun i j row v h6 h7 => by
          obtain ⟨ej, h9, _⟩ := hat i j row v h6 h7
          obtain ⟨y2, hy2, _⟩ := r5 i v h9
          have hi := Array.getElem?_eq_some_iff.1 hy2
          have e2 : c3.getD i undef = y2 := by simp [Array.getD, hi.1, hi.2]
          rw [e2, cell_of_row w b2 _ c3 e3 _ r3, ej, Nat.zero_add, Nat.mul_one, Nat.add_zero]
          exact hy2)
        (fun i j row v h6 h7 => by
          obtain ⟨ej, h9, h10⟩ := hat i j row v h6 h7
          obtain ⟨y2, hy2, hr2⟩ := r5 i v h9
          have hi := Array.getElem?_eq_some_iff.1 hy2
          have e2 : c3.getD i undef = y2 := by simp [Array.getD, hi.1, hi.2]
          rw [e2]
          exact (hr2.toP h10).mono (fun _ _ => rfl) fun b hb => .inl hb)
      rw [hlen] at this
      exact .pure this
    · rw [if_neg hjq] at hq
      obtain ⟨y, hy, hr⟩ := k4 q u hq
      exact ⟨y, hy, hr.fr hfr' h1.st⟩)
  rw [setRow_self w b c0 e4 (0, 0) k2] at hfr hst2
  exact ⟨_, hst2, h1.env.fr h1.st hfr, h1.sz, h1.fr.trans h1.st hfr, h1.de.fr hfr, h1.dn⟩
end
structure FrN (w : World) (S : Nat → Prop) (θ : Names) (σ : Store) (w' : World) (S' : Nat → Prop) (θ' : Names) (σ' : Store) : Prop where
  size : w.heap.size ≤ w'.heap.size
  vecs : ∀ nm k b m, σ nm = .vec k → θ nm = some (b, m) → ∀ j, j < k * m → w'.cell? ⟨b, j, none⟩ = w.cell? ⟨b, j, none⟩
  smono : ∀ b, S b → S' b
  live : ∀ b, LiveB θ' σ' b → b < w.heap.size → LiveB θ σ b
  kdead : ∀ nm, σ nm = .dead → σ' nm = .dead
  kbox : ∀ nm row, σ nm = .box row → σ' nm = .dead ∨ ∃ row', σ' nm = .box row' ∧ θ' nm = θ nm
  karr : ∀ nm gen rows, σ nm = .arr gen rows → σ' nm = .dead ∨ ∃ gen' rows', σ' nm = .arr gen' rows' ∧ gen ≤ gen' ∧ (gen = gen' → θ' nm = θ nm ∧ rows.length ≤ rows'.length)
  kvec : ∀ nm k, σ nm = .vec k → (σ' nm = .dead ∧ ∀ b m, θ nm = some (b, m) → S' b) ∨
    ∃ k', σ' nm = .vec k' ∧ k ≤ k' ∧ (k = k' → θ' nm = θ nm) ∧ ∀ b m, θ nm = some (b, m) → θ' nm = some (b, m) ∨ S' b
section
variable {G : Type} {J : JT G} {w w' w'' : World} {S F S' F' S'' F'' : Nat → Prop} {θ θ' θ'' : Names} {σ σ' σ'' : Store} {l n : Nat} {g g' : G}
variable {P : Program} {o : Oper} {a : Act} {ρ : Env} {H : HT G} {s0 : Start}
theorem Fr.toN (h : Fr w S F θ σ w' S' F' θ' σ') : FrN w S θ σ w' S' θ' σ' := ⟨h.size, h.vecs, h.smono, h.live, h.kdead, h.kbox, h.karr, h.kvec⟩
theorem FrN.trans (h : FrN w S θ σ w' S' θ' σ') (hs : ∀ b, S' b → w''.heap[b]? = w'.heap[b]?) (k : FrN w' S' θ' σ' w'' S'' θ'' σ'') : FrN w S θ σ w'' S'' θ'' σ'' where
  size := Nat.le_trans h.size k.size
  vecs := fun nm q b m hq hb j hj => by
    have h1 := h.vecs nm q b m hq hb j hj
    rcases h.kvec nm q hq with ⟨_, hd⟩ | ⟨q', hq', hle, _, hθ⟩
    · exact (cell_of_heap (hs b (hd b m hb))).trans h1
    · rcases hθ b m hb with hθ | hS'
      · exact (k.vecs nm q' b m hq' hθ j (Nat.lt_of_lt_of_le hj (Nat.mul_le_mul_right m hle))).trans h1
      · exact (cell_of_heap (hs b hS')).trans h1
  smono := fun b hb => k.smono b (h.smono b hb)
  live := fun b hb hlt => h.live b (k.live b hb (Nat.lt_of_lt_of_le hlt h.size)) hlt
  kdead := fun nm hn => k.kdead nm (h.kdead nm hn)
  kbox := fun nm row hn => by
    rcases h.kbox nm row hn with h1 | ⟨row', h1, h2⟩
    · exact .inl (k.kdead nm h1)
    · rcases k.kbox nm row' h1 with h3 | ⟨row'', h3, h4⟩
      · exact .inl h3
      · exact .inr ⟨row'', h3, h4.trans h2⟩
  karr := fun nm gen rows hn => by
    rcases h.karr nm gen rows hn with h1 | ⟨gen', rows', h1, hle, h2⟩
    · exact .inl (k.kdead nm h1)
    · rcases k.karr nm gen' rows' h1 with h3 | ⟨gen'', rows'', h3, hle', h4⟩
      · exact .inl h3
      · refine .inr ⟨gen'', rows'', h3, Nat.le_trans hle hle', fun e => ?_⟩
        have e1 : gen = gen' := by omega
        have e2 : gen' = gen'' := by omega
        exact ⟨(h4 e2).1.trans (h2 e1).1, Nat.le_trans (h2 e1).2 (h4 e2).2⟩
  kvec := fun nm q hq => by
    rcases h.kvec nm q hq with ⟨h1, h2⟩ | ⟨q', h1, hle, h2, h3⟩
    · exact .inl ⟨k.kdead nm h1, fun b m hb => k.smono b (h2 b m hb)⟩
    · rcases k.kvec nm q' h1 with ⟨h4, h5⟩ | ⟨q'', h4, hle', h5, h6⟩
      · refine .inl ⟨h4, fun b m hb => ?_⟩
        rcases h3 b m hb with h7 | h7
        · exact h5 b m h7
        · exact k.smono b h7
      · refine .inr ⟨q'', h4, Nat.le_trans hle hle', fun e => ?_, fun b m hb => ?_⟩
        · have e1 : q = q' := by omega
          have e2 : q' = q'' := by omega
          exact (h5 e2).trans (h2 e1)
        · rcases h3 b m hb with h7 | h7
          · exact h6 b m h7
          · exact .inr (k.smono b h7)
theorem FrN.drop {pn : List Nat} (h : FrN w S θ σ w' S' θ' σ') (h0 : ∀ nm, σ nm ≠ .unused → nm ∈ pn) (hp : ∀ nm, nm ∈ pn → σ'' nm = σ' nm ∧ θ'' nm = θ' nm) (hq : ∀ nm, nm ∉ pn → σ'' nm = .unused ∧ θ'' nm = none) :
    FrN w S θ σ w' S' θ'' σ'' where
  size := h.size
  vecs := h.vecs
  smono := h.smono
  live := fun b hb hlt => h.live b (restr_live hp hq hb) hlt
  kdead := fun nm hn => by
    rw [(hp nm (h0 nm (by rw [hn]; intro hh; cases hh))).1]; exact h.kdead nm hn
  kbox := fun nm row hn => by
    obtain ⟨e1, e2⟩ := hp nm (h0 nm (by rw [hn]; intro hh; cases hh))
    rw [e1, e2]; exact h.kbox nm row hn
  karr := fun nm gen rows hn => by
    obtain ⟨e1, e2⟩ := hp nm (h0 nm (by rw [hn]; intro hh; cases hh))
    rw [e1, e2]; exact h.karr nm gen rows hn
  kvec := fun nm k hn => by
    obtain ⟨e1, e2⟩ := hp nm (h0 nm (by rw [hn]; intro hh; cases hh))
    rw [e1, e2]; exact h.kvec nm k hn
structure Stays (w : World) (S F : Nat → Prop) (θ : Names) (σ : Store) (w' : World) (S' : Nat → Prop) : Prop where
  size : w.heap.size ≤ w'.heap.size
  os : w'.os = w.os
  tape : w'.tape = w.tape
  output : Out w w'
  same : ∀ b, S b ∨ F b ∨ LiveB θ σ b → w'.heap[b]? = w.heap[b]?
  sized : ∀ (b : Nat) (c : Array Value) (e : TypeId) (fr : Nat × Nat), w.heap[b]? = some (.cells c e fr) → ∃ (c' : Array Value) (fr' : Nat × Nat), w'.heap[b]? = some (.cells c' e fr') ∧ c'.size = c.size ∧ (fr' = fr ∨ S' b)
  smono : ∀ b, S b → S' b
  sok : ∀ b, S' b → b < w'.heap.size ∧ ¬ F b ∧ ¬ LiveB θ σ b
def noJ {G : Type} : JT G := fun _ _ _ _ => True
theorem Stays.fr (hs : St J w S F θ σ l g) (h : Stays w S F θ σ w' S') :
    St (noJ (G := G)) w S (fun b => b < w.heap.size ∧ ¬ S b ∧ ¬ LiveB θ σ b) θ σ l g ∧
    Fr w S (fun b => b < w.heap.size ∧ ¬ S b ∧ ¬ LiveB θ σ b) θ σ w' S' (fun b => b < w.heap.size ∧ ¬ S b ∧ ¬ LiveB θ σ b) θ σ := by
  refine ⟨⟨hs.hS, hs.hblk, hs.hinj, hs.hliveS, fun b hb => hb, trivial⟩, ?_⟩
  exact {
    size := h.size
    os := h.os
    tape := h.tape
    output := h.output
    same := fun b hb hl hF => by
      by_cases hS : S b
      · exact h.same b (.inl hS)
      · exact absurd ⟨hb, hS, hl⟩ hF
    sized := fun b c e fr hc => by
      obtain ⟨c', f, h3, h4, h5⟩ := h.sized b c e fr hc
      exact ⟨c', f, h3, h4, h5.imp id fun h6 => ⟨h6, (h.sok b h6).2.2⟩⟩
    vecs := fun nm k b m h1 h2 j hj => cell_of_heap (h.same b (.inr (.inr ⟨nm, m, live_vec h1, h2⟩)))
    smono := h.smono
    snew := fun b hb => by
      by_cases hS : S b
      · exact .inl hS
      · by_cases hL : LiveB θ σ b
        · exact .inr (.inl hL)
        · by_cases hlt : b < w.heap.size
          · exact .inr (.inr (.inl ⟨hlt, hS, hL⟩))
          · exact .inr (.inr (.inr (Nat.le_of_not_lt hlt)))
    live := fun _ h _ => h
    fsub := fun _ h _ => h
    kdead := fun _ h => h
    kbox := fun _ row h => .inr ⟨row, h, rfl⟩
    karr := fun _ gen rows h => .inr ⟨gen, rows, h, Nat.le_refl _, fun _ => ⟨rfl, Nat.le_refl _⟩⟩
    kvec := fun _ k h => .inr ⟨k, h, Nat.le_refl _, fun _ => rfl, fun _ _ h => .inl h⟩ }
theorem Stays.rep (hs : St J w S F θ σ l g) (h : Stays w S F θ σ w' S') {v : V} {x : Value} (hr : Rep w S θ σ l v x) : Rep w' S' θ σ l v x :=
  hr.fr (h.fr hs).2 (h.fr hs).1
theorem Stays.frN (hs : St J w S F θ σ l g) (h : Stays w S F θ σ w' S') : FrN w S θ σ w' S' θ σ := (h.fr hs).2.toN
theorem Stays.st (hst : Stable J) (hs : St J w S F θ σ l g) (h : Stays w S F θ σ w' S') : St J w' S' F θ σ l g := by
  obtain ⟨h1, h2⟩ := h.fr hs
  refine ⟨fun b hb => (h.sok b hb).1, fun nm => BlkOk.later h1 h2 nm rfl rfl fun b m h3 h4 => h.same b (.inr (.inr ⟨nm, m, h3, h4⟩)), hs.hinj, fun b hb hS => (h.sok b hS).2.2 hb, fun b hb => ?_, ?_⟩
  · obtain ⟨k1, k2, k3⟩ := hs.hF b hb
    exact ⟨Nat.lt_of_lt_of_le k1 h.size, fun hS => (h.sok b hS).2.1 hb, k3⟩
  · exact hst.2 g w S F w' S' hs.hJ hs.hS (fun b hb => (hs.hF b hb).1) (fun b hb => h.same b (by
      rcases hb with hb | hb
      · exact .inl hb
      · exact .inr (.inl hb))) h.smono h.size h.os h.tape h.output (fun b hb => ⟨(h.sok b hb).1, (h.sok b hb).2.1⟩) h.sized
theorem Stays.set (hs : St J w S F θ σ l g) {b0 : Nat} {ob : Obj} (h1 : w'.heap.size = w.heap.size) (h2 : ∀ b, b ≠ b0 → w'.heap[b]? = w.heap[b]?) (h3 : w.heap[b0]? = some ob) (h4 : ∀ c e fr, ob ≠ .cells c e fr) (h5 : w'.os = w.os) (h6 : w'.tape = w.tape) (h7 : Out w w')
    (hS : ¬ S b0) (hF : ¬ F b0) (hL : ¬ LiveB θ σ b0) : Stays w S F θ σ w' S where
  size := by omega
  os := h5
  tape := h6
  output := h7
  same := fun b hb => h2 b fun e => by
    subst e
    rcases hb with hb | hb | hb
    · exact hS hb
    · exact hF hb
    · exact hL hb
  sized := fun b c e fr hc => by
    by_cases eb : b = b0
    · subst eb
      rw [h3] at hc
      injection hc with hc
      exact absurd hc (h4 c e fr)
    · exact ⟨c, fr, by rw [h2 b eb]; exact hc, rfl, .inl rfl⟩
  smono := fun _ h => h
  sok := fun b hb => ⟨by have := hs.hS b hb; omega, fun hf => (hs.hF b hf).2.1 hb, fun hl => hs.hliveS b hl hb⟩
end
def WJ {G : Type} (J : JT G) (lr : Nat) (ob : Obj) : JT G := fun g w S F => ∃ F2 : Nat → Prop, (∀ b, F b ↔ F2 b ∨ b = lr) ∧ J g w S F2 ∧ ¬ F2 lr ∧ w.heap[lr]? = some ob
section
variable {G : Type} {J : JT G} {w w' w'' : World} {S F S' F' S'' F'' : Nat → Prop} {θ θ' θ'' : Names} {σ σ' σ'' : Store} {l n : Nat} {g g' : G}
variable {P : Program} {o : Oper} {a : Act} {ρ : Env} {H : HT G} {s0 : Start} {lr : Nat} {ob : Obj}
theorem WJ.stable (hst : Stable J) : Stable (WJ J lr ob) := by
  refine ⟨fun g w S F ⟨F2, _, h2, _⟩ => hst.1 g w S F2 h2, ?_⟩
  rintro g w S F w' S' ⟨F2, h1, h2, h3, h4⟩ hS hF hsame hmono hsize hos htape hout hsok hsized
  refine ⟨F2, h1, hst.2 g w S F2 w' S' h2 hS (fun b hb => hF b ((h1 b).2 (.inl hb))) (fun b hb => hsame b (by
    rcases hb with hb | hb
    · exact .inl hb
    · exact .inr ((h1 b).2 (.inl hb)))) hmono hsize hos htape hout (fun b hb => ⟨(hsok b hb).1, fun hf => (hsok b hb).2 ((h1 b).2 (.inl hf))⟩) hsized, h3, ?_⟩
  rw [hsame lr (.inr ((h1 lr).2 (.inr rfl)))]
  exact h4
theorem WJ.out (hs : St (WJ J lr ob) w S F θ σ l g) : ∃ F2 : Nat → Prop, (∀ b, F b ↔ F2 b ∨ b = lr) ∧ ¬ F2 lr ∧ w.heap[lr]? = some ob ∧ St J w S F2 θ σ l g ∧ ¬ S lr ∧ ¬ LiveB θ σ lr := by
  obtain ⟨F2, h1, h2, h3, h4⟩ := hs.hJ
  have hlr := hs.hF lr ((h1 lr).2 (.inr rfl))
  exact ⟨F2, h1, h3, h4, ⟨hs.hS, hs.hblk, hs.hinj, hs.hliveS, fun b hb => hs.hF b ((h1 b).2 (.inl hb)), h2⟩, hlr.2.1, hlr.2.2⟩
theorem WJ.into (hs : St J w S F θ σ l g) (h3 : ¬ F lr) (h4 : w.heap[lr]? = some ob) (hS : ¬ S lr) (hL : ¬ LiveB θ σ lr) : St (WJ J lr ob) w S (fun b => F b ∨ b = lr) θ σ l g :=
  ⟨hs.hS, hs.hblk, hs.hinj, hs.hliveS, fun b hb => by
    rcases hb with hb | rfl
    · exact hs.hF b hb
    · exact ⟨(Array.getElem?_eq_some_iff.1 h4).1, hS, hL⟩, F, fun b => Iff.rfl, hs.hJ, h3, h4⟩
theorem WJ.hok (hH : HokS P J H l) : HokS P (WJ J lr ob) H l := by
  intro args xs g w S F K hs ha hh
  obtain ⟨F2, h1, h2, h3, h4, h5, h6⟩ := WJ.out hs
  obtain ⟨lf, tmps, asg, body, hy, hr⟩ := hH args xs g w S F2 K h4 ha hh
  refine ⟨lf, tmps, asg, body, hy, hr.mono fun e w' he => ?_⟩
  obtain ⟨r, x', g', S', F', e1, hk, hrep, hs', hfr⟩ := he
  have hlt := (Array.getElem?_eq_some_iff.1 h3).1
  have hn : ¬ F' lr := fun hf => h2 (hfr.fsub lr hf hlt)
  have hS' : ¬ S' lr := fun hS => by
    rcases hfr.snew lr hS with k | ⟨nm, m, k, _⟩ | k | k
    · exact h5 k
    · exact k
    · exact h2 k
    · omega
  have hL' : ¬ LiveB θ0 σ0 lr := fun ⟨nm, m, k, _⟩ => k
  have hc : w'.heap[lr]? = some ob := by rw [hfr.same lr hlt hL' h2]; exact h3
  refine ⟨r, x', g', S', fun b => F' b ∨ b = lr, e1, hk, hrep, WJ.into hs' hn hc hS' hL', ?_⟩
  exact {
    size := hfr.size
    os := hfr.os
    tape := hfr.tape
    output := hfr.output
    same := fun b hb hl hF => hfr.same b hb hl (fun h => hF ((h1 b).2 (.inl h)))
    sized := hfr.sized
    vecs := hfr.vecs
    smono := hfr.smono
    snew := fun b hb => by
      rcases hfr.snew b hb with k | k | k | k
      · exact .inl k
      · exact .inr (.inl k)
      · exact .inr (.inr (.inl ((h1 b).2 (.inl k))))
      · exact .inr (.inr (.inr k))
    live := hfr.live
    fsub := fun b hb hlt => by
      rcases hb with hb | rfl
      · exact (h1 b).2 (.inl (hfr.fsub b hb hlt))
      · exact (h1 b).2 (.inr rfl)
    kdead := hfr.kdead
    kbox := hfr.kbox
    karr := hfr.karr
    kvec := hfr.kvec }
theorem WJ.put (hst : Stable J) (hnc : ∀ c e fr, ob ≠ .cells c e fr) (ob' : Obj) (h : Cur (WJ J lr ob) l n s0 w S F θ σ g ρ a) (hlrF : s0.F lr ∨ s0.w.heap.size ≤ lr) : Cur (WJ J lr ob') l n s0 (w.putObj lr ob') S F θ σ g ρ a := by
  obtain ⟨F2, h1, h2, h3, h4, h5, h6⟩ := WJ.out h.st
  have hlt := (Array.getElem?_eq_some_iff.1 h3).1
  have hsz : (w.putObj lr ob').heap.size = w.heap.size := by simp [World.putObj]
  have hstay : Stays w S F2 θ σ (w.putObj lr ob') S := Stays.set h4 hsz (fun b hb => World.putObj_heap_other hb) h3 hnc rfl rfl (Out.refl _) h5 h2 h6
  have hs' := hstay.st hst h4
  have hs2 := WJ.into (ob := ob') hs' h2 (World.putObj_heap_same hlt) h5 h6
  have hF : F = fun b => F2 b ∨ b = lr := funext fun b => propext (h1 b)
  have hlrF' : F lr := (h1 lr).2 (.inr rfl)
  refine ⟨by rw [hF]; exact hs2, fun t => hstay.rep h4 (h.env t), h.sz, ?_, ?_, h.dn⟩
  · have k := h.fr
    exact {
      size := by rw [hsz]; exact k.size
      os := k.os
      tape := k.tape
      output := k.output
      same := fun b hb hl hFb => by
        rw [World.putObj_heap_other (fun e => by
          subst e
          rcases hlrF with h | h
          · exact hFb h
          · omega)]
        exact k.same b hb hl hFb
      sized := fun b c e fr hc => by
        obtain ⟨c', f1, h7, h8, h7'⟩ := k.sized b c e fr hc
        obtain ⟨c'', f2, h9, h10, h9'⟩ := hstay.sized b c' e f1 h7
        refine ⟨c'', f2, h9, h10.trans h8, ?_⟩
        rcases h9' with rfl | h9'
        · exact h7'
        · exact .inr ⟨h9', fun hl => h.st.hliveS b hl h9'⟩
      vecs := fun nm q b m h7 h8 j hj => by
        have h9 := k.vecs nm q b m h7 h8 j hj
        rw [← h9]
        refine cell_of_heap (World.putObj_heap_other fun e => ?_)
        subst e
        rcases k.kvec nm q h7 with ⟨_, hd⟩ | ⟨q', h10, _, _, h11⟩
        · exact h5 (hd b m h8)
        · rcases h11 b m h8 with h12 | h12
          · exact h6 ⟨nm, m, live_vec h10, h12⟩
          · exact h5 h12
      smono := k.smono
      snew := k.snew
      live := k.live
      fsub := k.fsub
      kdead := k.kdead
      kbox := k.kbox
      karr := k.karr
      kvec := k.kvec }
  · have key : ∀ ds : List Deferred, DefOk w S F θ σ ds → DefOk (w.putObj lr ob') S F θ σ ds := by
      intro ds
      induction ds with
      | nil => intro _; trivial
      | cons d ds ih =>
        rintro ⟨⟨r, k1, k2, k3, k4, k5, k6⟩, k7⟩
        exact ⟨⟨r, k1, by rw [World.putObj_heap_other (fun e => k4 (by rw [e]; exact hlrF'))]; exact k2, k3, k4, k5, k6⟩, ih k7⟩
    exact key _ h.de
end
def Sound {G : Type} (P : Program) (H : HT G) (n : Nat) (r : Bool) (c : Cmd) (code : Code) : Prop :=
  ∀ (J : JT G) (l : Nat), Stable J → MonoH H → HokS P J H l → ∀ (ro : Option Nat), (r = false → ro = none) → ∀ (pn : List Nat) (ρ : Env) (σ : Store) (g : G) (Q : Exit → Env → Store → G → Prop) (s0 : Start) (w : World) (S F : Nat → Prop) (θ : Names) (a : Act),
    (∀ nm, s0.σ nm ≠ .unused → nm ∈ pn) → Cur J l n s0 w S F θ σ g ρ a → AW P H pn c ρ σ g Q → code.wpIn (wf ro) 0 P (PostA J l n s0 Q) a w
structure RP where
  l : Nat
  r : Nat
  fn : FuncId
  tmps : Array Value
  qs : Array Tmp
  asg : Code
  body : Code
  E : List (Nat × V)
  wo : List Nat
  wB : World
  SB : Nat → Prop
  FB : Nat → Prop
  θB : Names
  σB : Store
def RP.rc (R : RP) (s : LoopState) (p : Option Code) : Loop := { state := s, pending := p, fn := R.fn, tmps := R.tmps, params := R.qs, assign := R.asg, body := R.body, defers := R.r }
def pend : Option Exit → Option Code
  | some .ret => some .ret
  | some (.exit id) => some (.exit id)
  | _ => none
def lst (e : Option Exit) : LoopState := if e.isNone then .ready else .done
structure RJc {G : Type} (J : JT G) (l : Nat) (R : RP) (st : Store × G × Option Exit) (w : World) (S F : Nat → Prop) (θ2 : Names) (F2 : Nat → Prop) : Prop where
  st2 : St J w S F2 θ2 st.1 l st.2.1
  hFe : ∀ b, F b ↔ F2 b ∨ LiveB θ2 st.1 b ∨ b = R.l ∨ b = R.r
  hl : ¬ S R.l ∧ ¬ F2 R.l ∧ ¬ LiveB θ2 st.1 R.l
  hr : ¬ S R.r ∧ ¬ F2 R.r ∧ ¬ LiveB θ2 st.1 R.r
  hlo : w.heap[R.l]? = some (.loop (R.rc (lst st.2.2) (pend st.2.2)))
  hde : w.heap[R.r]? = some (.deferred (some []))
  env : ∀ t, Rep w S θ2 st.1 l (envOf R.E t) (R.tmps.getD t undef)
  frn : FrN R.wB R.SB R.θB R.σB w S θ2 st.1
  fsub : ∀ b, F2 b → b < R.wB.heap.size → R.FB b
  hwo : ∀ nm, nm ∉ R.wo → st.1 nm = .unused
  ex : ∀ e, st.2.2 = some e → e = .ret ∨ ∃ id, e = .exit id
def RJ {G : Type} (J : JT G) (l : Nat) (R : RP) : JT (Store × G × Option Exit) := fun st w S F => ∃ θ2 F2, RJc J l R st w S F θ2 F2
def RH {G : Type} (P : Program) (H : HT G) (wo : List Nat) (ca cb : Cmd) (ps : List Nat) (E : List (Nat × V)) : HT (Store × G × Option Exit) :=
  fun args st K => Nat.beq args.length ps.length = true ∧ st.2.2 = none ∧ AW P H wo ca (bindAll ps args (envOf E)) st.1 st.2.1 fun e ρ1 σ1 g1 => match e with
    | .normal => AW P H wo cb ρ1 σ1 g1 fun e _ σ2 g2 => closedSt wo σ2 wo = true ∧ (match e with
      | .normal => K (.bool true) (restr wo σ2, g2, none)
      | e => K (.bool false) (restr wo σ2, g2, some e))
    | _ => False
section
variable {G : Type} {J : JT G} {w w' w'' : World} {S F S' F' S'' F'' : Nat → Prop} {θ θ' θ'' : Names} {σ σ' σ'' : Store} {l n : Nat} {g g' : G}
variable {P : Program} {o : Oper} {a : Act} {ρ : Env} {H : HT G} {s0 : Start} {R : RP}
theorem RJ.stable (hst : Stable J) : Stable (RJ J l R) := by
  refine ⟨fun st w S F ⟨θ2, F2, h⟩ => hst.1 _ _ _ _ h.st2.hJ, ?_⟩
  rintro st w S F w' S' ⟨θ2, F2, h⟩ hS hF hsame hmono hsize hos htape hout hsok hsized
  have hstay : Stays w S F2 θ2 st.1 w' S' := {
    size := hsize
    os := hos
    tape := htape
    output := hout
    same := fun b hb => hsame b (by
      rcases hb with hb | hb | hb
      · exact .inl hb
      · exact .inr ((h.hFe b).2 (.inl hb))
      · exact .inr ((h.hFe b).2 (.inr (.inl hb))))
    sized := hsized
    smono := hmono
    sok := fun b hb => ⟨(hsok b hb).1, fun hf => (hsok b hb).2 ((h.hFe b).2 (.inl hf)), fun hl => (hsok b hb).2 ((h.hFe b).2 (.inr (.inl hl)))⟩ }
  refine ⟨θ2, F2, {
    st2 := hstay.st hst h.st2
    hFe := h.hFe
    hl := ⟨fun hb => (hsok _ hb).2 ((h.hFe _).2 (.inr (.inr (.inl rfl)))), h.hl.2⟩
    hr := ⟨fun hb => (hsok _ hb).2 ((h.hFe _).2 (.inr (.inr (.inr rfl)))), h.hr.2⟩
    hlo := by rw [hsame _ (.inr ((h.hFe _).2 (.inr (.inr (.inl rfl)))))]; exact h.hlo
    hde := by rw [hsame _ (.inr ((h.hFe _).2 (.inr (.inr (.inr rfl)))))]; exact h.hde
    env := fun t => hstay.rep h.st2 (h.env t)
    frn := h.frn.trans (fun b hb => hsame b (.inl hb)) (hstay.frN h.st2)
    fsub := h.fsub
    hwo := h.hwo
    ex := h.ex }⟩
theorem bind_env : ∀ (ps : List Nat) (vs : List V) (xs : List Value) (ρ : Env) (tmps : Array Value), (∀ t, Rep w S θ σ l (ρ t) (tmps.getD t undef)) → vs.length = ps.length → Reps (RepP w S) vs xs → (∀ p ∈ ps, p < n) → n ≤ tmps.size →
    (∀ t, Rep w S θ σ l (bindAll ps vs ρ t) (((ps.zip xs).foldl (fun (tmps : Array Value) (p : Nat × Value) => tmps.setIfInBounds p.1 p.2) tmps).getD t undef)) ∧
      ((ps.zip xs).foldl (fun (tmps : Array Value) (p : Nat × Value) => tmps.setIfInBounds p.1 p.2) tmps).size = tmps.size
  | [], vs, xs, ρ, tmps, he, hl, hr, hp, hn => by
    have : vs = [] := List.eq_nil_of_length_eq_zero hl
    subst this
    exact ⟨he, rfl⟩
  | p :: ps, [], xs, ρ, tmps, he, hl, hr, hp, hn => by simp at hl
  | p :: ps, v :: vs, [], ρ, tmps, he, hl, hr, hp, hn => by have := hr.1; simp at this
  | p :: ps, v :: vs, x :: xs, ρ, tmps, he, hl, hr, hp, hn => by
    have hx : RepP w S v x := hr.2 0 v x rfl rfl
    have hput := EnvRep.put (n := n) (a := ⟨tmps, []⟩) (dst := some p) (d := some p) (x := x) he (by
      have := hp p (by simp)
      simp [chkDst, Nat.blt_eq, this]) hn (.pure hx)
    obtain ⟨h1, h2⟩ := bind_env ps vs xs (upd ρ p v) (tmps.setIfInBounds p x) hput (by simpa using hl) ⟨by have := hr.1; simpa using this, fun i v x h1 h2 => hr.2 (i + 1) v x (by simpa using h1) (by simpa using h2)⟩ (fun q hq => hp q (by simp [hq])) (by simpa using hn)
    exact ⟨h1, by rw [show ((p :: ps).zip (x :: xs)) = (p, x) :: ps.zip xs from rfl, List.foldl_cons, h2]; simp⟩
theorem envOf_closed {pn : List Nat} {E : List (Nat × V)} (h : closedE pn E = true) (t : Nat) : closedB pn (envOf E t) = true := by
  induction E with
  | nil => rfl
  | cons p r ih =>
    obtain ⟨d, v⟩ := p
    simp only [closedE, Bool.and_eq_true] at h
    simp only [envOf]
    cases Nat.beq t d with
    | true => exact h.1
    | false => exact ih h.2
end
section
variable {G : Type} {J : JT G} {w w' w'' : World} {S F S' F' S'' F'' : Nat → Prop} {θ θ' θ'' : Names} {σ σ' σ'' : Store} {l n : Nat} {g g' : G}
variable {P : Program} {o : Oper} {a : Act} {ρ : Env} {H : HT G} {s0 : Start} {R : RP}
theorem round_end {st : Store × G × Option Exit} {θ2 : Names} {F2 : Nat → Prop} {w3 : World} {S3 F3 : Nat → Prop} {θ3 : Names} {σ3 : Store} {g3 : G} {ρ3 : Env} {a3 : Act} {ob : Obj} (e' : Option Exit) (hst : Stable J)
    (h : RJc J l R st w S F θ2 F2) (hncOb : ∀ c e fr, ob ≠ .cells c e fr) (hne : R.l ≠ R.r) (hB : ∀ nm, R.σB nm ≠ .unused → nm ∈ R.wo) (hE : closedE R.wo R.E = true)
    (hSt : St (WJ J R.l (.loop (R.rc .ready none))) w S (fun b => F2 b ∨ b = R.l) θ2 st.1 l st.2.1)
    (hc : Cur (WJ J R.l ob) l n ⟨w, S, fun b => F2 b ∨ b = R.l, θ2, st.1⟩ w3 S3 F3 θ3 σ3 g3 ρ3 a3) (hcl : closedSt R.wo σ3 R.wo = true) (hex : ∀ e, e' = some e → e = .ret ∨ ∃ id, e = .exit id) :
    ∃ F4, RJ J l R (restr R.wo σ3, g3, e') (w3.putObj R.l (.loop (R.rc (lst e') (pend e')))) S3 F4 ∧
      St (RJ J l R) (w3.putObj R.l (.loop (R.rc (lst e') (pend e')))) S3 F4 θ0 σ0 R.l (restr R.wo σ3, g3, e') ∧
      Fr w S F θ0 σ0 (w3.putObj R.l (.loop (R.rc (lst e') (pend e')))) S3 F4 θ0 σ0 := by
  have k := hc.fr
  obtain ⟨F2', q1, q2, q3, q4, q5, q6⟩ := WJ.out hc.st
  have hlt := (Array.getElem?_eq_some_iff.1 q3).1
  obtain ⟨w4, hw4⟩ : ∃ w4, w4 = w3.putObj R.l (.loop (R.rc (lst e') (pend e'))) := ⟨_, rfl⟩
  rw [← hw4]
  have hsz : w4.heap.size = w3.heap.size := by rw [hw4]; simp
  have hother : ∀ b, b ≠ R.l → w4.heap[b]? = w3.heap[b]? := fun b hb => by rw [hw4]; exact World.putObj_heap_other hb
  have hthere : w4.heap[R.l]? = some (.loop (R.rc (lst e') (pend e'))) := by rw [hw4]; exact World.putObj_heap_same hlt
  have hrlt := (Array.getElem?_eq_some_iff.1 h.hde).1
  have hllt := (Array.getElem?_eq_some_iff.1 h.hlo).1
  have hclm := (closedSt_iff _ _ _).1 hcl
  have hs3 : St J w3 S3 F2' (restrN R.wo θ3) (restr R.wo σ3) l g3 := q4.restr (fun nm hm => restr_in hm) (fun nm hm => restr_out hm) (fun nm hm row hrow => hclm nm hm row hrow)
  have hL3 : ∀ b, LiveB (restrN R.wo θ3) (restr R.wo σ3) b → LiveB θ3 σ3 b := fun b hb => restr_live (fun nm hm => restr_in hm) (fun nm hm => restr_out hm) hb
  have hstay : Stays w3 S3 F2' (restrN R.wo θ3) (restr R.wo σ3) w4 S3 := Stays.set hs3 hsz hother q3 hncOb (by rw [hw4]; rfl) (by rw [hw4]; rfl) (by rw [hw4]; exact Out.refl _) q5 q2 (fun hl => q6 (hL3 _ hl))
  have hs4 := hstay.st hst hs3
  have hrF : ¬ F3 R.r := fun hf => by
    rcases k.fsub R.r hf hrlt with h1 | h1
    · exact h.hr.2.1 h1
    · exact hne h1.symm
  have hrS : ¬ S3 R.r := fun hS => by
    rcases k.snew R.r hS with h1 | h1 | h1 | h1
    · exact h.hr.1 h1
    · exact h.hr.2.2 h1
    · rcases h1 with h1 | h1
      · exact h.hr.2.1 h1
      · exact hne h1.symm
    · simp only at h1; omega
  have hrL : ¬ LiveB θ3 σ3 R.r := fun hl => h.hr.2.2 (k.live R.r hl hrlt)
  have hrc : w4.heap[R.r]? = some (.deferred (some [])) := by
    rw [hother R.r (fun e => hne e.symm), k.same R.r hrlt h.hr.2.2 (fun hf => by
      rcases hf with h1 | h1
      · exact h.hr.2.1 h1
      · exact hne h1.symm)]
    exact h.hde
  have hfsub : ∀ b, F2' b → b < w.heap.size → F2 b := fun b hb hlt => by
    rcases k.fsub b ((q1 b).2 (.inl hb)) hlt with h1 | h1
    · exact h1
    · rw [h1] at hb; exact absurd hb q2
  obtain ⟨F4, hF4⟩ : ∃ F4 : Nat → Prop, F4 = fun b => F2' b ∨ LiveB (restrN R.wo θ3) (restr R.wo σ3) b ∨ b = R.l ∨ b = R.r := ⟨_, rfl⟩
  have hRJ : RJ J l R (restr R.wo σ3, g3, e') w4 S3 F4 := ⟨restrN R.wo θ3, F2', {
    st2 := hs4
    hFe := fun b => by rw [hF4]
    hl := ⟨q5, q2, fun hl => q6 (hL3 _ hl)⟩
    hr := ⟨hrS, fun hf => hrF ((q1 _).2 (.inl hf)), fun hl => hrL (hL3 _ hl)⟩
    hlo := hthere
    hde := hrc
    env := fun t => hstay.rep hs3 (((h.env t).fr k hSt).restr (fun nm hm => restr_in hm) (envOf_closed hE t))
    frn := ((h.frn.trans (fun b hb => k.stable hSt b hb) k.toN).drop hB (fun nm hm => restr_in hm) (fun nm hm => restr_out hm)).trans (fun b hb => hstay.same b (.inl hb)) (hstay.frN hs3)
    fsub := fun b hb hlt => h.fsub b (hfsub b hb (Nat.lt_of_lt_of_le hlt h.frn.size)) hlt
    hwo := fun nm hm => (restr_out (θ := θ3) hm).1
    ex := hex }⟩
  refine ⟨F4, hRJ, ⟨hs4.hS, fun nm => rfl, fun nm _ _ _ _ h1 => h1.elim, fun b hb => by obtain ⟨nm, m, h1, _⟩ := hb; exact h1.elim, fun b hb => ?_, hRJ⟩, ?_⟩
  · rw [hF4] at hb
    have hno : ¬ LiveB θ0 σ0 b := fun ⟨nm, m, h1, _⟩ => h1
    rcases hb with hb | hb | rfl | rfl
    · obtain ⟨a1, a2, _⟩ := hs4.hF b hb; exact ⟨a1, a2, hno⟩
    · obtain ⟨nm, m, b1, b2⟩ := hb
      exact ⟨live_lt hs4 b1 b2, hs4.hliveS b ⟨nm, m, b1, b2⟩, hno⟩
    · exact ⟨by omega, q5, hno⟩
    · exact ⟨(Array.getElem?_eq_some_iff.1 hrc).1, hrS, hno⟩
  · exact {
      size := by rw [hsz]; exact k.size
      os := by rw [hw4]; exact k.os
      tape := by rw [hw4]; exact k.tape
      output := by rw [hw4]; exact k.output
      same := fun b hb _ hF => by
        rw [hother b (fun e => hF ((h.hFe b).2 (.inr (.inr (.inl e)))))]
        exact k.same b hb (fun hl => hF ((h.hFe b).2 (.inr (.inl hl)))) (fun hf => by
          rcases hf with hf | hf
          · exact hF ((h.hFe b).2 (.inl hf))
          · exact hF ((h.hFe b).2 (.inr (.inr (.inl hf)))))
      sized := fun b c e fr hcc => by
        obtain ⟨c', f1, h1, h2, h1'⟩ := k.sized b c e fr hcc
        obtain ⟨c'', f2, h3, h4, h3'⟩ := hstay.sized b c' e f1 h1
        refine ⟨c'', f2, h3, h4.trans h2, ?_⟩
        rcases h3' with rfl | h3'
        · exact h1'.imp id fun h5 => ⟨h5.1, fun ⟨nm, m, h6, _⟩ => h6⟩
        · exact .inr ⟨h3', fun ⟨nm, m, h6, _⟩ => h6⟩
      vecs := fun nm q b m h1 => by cases h1
      smono := k.smono
      snew := fun b hb => by
        rcases k.snew b hb with h1 | h1 | h1 | h1
        · exact .inl h1
        · exact .inr (.inr (.inl ((h.hFe b).2 (.inr (.inl h1)))))
        · refine .inr (.inr (.inl ((h.hFe b).2 ?_)))
          rcases h1 with h1 | h1
          · exact .inl h1
          · exact .inr (.inr (.inl h1))
        · exact .inr (.inr (.inr h1))
      live := fun b hb _ => hb
      fsub := fun b hb hlt => by
        rw [hF4] at hb
        rcases hb with hb | hb | rfl | rfl
        · exact (h.hFe b).2 (.inl (hfsub b hb hlt))
        · exact (h.hFe b).2 (.inr (.inl (k.live b (hL3 b hb) hlt)))
        · exact (h.hFe _).2 (.inr (.inr (.inl rfl)))
        · exact (h.hFe _).2 (.inr (.inr (.inr rfl)))
      kdead := fun nm h1 => by cases h1
      kbox := fun nm row h1 => by cases h1
      karr := fun nm gen rows h1 => by cases h1
      kvec := fun nm k h1 => by cases h1 }
theorem round_hok {ca cb : Cmd} {ps : List Nat} (hst : Stable J) (hM : MonoH H) (hH : HokS P J H l) (ha : Sound P H n true ca R.asg) (hb : Sound P H n true cb R.body)
    (hps : ps = R.qs.toList) (hpn : ∀ p ∈ ps, p < n) (hn : n ≤ R.tmps.size) (hne : R.l ≠ R.r) (hB : ∀ nm, R.σB nm ≠ .unused → nm ∈ R.wo) (hE : closedE R.wo R.E = true) :
    HokS P (RJ J l R) (RH P H R.wo ca cb ps R.E) R.l := by
  rintro args xs st w S F K hs0 hargs ⟨hlen, hnone, hAW⟩
  obtain ⟨θ2, F2, h⟩ := hs0.hJ
  have hlo := h.hlo
  rw [hnone] at hlo
  have elen := Nat.eq_of_beq_eq_true hlen
  have hxl : xs.length = ps.length := by rw [← hargs.1]; exact elen
  have hy := run_yield (P := P) (args := xs.toArray) hlo (by simp only [RP.rc, List.size_toArray]; rw [hxl, hps]; simp)
  have hst2 : St J w S F2 θ2 st.1 l st.2.1 := h.st2
  have hWs : St (WJ J R.l (.loop (R.rc .ready none))) w S (fun b => F2 b ∨ b = R.l) θ2 st.1 l st.2.1 := WJ.into hst2 h.hl.2.1 hlo h.hl.1 h.hl.2.2
  obtain ⟨be1, be2⟩ := bind_env ps args xs (envOf R.E) R.tmps h.env elen hargs hpn hn
  have etm : (R.qs.zip xs.toArray).foldl (fun (tmps : Array Value) (p : Tmp × Value) => tmps.setIfInBounds p.1 p.2) R.tmps = (ps.zip xs).foldl (fun (tmps : Array Value) (p : Nat × Value) => tmps.setIfInBounds p.1 p.2) R.tmps := by
    rw [hps, ← Array.foldl_toList]
    simp
  refine ⟨_, _, _, _, hy, roundIn_of_wpIn trivial ?_⟩
  have hcur : Cur (WJ J R.l (.loop (R.rc .ready none))) l n ⟨w, S, fun b => F2 b ∨ b = R.l, θ2, st.1⟩ w S (fun b => F2 b ∨ b = R.l) θ2 st.1 st.2.1 (bindAll ps args (envOf R.E))
      ⟨(R.qs.zip xs.toArray).foldl (fun (tmps : Array Value) (p : Tmp × Value) => tmps.setIfInBounds p.1 p.2) R.tmps, []⟩ :=
    ⟨hWs, by rw [etm]; exact be1, by rw [etm, be2]; exact hn, Fr.refl _ _ _ _ _, trivial, fun d hd => by cases hd⟩
  have hpn0 : ∀ nm, st.1 nm ≠ .unused → nm ∈ R.wo := fun nm hnm => by
    by_cases hm : nm ∈ R.wo
    · exact hm
    · exact absurd (h.hwo nm hm) hnm
  have h1 := ha (WJ J R.l (.loop (R.rc .ready none))) l (WJ.stable hst) hM (WJ.hok hH) (some R.l) (fun h => by cases h) R.wo _ _ _ _ ⟨w, S, fun b => F2 b ∨ b = R.l, θ2, st.1⟩ w S _ θ2 _ hpn0 hcur hAW
  refine wpIn_mono h1 fun e a1 w1 hp => ?_
  obtain ⟨hex, ρ1, σ1, g1, S1, F1, θ1, hQ, hc1⟩ := hp
  cases e with
  | normal =>
    simp only at hQ
    obtain ⟨F1', q1, q2, q3, q4, q5, q6⟩ := WJ.out hc1.st
    have hc2 := WJ.put hst (by intro c e fr h; cases h) (.loop (R.rc .busy none)) hc1 (.inl (.inr rfl))
    refine ⟨_, run_beginRound q3 rfl, ?_⟩
    have h2 := hb (WJ J R.l (.loop (R.rc .busy none))) l (WJ.stable hst) hM (WJ.hok hH) (some R.l) (fun h => by cases h) R.wo _ _ _ _ ⟨w, S, fun b => F2 b ∨ b = R.l, θ2, st.1⟩ _ S1 _ θ1 _ hpn0 hc2 hQ
    refine wpIn_mono h2 fun e a3 w3 hp => ?_
    obtain ⟨hex, ρ3, σ3, g3, S3, F3, θ3, ⟨hcl, hQ3⟩, hc3⟩ := hp
    obtain ⟨F3', r1, r2, r3, _⟩ := WJ.out hc3.st
    cases e with
    | normal =>
      obtain ⟨F4, k1, k2, k3⟩ := round_end none hst h (by intro c e fr h; cases h) hne hB hE hWs hc3 hcl (fun e h => by cases h)
      exact ⟨_, _, run_endRound none r3, _, _, _, _, _, rfl, hQ3, .bool true, k2, k3⟩
    | ret =>
      obtain ⟨F4, k1, k2, k3⟩ := round_end (some .ret) hst h (by intro c e fr h; cases h) hne hB hE hWs hc3 hcl (fun e h => by injection h with h; exact .inl h.symm)
      exact ⟨_, _, run_endRound (some .ret) r3, _, _, _, _, _, rfl, hQ3, .bool false, k2, k3⟩
    | exit id =>
      obtain ⟨F4, k1, k2, k3⟩ := round_end (some (.exit id)) hst h (by intro c e fr h; cases h) hne hB hE hWs hc3 hcl (fun e h => by injection h with h; exact .inr ⟨id, h.symm⟩)
      exact ⟨_, _, run_endRound (some (.exit id)) r3, _, _, _, _, _, rfl, hQ3, .bool false, k2, k3⟩
    | goto _ => rcases hex with h | h | ⟨_, h⟩ <;> cases h
    | panic _ => rcases hex with h | h | ⟨_, h⟩ <;> cases h
    | outgrown => rcases hex with h | h | ⟨_, h⟩ <;> cases h
  | exit id => exact hQ
  | ret => exact hQ
  | goto _ => exact hQ
  | panic _ => exact hQ
  | outgrown => exact hQ
end
section
variable {G : Type} {J : JT G} {w w' w'' : World} {S F S' F' S'' F'' : Nat → Prop} {θ θ' θ'' : Names} {σ σ' σ'' : Store} {l n : Nat} {g g' : G}
variable {P : Program} {o : Oper} {a : Act} {ρ : Env} {H : HT G} {s0 : Start}
theorem RH_mono {wo : List Nat} {ca cb : Cmd} {ps : List Nat} {E : List (Nat × V)}
    (ha : ∀ (pn : List Nat) (ρ : Env) (σ : Store) (g : G) (Q Q' : Exit → Env → Store → G → Prop), (∀ e ρ' σ' g', Q e ρ' σ' g' → Q' e ρ' σ' g') → AW P H pn ca ρ σ g Q → AW P H pn ca ρ σ g Q')
    (hb : ∀ (pn : List Nat) (ρ : Env) (σ : Store) (g : G) (Q Q' : Exit → Env → Store → G → Prop), (∀ e ρ' σ' g', Q e ρ' σ' g' → Q' e ρ' σ' g') → AW P H pn cb ρ σ g Q → AW P H pn cb ρ σ g Q') : MonoH (RH P H wo ca cb ps E) := by
  rintro args st K K' hk ⟨h1, h2, h3⟩
  refine ⟨h1, h2, ha _ _ _ _ _ _ (fun e ρ1 σ1 g1 h => ?_) h3⟩
  cases e <;> try exact h
  refine hb _ _ _ _ _ _ (fun e ρ2 σ2 g2 h => ?_) h
  obtain ⟨h4, h5⟩ := h
  refine ⟨h4, ?_⟩
  cases e <;> exact hk _ _ h5
theorem AWT_mono (hM : MonoH H) {items : List GItem} : ∀ (t : OT) {K K' : Env → Store → G → Prop}, (∀ ρ' σ' g', K ρ' σ' g' → K' ρ' σ' g') → AWT P H items t ρ σ g K → AWT P H items t ρ σ g K'
  | .leaf _, _, _, hk, h => AWits_mono hM hk h
  | .node _ _ x y, _, _, hk, h => ⟨AWT_mono hM x hk h.1, AWT_mono hM y hk h.2⟩
theorem AW_mono (hM : MonoH H) : ∀ (c : Cmd) (pn : List Nat) (ρ : Env) (σ : Store) (g : G) (Q Q' : Exit → Env → Store → G → Prop), (∀ e ρ' σ' g', Q e ρ' σ' g' → Q' e ρ' σ' g') → AW P H pn c ρ σ g Q → AW P H pn c ρ σ g Q'
  | .skip, _, _, _, _, _, _, hq, h => hq _ _ _ _ h
  | .ops l, _, _, _, _, _, _, hq, h => AWits_mono hM (fun _ _ _ h => hq _ _ _ _ h) h
  | .opsT t l, _, _, _, _, _, _, hq, h => AWT_mono hM t (fun _ _ _ h => hq _ _ _ _ h) h
  | .frz t, _, _, _, _, _, _, hq, h => AWit_mono hM (fun _ _ _ h => hq _ _ _ _ h) h
  | .seq a b, pn, ρ, σ, g, Q, Q', hq, h => by
    simp only [AW] at h ⊢
    refine AW_mono hM a pn ρ σ g _ _ (fun e ρ' σ' g' h => ?_) h
    cases e with
    | normal => exact AW_mono hM b pn _ _ _ _ _ hq h
    | _ => exact hq _ _ _ _ h
  | .cond x a b, pn, ρ, σ, g, Q, Q', hq, h => by
    simp only [AW] at h ⊢
    split at h
    · rename_i t ht
      cases t
      · exact AW_mono hM b pn ρ σ g _ _ hq h
      · exact AW_mono hM a pn ρ σ g _ _ hq h
    · exact h.elim
  | .block id a, pn, ρ, σ, g, Q, Q', hq, h => by
    simp only [AW] at h ⊢
    refine AW_mono hM a pn ρ σ g _ _ (fun e ρ' σ' g' h => ?_) h
    cases e with
    | exit id' =>
      simp only at h ⊢
      cases hb : Nat.beq id' id with
      | true => rw [hb] at h; exact hq _ _ _ _ h
      | false => rw [hb] at h; exact hq _ _ _ _ h
    | _ => exact hq _ _ _ _ h
  | .loop a, pn, ρ, σ, g, Q, Q', hq, h => by
    simp only [AW] at h ⊢
    obtain ⟨ι, E, Sg, gi, inv, μ, h1, h2⟩ := h
    refine ⟨ι, E, Sg, gi, inv, μ, h1, fun i hi => AW_mono hM a pn _ _ _ _ _ (fun e ρ' σ' g' h => ?_) (h2 i hi)⟩
    cases e with
    | normal => exact h
    | _ => exact hq _ _ _ _ h
  | .exit id, _, _, _, _, _, _, hq, h => hq _ _ _ _ h
  | .fzb t j a, pn, ρ, σ, g, Q, Q', hq, h => by
    simp only [AW] at h ⊢
    split at h
    · split at h
      · split at h
        · split at h
          · exact AW_mono hM a pn _ _ _ _ _ hq h
          · exact h.elim
        · exact h.elim
      · exact h.elim
    · exact h.elim
  | .nvb t j nm a, pn, ρ, σ, g, Q, Q', hq, h => by
    simp only [AW] at h ⊢
    split at h
    · split at h
      · split at h
        · exact AW_mono hM a pn _ _ _ _ _ hq h
        · exact h.elim
      · exact h.elim
    · exact h.elim
  | .nvs t nm a, pn, ρ, σ, g, Q, Q', hq, h => by
    simp only [AW] at h ⊢
    split at h
    · split at h
      · exact AW_mono hM a pn _ _ _ _ _ hq h
      · exact h.elim
    · exact h.elim
  | .tagb t a, pn, ρ, σ, g, Q, Q', hq, h => by
    simp only [AW] at h ⊢
    split at h
    · split at h
      · exact fun b => AW_mono hM a pn _ _ _ _ _ hq (h b)
      · split at h
        · exact fun b => AW_mono hM a pn _ _ _ _ _ hq (h b)
        · exact h.elim
      · exact h.elim
    · exact h.elim
  | .nvt t nm arr a, pn, ρ, σ, g, Q, Q', hq, h => by
    simp only [AW] at h ⊢
    split at h
    · exact AW_mono hM a pn _ _ _ _ _ hq h
    · exact h.elim
  | .cut a, pn, ρ, σ, g, Q, Q', hq, h => by
    simp only [AW] at h ⊢
    rcases h with h | ⟨E, Sg, h1, h2⟩
    · exact .inl (AW_mono hM a pn _ _ _ _ _ hq h)
    · exact .inr ⟨E, Sg, h1, AW_mono hM a pn _ _ _ _ _ hq h2⟩
  | .frzr a, pn, ρ, σ, g, Q, Q', hq, h => by
    simp only [AW] at h ⊢
    obtain ⟨nm, nm2, b, b2, n, c, j, ll, l2, h1, h2, h3, h4, h5, h6, h⟩ := h
    exact ⟨nm, nm2, b, b2, n, c, j, ll, l2, h1, h2, h3, h4, h5, h6, AW_mono hM a pn _ _ _ _ _ hq h⟩
  | .ret, _, _, _, _, _, _, hq, h => hq _ _ _ _ h
  | .rangeF pf f ps a b, pn, ρ, σ, g, Q, Q', hq, h => by
    simp only [AW] at h ⊢
    split at h
    · obtain ⟨E, Sg, h1, h2, h3⟩ := h
      refine ⟨E, Sg, h1, h2, CT_mono (fun v σ' g' h => ?_) h3⟩
      obtain ⟨q1, q2, q3⟩ := g'
      obtain ⟨h0, h⟩ := h
      refine ⟨h0, ?_⟩
      cases q3 with
      | none => exact hq _ _ _ _ h
      | some e => exact hq _ _ _ _ h
    · exact h.elim
theorem noRndL_iff (l : List V) : noRndL l = true ↔ ∀ v ∈ l, noRndB v = true := by
  induction l with
  | nil => simp [noRndL]
  | cons a r ih => simp [noRndL, ih]
theorem noRndSt_iff (σ : Store) (l : List Nat) : noRndSt σ l = true ↔ ∀ nm ∈ l, ∀ row, σ nm = .box row → noRndB row = true := by
  induction l with
  | nil => simp [noRndSt]
  | cons a r ih =>
    simp only [noRndSt, Bool.and_eq_true, ih, List.mem_cons, forall_eq_or_imp]
    constructor
    · rintro ⟨h1, h2⟩
      exact ⟨fun row hrow => by rw [hrow] at h1; exact h1, h2⟩
    · rintro ⟨h1, h2⟩
      refine ⟨?_, h2⟩
      split
      · rename_i row hrow; exact h1 row hrow
      · rfl
theorem Rep.atL {v : V} {x : Value} (l' : Nat) (h : Rep w S θ σ l v x) (hnr : noRndB v = true) : Rep w S θ σ l' v x := by
  induction h with
  | pure h => exact .pure h
  | agg vs xs hl _ ih => exact .agg vs xs hl fun i v x h1 h2 => ih i v x h1 h2 ((noRndL_iff vs).1 (by simpa [noRndB] using hnr) v (mem_of_get h1))
  | tup vs xs hl _ ih => exact .tup vs xs hl fun i v x h1 h2 => ih i v x h1 h2 ((noRndL_iff vs).1 (by simpa [noRndB] using hnr) v (mem_of_get h1))
  | fn f vs xs hl _ ih => exact .fn f vs xs hl fun i v x h1 h2 => ih i v x h1 h2 ((noRndL_iff vs).1 (by simpa [noRndB] using hnr) v (mem_of_get h1))
  | bptr nm j x ho hn h1 => exact .bptr nm j x ho hn h1
  | ptr nm gen i j x ho hn hg h1 => exact .ptr nm gen i j x ho hn hg h1
  | msl nm gen i len x ho hn hg h1 => exact .msl nm gen i len x ho hn hg h1
  | own nm rows b off cap m ys hn hb hcap hw hc hr hf => exact .own nm rows b off cap m ys hn hb hcap hw hc hr hf
  | ownemp nm a hn => exact .ownemp nm a hn
  | cptro nm row b o j ys hn hb hc hr => exact .cptro nm row b o j ys hn hb hc hr
  | rnd => simp [noRndB] at hnr
theorem noRnd_cells {v : V} (h : noRndB v = true) : ∀ u ∈ v.cells, noRndB u = true := by
  intro u hu
  cases v with
  | agg ll => exact (noRndL_iff ll).1 (by simpa [noRndB] using h) u hu
  | tag b ll => exact (noRndL_iff ll).1 (by simpa [noRndB] using h) u hu
  | _ => simp only [V.cells, List.mem_singleton] at hu; rw [hu]; exact h
theorem BlkOk.ext {nm l' : Nat} (hk : BlkOk w S θ σ l nm (σ nm)) (hp : ∀ nm, σ nm ≠ .unused → σ' nm = σ nm ∧ θ' nm = θ nm) (h1 : σ' nm = σ nm) (h2 : θ' nm = θ nm) (hn : ∀ row, σ nm = .box row → noRndB row = true ∨ l' = l) : BlkOk w S θ' σ' l' nm (σ' nm) := by
  rw [h1]
  cases h : σ nm with
  | unused => rw [h] at hk; simp only [BlkOk] at hk ⊢; rw [h2]; exact hk
  | dead => trivial
  | box row =>
    rw [h] at hk
    simp only [BlkOk] at hk ⊢
    obtain ⟨b, c, e, k1, k2, k3, k4⟩ := hk
    refine ⟨b, c, e, by rw [h2]; exact k1, k2, k3, fun j v hj => ?_⟩
    obtain ⟨y, hy, hr⟩ := k4 j v hj
    refine ⟨y, hy, ?_⟩
    rcases hn row h with hn | rfl
    · exact (hr.ext hp).atL l' (noRnd_cells hn v (mem_of_get hj))
    · exact hr.ext hp
  | arr gen rows => rw [h] at hk; simp only [BlkOk] at hk ⊢; rw [h2]; exact hk
  | vec k => rw [h] at hk; simp only [BlkOk] at hk ⊢; rw [h2]; exact hk
end
section
variable {G : Type} {J : JT G} {w w' w'' : World} {S F S' F' S'' F'' : Nat → Prop} {θ θ' θ'' : Names} {σ σ' σ'' : Store} {l n : Nat} {g g' : G}
variable {P : Program} {o : Oper} {a : Act} {ρ : Env} {H : HT G} {s0 : Start}
theorem range_join {pf wo : List Nat} {R : RP} {st : Store × G × Option Exit} {W1 : World} {F1 : Nat → Prop} {θ2 : Names} {F2 : Nat → Prop} {lx : Nat} (hdis : ∀ nm, nm ∈ pf → nm ∉ wo)
    (hs1 : St J w S F θ σ l g) (hall : ∀ nm, σ nm ≠ .unused → nm ∈ pf ∨ nm ∈ wo)
    (hw1 : W1.heap.size = w.heap.size + 2) (hos : W1.os = w.os) (htape : W1.tape = w.tape) (hout : Out w W1) (hold : ∀ b, b < w.heap.size → W1.heap[b]? = w.heap[b]?)
    (hRl : R.l = w.heap.size + 1) (hRr : R.r = w.heap.size) (hRB : R.wB = w ∧ R.SB = S ∧ R.FB = F ∧ R.θB = restrN wo θ ∧ R.σB = restr wo σ ∧ R.wo = wo)
    (hF1 : ∀ b, F1 b ↔ F b ∨ LiveB (restrN wo θ) (restr wo σ) b ∨ b = R.l ∨ b = R.r)
    (hs' : St (RJ J l R) w' S' F' θ' σ' lx st) (h2 : RJc J l R st w' S' F' θ2 F2) (hfr : Fr W1 S F1 (restrN pf θ) (restr pf σ) w' S' F' θ' σ') (hun : ∀ nm, nm ∉ pf → σ' nm = .unused) (hnr : noRndSt σ' pf = true) :
    St J w' S' F2 (mergeN pf θ2 θ') (merge pf st.1 σ') l st.2.1 ∧ Fr w S F θ σ w' S' F2 (mergeN pf θ2 θ') (merge pf st.1 σ') ∧ (∀ v x, Rep w' S' θ2 st.1 l v x → Rep w' S' (mergeN pf θ2 θ') (merge pf st.1 σ') l v x) ∧
      ¬ LiveB (mergeN pf θ2 θ') (merge pf st.1 σ') R.l ∧ ¬ LiveB (mergeN pf θ2 θ') (merge pf st.1 σ') R.r := by
  obtain ⟨hB1, hB2, hB3, hB4, hB5, hB6⟩ := hRB
  have hun' : ∀ nm, σ' nm ≠ .unused → nm ∈ pf := fun nm h => by
    by_cases hm : nm ∈ pf
    · exact hm
    · exact absurd (hun nm hm) h
  have hwo' : ∀ nm, st.1 nm ≠ .unused → nm ∈ wo := fun nm h => by
    by_cases hm : nm ∈ wo
    · exact hm
    · exact absurd (h2.hwo nm (by rw [hB6]; exact hm)) h
  have e1 : ∀ nm, σ' nm ≠ .unused → merge pf st.1 σ' nm = σ' nm ∧ mergeN pf θ2 θ' nm = θ' nm := fun nm h => merge_in (hun' nm h)
  have e2 : ∀ nm, st.1 nm ≠ .unused → merge pf st.1 σ' nm = st.1 nm ∧ mergeN pf θ2 θ' nm = θ2 nm := fun nm h => merge_out (fun hm => hdis nm hm (hwo' nm h))
  have liveM : ∀ b, LiveB (mergeN pf θ2 θ') (merge pf st.1 σ') b → LiveB θ' σ' b ∨ LiveB θ2 st.1 b := by
    rintro b ⟨nm, m, k1, k2⟩
    by_cases hm : nm ∈ pf
    · obtain ⟨q1, q2⟩ := merge_in (σ := st.1) (σ' := σ') (θ := θ2) (θ' := θ') hm
      exact .inl ⟨nm, m, by rw [← q1]; exact k1, by rw [← q2]; exact k2⟩
    · obtain ⟨q1, q2⟩ := merge_out (σ := st.1) (σ' := σ') (θ := θ2) (θ' := θ') hm
      exact .inr ⟨nm, m, by rw [← q1]; exact k1, by rw [← q2]; exact k2⟩
  have clash : ∀ b, LiveB θ' σ' b → LiveB θ2 st.1 b → False := fun b k1 k2 => (hs'.hF b ((h2.hFe b).2 (.inr (.inl k2)))).2.2 k1
  have livePf : ∀ b, LiveB (restrN pf θ) (restr pf σ) b → LiveB θ σ b := fun b h => restr_live (fun nm hm => restr_in hm) (fun nm hm => restr_out hm) h
  have liveWo : ∀ b, LiveB (restrN wo θ) (restr wo σ) b → LiveB θ σ b := fun b h => restr_live (fun nm hm => restr_in hm) (fun nm hm => restr_out hm) h
  have liveLt : ∀ b, LiveB θ σ b → b < w.heap.size := fun b ⟨nm, m, k1, k2⟩ => live_lt hs1 k1 k2
  have kn := h2.frn
  rw [hB1, hB2, hB4, hB5] at kn
  refine ⟨⟨hs'.hS, fun nm => ?_, fun n1 n2 b m m' k1 k2 k3 k4 => ?_, fun b hb hS => ?_, fun b hb => ?_, h2.st2.hJ⟩, ?_, fun v x hr => hr.ext e2, fun hl => ?_, fun hl => ?_⟩
  · by_cases hm : nm ∈ pf
    · obtain ⟨q1, q2⟩ := merge_in (σ := st.1) (σ' := σ') (θ := θ2) (θ' := θ') hm
      exact BlkOk.ext (hs'.hblk nm) e1 q1 q2 (fun row hrow => .inl ((noRndSt_iff σ' pf).1 hnr nm hm row hrow))
    · obtain ⟨q1, q2⟩ := merge_out (σ := st.1) (σ' := σ') (θ := θ2) (θ' := θ') hm
      exact BlkOk.ext (h2.st2.hblk nm) e2 q1 q2 (fun row hrow => .inr rfl)
  · by_cases m1 : n1 ∈ pf
    · obtain ⟨q1, q2⟩ := merge_in (σ := st.1) (σ' := σ') (θ := θ2) (θ' := θ') m1
      rw [q1] at k1
      rw [q2] at k3
      by_cases m2 : n2 ∈ pf
      · obtain ⟨q3, q4⟩ := merge_in (σ := st.1) (σ' := σ') (θ := θ2) (θ' := θ') m2
        exact hs'.hinj n1 n2 b m m' k1 (by rw [← q3]; exact k2) k3 (by rw [← q4]; exact k4)
      · obtain ⟨q3, q4⟩ := merge_out (σ := st.1) (σ' := σ') (θ := θ2) (θ' := θ') m2
        exact (clash b ⟨n1, m, k1, k3⟩ ⟨n2, m', by rw [← q3]; exact k2, by rw [← q4]; exact k4⟩).elim
    · obtain ⟨q1, q2⟩ := merge_out (σ := st.1) (σ' := σ') (θ := θ2) (θ' := θ') m1
      rw [q1] at k1
      rw [q2] at k3
      by_cases m2 : n2 ∈ pf
      · obtain ⟨q3, q4⟩ := merge_in (σ := st.1) (σ' := σ') (θ := θ2) (θ' := θ') m2
        exact (clash b ⟨n2, m', by rw [← q3]; exact k2, by rw [← q4]; exact k4⟩ ⟨n1, m, k1, k3⟩).elim
      · obtain ⟨q3, q4⟩ := merge_out (σ := st.1) (σ' := σ') (θ := θ2) (θ' := θ') m2
        exact h2.st2.hinj n1 n2 b m m' k1 (by rw [← q3]; exact k2) k3 (by rw [← q4]; exact k4)
  · rcases liveM b hb with k | k
    · exact hs'.hliveS b k hS
    · exact h2.st2.hliveS b k hS
  · obtain ⟨k1, k2, k3⟩ := h2.st2.hF b hb
    refine ⟨k1, k2, fun hl => ?_⟩
    rcases liveM b hl with k | k
    · exact (hs'.hF b ((h2.hFe b).2 (.inl hb))).2.2 k
    · exact k3 k
  · exact {
      size := by have := hfr.size; omega
      os := hfr.os.trans hos
      tape := hfr.tape.trans htape
      output := hfr.output.trans hout
      same := fun b hb hl hF => by
        rw [hfr.same b (by omega) (fun h => hl (livePf b h)) (fun h => by
          rcases (hF1 b).1 h with k | k | k | k
          · exact hF k
          · exact hl (liveWo b k)
          · omega
          · omega)]
        exact hold b hb
      sized := fun b c e fr hc => by
        obtain ⟨c', f, q1, q2, q3⟩ := hfr.sized b c e fr (by rw [hold b (Array.getElem?_eq_some_iff.1 hc).1]; exact hc)
        refine ⟨c', f, q1, q2, q3.imp id fun q4 => ⟨q4.1, fun hl => ?_⟩⟩
        rcases liveM b hl with k | k
        · exact hs'.hliveS b k q4.1
        · exact h2.st2.hliveS b k q4.1
      vecs := fun nm k b m k1 k2 j hj => by
        rcases hall nm (by rw [k1]; intro h; cases h) with hm | hm
        · obtain ⟨q1, q2⟩ := restr_in (σ := σ) (θ := θ) hm
          rw [hfr.vecs nm k b m (by rw [q1]; exact k1) (by rw [q2]; exact k2) j hj]
          exact cell_of_heap (hold b (live_lt hs1 (live_vec k1) k2))
        · obtain ⟨q1, q2⟩ := restr_in (σ := σ) (θ := θ) hm
          exact kn.vecs nm k b m (by rw [q1]; exact k1) (by rw [q2]; exact k2) j hj
      smono := hfr.smono
      snew := fun b hb => by
        rcases hfr.snew b hb with k | k | k | k
        · exact .inl k
        · exact .inr (.inl (livePf b k))
        · rcases (hF1 b).1 k with k | k | k | k
          · exact .inr (.inr (.inl k))
          · exact .inr (.inl (liveWo b k))
          · exact .inr (.inr (.inr (by omega)))
          · exact .inr (.inr (.inr (by omega)))
        · exact .inr (.inr (.inr (by omega)))
      live := fun b hb hlt => by
        rcases liveM b hb with k | k
        · exact livePf b (hfr.live b k (by omega))
        · exact liveWo b (kn.live b k hlt)
      fsub := fun b hb hlt => by
        have := h2.fsub b hb (by rw [hB1]; exact hlt)
        rw [hB3] at this
        exact this
      kdead := fun nm k1 => by
        rcases hall nm (by rw [k1]; intro h; cases h) with hm | hm
        · rw [(merge_in (σ := st.1) (σ' := σ') (θ := θ2) (θ' := θ') hm).1]
          exact hfr.kdead nm (by rw [(restr_in (σ := σ) (θ := θ) hm).1]; exact k1)
        · rw [(merge_out (σ := st.1) (σ' := σ') (θ := θ2) (θ' := θ') (fun h => hdis nm h hm)).1]
          exact kn.kdead nm (by rw [(restr_in (σ := σ) (θ := θ) hm).1]; exact k1)
      kbox := fun nm row k1 => by
        rcases hall nm (by rw [k1]; intro h; cases h) with hm | hm
        · obtain ⟨q1, q2⟩ := merge_in (σ := st.1) (σ' := σ') (θ := θ2) (θ' := θ') hm
          obtain ⟨q3, q4⟩ := restr_in (σ := σ) (θ := θ) hm
          rw [q1, q2, ← q4]
          exact hfr.kbox nm row (by rw [q3]; exact k1)
        · obtain ⟨q1, q2⟩ := merge_out (σ := st.1) (σ' := σ') (θ := θ2) (θ' := θ') (fun h => hdis nm h hm)
          obtain ⟨q3, q4⟩ := restr_in (σ := σ) (θ := θ) hm
          rw [q1, q2, ← q4]
          exact kn.kbox nm row (by rw [q3]; exact k1)
      karr := fun nm gen rows k1 => by
        rcases hall nm (by rw [k1]; intro h; cases h) with hm | hm
        · obtain ⟨q1, q2⟩ := merge_in (σ := st.1) (σ' := σ') (θ := θ2) (θ' := θ') hm
          obtain ⟨q3, q4⟩ := restr_in (σ := σ) (θ := θ) hm
          rw [q1, q2, ← q4]
          exact hfr.karr nm gen rows (by rw [q3]; exact k1)
        · obtain ⟨q1, q2⟩ := merge_out (σ := st.1) (σ' := σ') (θ := θ2) (θ' := θ') (fun h => hdis nm h hm)
          obtain ⟨q3, q4⟩ := restr_in (σ := σ) (θ := θ) hm
          rw [q1, q2, ← q4]
          exact kn.karr nm gen rows (by rw [q3]; exact k1)
      kvec := fun nm k k1 => by
        rcases hall nm (by rw [k1]; intro h; cases h) with hm | hm
        · obtain ⟨q1, q2⟩ := merge_in (σ := st.1) (σ' := σ') (θ := θ2) (θ' := θ') hm
          obtain ⟨q3, q4⟩ := restr_in (σ := σ) (θ := θ) hm
          rw [q1, q2, ← q4]
          exact hfr.kvec nm k (by rw [q3]; exact k1)
        · obtain ⟨q1, q2⟩ := merge_out (σ := st.1) (σ' := σ') (θ := θ2) (θ' := θ') (fun h => hdis nm h hm)
          obtain ⟨q3, q4⟩ := restr_in (σ := σ) (θ := θ) hm
          rw [q1, q2, ← q4]
          exact kn.kvec nm k (by rw [q3]; exact k1) }
  · rcases liveM _ hl with k | k
    · exact (hs'.hF _ ((h2.hFe _).2 (.inr (.inr (.inl rfl))))).2.2 k
    · exact h2.hl.2.2 k
  · rcases liveM _ hl with k | k
    · exact (hs'.hF _ ((h2.hFe _).2 (.inr (.inr (.inr rfl))))).2.2 k
    · exact h2.hr.2.2 k
end
section
variable {G : Type} {J : JT G} {w w' w'' : World} {S F S' F' S'' F'' : Nat → Prop} {θ θ' θ'' : Names} {σ σ' σ'' : Store} {l n : Nat} {g g' : G}
variable {P : Program} {o : Oper} {a : Act} {ρ : Env} {H : HT G} {s0 : Start}
theorem def_lt {ds : List Deferred} (h : DefOk w S F θ σ ds) {d : Deferred} (hd : d ∈ ds) : ∃ r, d.target = .collected r ∧ r < w.heap.size := by
  induction ds with
  | nil => cases hd
  | cons x ds ih =>
    obtain ⟨⟨r, h1, h2, _⟩, h3⟩ := h
    rcases List.mem_cons.1 hd with rfl | hd
    · exact ⟨r, h1, (Array.getElem?_eq_some_iff.1 h2).1⟩
    · exact ih h3 hd
theorem rangeF_wp {pf : List Nat} {f : Opd} {ps : List Nat} {ca cb : Cmd} {gop : Operand} {qs : Array Tmp} {asg body : Code} {pn : List Nat} {Q : Exit → Env → Store → G → Prop} (hst : Stable J) (hM : MonoH H) (hH : HokS P J H l)
    (ha : Sound P H n true ca asg) (hb : Sound P H n true cb body) (hf : chkOpd gop f = true) (hps : ps = qs.toList) (hpsn : ∀ p ∈ ps, p < n) (hpn : ∀ nm, s0.σ nm ≠ .unused → nm ∈ pn)
    (h : Cur J l n s0 w S F θ σ g ρ a) (hw : AW P H pn (.rangeF pf f ps ca cb) ρ σ g Q) : (Code.rangeFunc gop qs asg body).wpIn (wf none) 0 P (PostA J l n s0 Q) a w := by
  simp only [AW] at hw
  split at hw
  case h_2 => exact hw.elim
  rename_i fid caps hfv
  obtain ⟨E, Sg, hfit, hck, hct⟩ := hw
  simp only [Bool.and_eq_true] at hck
  obtain ⟨⟨⟨⟨⟨⟨c1, c2⟩, c3⟩, c6⟩, c7⟩, c4⟩, c5⟩ := hck
  have hfr := opd_rep h.env hf
  rw [hfv] at hfr
  have hcur := h.weaken hpn hfit
  obtain ⟨hfE, hfS, hfB⟩ := hfit
  obtain ⟨N, hN⟩ : ∃ N, N = Sg.map (·.1) := ⟨_, rfl⟩
  rw [← hN] at c1 c4 c5 hct hcur
  obtain ⟨wo, hwo⟩ : ∃ wo, wo = without pf N := ⟨_, rfl⟩
  rw [← hwo] at c4 c5 hct
  obtain ⟨σ1, hσ1⟩ : ∃ σ1, σ1 = stOf Sg := ⟨_, rfl⟩
  rw [← hσ1] at c3 c5 c7 hct hcur
  obtain ⟨θ1, hθ1⟩ : ∃ θ1, θ1 = restrN N θ := ⟨_, rfl⟩
  rw [← hθ1] at hcur
  have hpfN : ∀ nm ∈ pf, nm ∈ N := fun nm hm => (hasAll_iff _ _).1 c1 nm hm
  have hwoN : ∀ nm, nm ∈ wo ↔ nm ∈ N ∧ nm ∉ pf := fun nm => by rw [hwo]; exact mem_without pf N nm
  have hσN : ∀ nm, nm ∈ N → σ1 nm = σ nm ∧ θ1 nm = θ nm := fun nm hm => by
    rw [hσ1, hθ1]
    exact ⟨(fitsS_mem hfS nm).1 (by rw [← hN]; exact hm), (restr_in (σ := σ) hm).2⟩
  have hσu : ∀ nm, nm ∉ N → σ1 nm = .unused := fun nm hm => by
    rw [hσ1]
    exact (fitsS_mem hfS nm).2 (by rw [← hN]; exact hm)
  have hall : ∀ nm, σ1 nm ≠ .unused → nm ∈ pf ∨ nm ∈ wo := fun nm hnm => by
    by_cases hm : nm ∈ pf
    · exact .inl hm
    · refine .inr ((hwoN nm).2 ⟨?_, hm⟩)
      by_cases hmN : nm ∈ N
      · exact hmN
      · exact absurd (hσu nm hmN) hnm
  have hs1 := hcur.st
  obtain ⟨cs, hfe, hcl, hcr⟩ := hfr.fn_inv
  refine wpIn_rangeFunc fun fn _ => ?_
  obtain ⟨R, hR⟩ : ∃ R : RP, R = { l := w.heap.size + 1, r := w.heap.size, fn, tmps := a.tmps, qs, asg, body, E, wo, wB := w, SB := S, FB := F, θB := restrN wo θ1, σB := restr wo σ1 } := ⟨_, rfl⟩
  obtain ⟨W1, hW1⟩ : ∃ W1, W1 = (w.alloc (.deferred (some []))).alloc (.loop (R.rc .ready none)) := ⟨_, rfl⟩
  have hz1 : W1.heap.size = w.heap.size + 2 := by rw [hW1]; simp
  have hold : ∀ b, b < w.heap.size → W1.heap[b]? = w.heap[b]? := fun b hb => by
    rw [hW1, heap_alloc_old' _ _ (by simp; omega), heap_alloc_old' _ _ hb]
  have hlo : W1.heap[w.heap.size + 1]? = some (.loop (R.rc .ready none)) := by
    rw [hW1]; have := heap_alloc_new' (w.alloc (.deferred (some []))) (.loop (R.rc .ready none)); rwa [World.size_alloc] at this
  have hde : W1.heap[w.heap.size]? = some (.deferred (some [])) := by
    rw [hW1, heap_alloc_old' _ _ (by simp)]; exact heap_alloc_new' w _
  have hlt1 : ∀ b, LiveB θ1 σ1 b → b < w.heap.size := fun b ⟨nm, m, k1, k2⟩ => live_lt hs1 k1 k2
  have hsub : ∀ pl : List Nat, ∀ b, LiveB (restrN pl θ1) (restr pl σ1) b → LiveB θ1 σ1 b := fun pl b hb => restr_live (fun nm hm => restr_in hm) (fun nm hm => restr_out hm) hb
  have mkStay : ∀ pl : List Nat, Stays w S F (restrN pl θ1) (restr pl σ1) W1 S := fun pl => {
    size := by omega
    os := by rw [hW1]; rfl
    tape := by rw [hW1]; rfl
    output := ⟨by rw [hW1]; rfl, by rw [hW1]; exact fun _ => Nat.le_refl _⟩
    same := fun b hb => hold b (by
      rcases hb with hb | hb | hb
      · exact hs1.hS b hb
      · exact (hs1.hF b hb).1
      · exact hlt1 b (hsub pl b hb))
    sized := fun b c e fr hc => ⟨c, fr, by rw [hold b (Array.getElem?_eq_some_iff.1 hc).1]; exact hc, rfl, .inl rfl⟩
    smono := fun _ h => h
    sok := fun b hb => ⟨by have := hs1.hS b hb; omega, fun hf => (hs1.hF b hf).2.1 hb, fun hl => hs1.hliveS b (hsub pl b hl) hb⟩ }
  have hsPf : St J w S F (restrN pf θ1) (restr pf σ1) l g := hs1.restr (fun nm hm => restr_in hm) (fun nm hm => restr_out hm) (fun nm hm row hrow => (closedSt_iff pf σ1 pf).1 c3 nm hm row hrow)
  have hsWo : St J w S F (restrN wo θ1) (restr wo σ1) l g := hs1.restr (fun nm hm => restr_in hm) (fun nm hm => restr_out hm) (fun nm hm row hrow => (closedSt_iff wo σ1 wo).1 c5 nm hm row hrow)
  have hSlt : ∀ b, w.heap.size ≤ b → ¬ S b ∧ ¬ F b ∧ ¬ LiveB θ1 σ1 b := fun b hb => ⟨fun h => by have := hs1.hS b h; omega, fun h => by have := (hs1.hF b h).1; omega, fun h => by have := hlt1 b h; omega⟩
  obtain ⟨F1, hF1⟩ : ∃ F1 : Nat → Prop, F1 = fun b => F b ∨ LiveB (restrN wo θ1) (restr wo σ1) b ∨ b = R.l ∨ b = R.r := ⟨_, rfl⟩
  have hRl : R.l = w.heap.size + 1 := by rw [hR]
  have hRr : R.r = w.heap.size := by rw [hR]
  have hRB : R.wB = w ∧ R.SB = S ∧ R.FB = F ∧ R.θB = restrN wo θ1 ∧ R.σB = restr wo σ1 ∧ R.wo = wo := by rw [hR]; exact ⟨rfl, rfl, rfl, rfl, rfl, rfl⟩
  have hRE : R.E = E := by rw [hR]
  have hRt : R.tmps = a.tmps := by rw [hR]
  have hW := (mkStay wo).st hst hsWo
  have hRJ : RJc J l R (restr wo σ1, g, none) W1 S F1 (restrN wo θ1) F := {
    st2 := hW
    hFe := fun b => by rw [hF1]
    hl := by rw [hRl]; exact ⟨(hSlt _ (by omega)).1, (hSlt _ (by omega)).2.1, fun hl => (hSlt _ (by omega)).2.2 (hsub wo _ hl)⟩
    hr := by rw [hRr]; exact ⟨(hSlt _ (Nat.le_refl _)).1, (hSlt _ (Nat.le_refl _)).2.1, fun hl => (hSlt _ (Nat.le_refl _)).2.2 (hsub wo _ hl)⟩
    hlo := by rw [hRl]; exact hlo
    hde := by rw [hRr]; exact hde
    env := fun t => by
      rw [hRE, hRt]
      exact (mkStay wo).rep hsWo ((hcur.env t).restr (fun nm hm => restr_in hm) (envOf_closed c4 t))
    frn := by
      rw [hRB.1, hRB.2.1, hRB.2.2.2.1, hRB.2.2.2.2.1]
      exact (mkStay wo).frN hsWo
    fsub := fun b hb _ => by rw [hRB.2.2.1]; exact hb
    hwo := fun nm hm => (restr_out (θ := θ1) (by rw [hRB.2.2.2.2.2] at hm; exact hm)).1
    ex := fun e h => by cases h }
  have hPf := (mkStay pf).st hst hsPf
  have hStJ : St (RJ J l R) W1 S F1 (restrN pf θ1) (restr pf σ1) R.l (restr wo σ1, g, none) := by
    refine ⟨hPf.hS, fun nm => BlkOk.ext (hPf.hblk nm) (fun _ _ => ⟨rfl, rfl⟩) rfl rfl (fun row hrow => .inl ?_), hPf.hinj, hPf.hliveS, fun b hb => ?_, ⟨_, _, hRJ⟩⟩
    · by_cases hm : nm ∈ pf
      · rw [(restr_in (θ := θ1) hm).1] at hrow
        exact (noRndSt_iff σ1 pf).1 c7 nm hm row hrow
      · rw [(restr_out (θ := θ1) hm).1] at hrow; cases hrow
    · rw [hF1] at hb
      rcases hb with hb | hb | rfl | rfl
      · exact hPf.hF b hb
      · obtain ⟨nm, m, k1, k2⟩ := hb
        refine ⟨live_lt hW k1 k2, hW.hliveS b ⟨nm, m, k1, k2⟩, fun ⟨nm', m', k3, k4⟩ => ?_⟩
        have hm : nm ∈ wo := by
          by_cases hm : nm ∈ wo
          · exact hm
          · rw [(restr_out (θ := θ1) hm).1] at k1; exact k1.elim
        have hm' : nm' ∈ pf := by
          by_cases hm : nm' ∈ pf
          · exact hm
          · rw [(restr_out (θ := θ1) hm).1] at k3; exact k3.elim
        obtain ⟨q1, q2⟩ := restr_in (σ := σ1) (θ := θ1) hm
        obtain ⟨q3, q4⟩ := restr_in (σ := σ1) (θ := θ1) hm'
        have := hs1.hinj nm nm' b m m' (by rw [← q1]; exact k1) (by rw [← q3]; exact k3) (by rw [← q2]; exact k2) (by rw [← q4]; exact k4)
        exact ((hwoN nm).1 hm).2 (by rw [this]; exact hm')
      · rw [hRl]
        exact ⟨by omega, (hSlt _ (by omega)).1, fun hl => (hSlt _ (by omega)).2.2 (hsub pf _ hl)⟩
      · rw [hRr]
        exact ⟨by omega, (hSlt _ (Nat.le_refl _)).1, fun hl => (hSlt _ (Nat.le_refl _)).2.2 (hsub pf _ hl)⟩
  have hReps : Reps (Rep W1 S (restrN pf θ1) (restr pf σ1) R.l) (.rnd :: caps) (.func (.yield R.l) #[] #[] :: cs) := by
    refine ⟨by simp [hcl], fun i v x hv hx => ?_⟩
    cases i with
    | zero =>
      simp at hv hx
      subst hv hx
      exact .rnd
    | succ i =>
      simp at hv hx
      have h1 := hcr i v x hv hx
      have h2 : Rep w S (restrN pf θ1) (restr pf σ1) l v x := h1.restr (pn := pf) (fun nm hm => by
        obtain ⟨q1, q2⟩ := restr_in (σ := σ1) (θ := θ1) hm
        obtain ⟨q3, q4⟩ := hσN nm (hpfN nm hm)
        exact ⟨q1.trans q3, q2.trans q4⟩) ((closedL_iff pf caps).1 c2 v (mem_of_get hv))
      exact ((mkStay pf).rep hsPf h2).atL R.l ((noRndL_iff caps).1 c6 v (mem_of_get hv))
  have hok := round_hok (R := R) (ca := ca) (cb := cb) (ps := ps) hst hM hH (by rw [hR]; exact ha) (by rw [hR]; exact hb) (by rw [hR]; exact hps) hpsn (by rw [hRt]; exact h.sz) (by rw [hRl, hRr]; omega)
    (fun nm hnm => by
      rw [hRB.2.2.2.2.1] at hnm
      rw [hRB.2.2.2.2.2]
      by_cases hm : nm ∈ wo
      · exact hm
      · exact absurd (restr_out (θ := θ1) hm).1 hnm) (by rw [hRB.2.2.2.2.2, hRE]; exact c4)
  rw [hRB.2.2.2.2.2, hRE] at hok
  have hcall := hct.2 (RJ J l R) R.l (RJ.stable hst) (RH_mono (fun pn ρ σ g Q Q' => AW_mono hM ca pn ρ σ g Q Q') (fun pn ρ σ g Q Q' => AW_mono hM cb pn ρ σ g Q Q')) hok W1 S F1 (restrN pf θ1) (.func (.yield R.l) #[] #[] :: cs) hStJ hReps
  have hcb := hct.1
  refine ⟨w.heap.size + 1, [{ target := .collected w.heap.size, args := #[] }], W1, { target := .fn (.func fid) cs.toArray, args := #[.func (.yield (w.heap.size + 1)) #[] #[]] }, W1, fid, (.func (.yield R.l) #[] #[] :: cs).toArray, W1, ?_, ?_, fun _ _ => trivial, ?_, (fun h => by cases h), (callsIn_wf hcall).mono fun e w' he => ?_⟩
  · rw [hW1, hR]; exact run_enterLoop_outer _ _ _ _ _
  · simp [resolve, hfe, Deferred.ofValue]
    rfl
  · have : (#[Value.func (.yield (w.heap.size + 1)) #[] #[]] ++ cs.toArray) = (.func (.yield R.l) #[] #[] :: cs).toArray := by rw [hRl]; apply Array.ext'; simp
    simp only [invoke]
    rw [this]
    exact call_run hcb _ _
  · obtain ⟨r, x', σ', st, S', F', θ', rfl, ⟨hnr, hK⟩, hs', _, hfr', hun⟩ := he
    obtain ⟨θ2, F2, h2⟩ := hs'.hJ
    obtain ⟨j1, j2, j3, j4, j5⟩ := range_join (R := R) (pf := pf) (wo := wo) (fun nm h1 h2 => ((hwoN nm).1 h2).2 h1) hs1 hall hz1 (by rw [hW1]; rfl) (by rw [hW1]; rfl) (by rw [hW1]; exact ⟨rfl, fun _ => Nat.le_refl _⟩) hold hRl hRr hRB (fun b => by rw [hF1]) hs' h2 hfr' hun hnr
    have hend := run_endLoop (P := P) h2.hlo (by
      simp only [RP.rc, lst]
      cases st.2.2 <;> simp)
    have hstay : Stays w' S' F2 (mergeN pf θ2 θ') (merge pf st.1 σ') (w'.putObj R.l (.loop { R.rc (lst st.2.2) (pend st.2.2) with state := .exhausted })) S' :=
      Stays.set j1 (by simp) (fun b hb => World.putObj_heap_other hb) h2.hlo (by intro c e fr h; cases h) rfl rfl (Out.refl _) h2.hl.1 h2.hl.2.1 j4
    have j6 := hstay.st hst j1
    have hsame : Fr w S F θ1 σ1 (w'.putObj R.l (.loop { R.rc (lst st.2.2) (pend st.2.2) with state := .exhausted })) S' F2 (mergeN pf θ2 θ') (merge pf st.1 σ') := {
      j2 with
      size := by have := j2.size; simp; omega
      same := fun b hb hl hF => by
        rw [World.putObj_heap_other (by rw [hRl]; omega)]
        exact j2.same b hb hl hF
      sized := fun b c e fr hc => by
        obtain ⟨c', f1, k1, k2, k1'⟩ := j2.sized b c e fr hc
        obtain ⟨c'', f2, k3, k4, k3'⟩ := hstay.sized b c' e f1 k1
        refine ⟨c'', f2, k3, k4.trans k2, ?_⟩
        rcases k3' with rfl | k3'
        · exact k1'
        · exact .inr ⟨k3', fun hl => j1.hliveS b hl k3'⟩
      vecs := fun nm k b m k1 k2 j hj => by
        rw [← j2.vecs nm k b m k1 k2 j hj]
        exact cell_of_heap (World.putObj_heap_other (by rw [hRl]; have := live_lt hs1 (live_vec k1) k2; omega)) }
    have hfin : Cur J l n s0 (w'.putObj R.l (.loop { R.rc (lst st.2.2) (pend st.2.2) with state := .exhausted })) S' F2 (mergeN pf θ2 θ') (merge pf st.1 σ') st.2.1 (envOf E) { a with defers := [{ target := .collected w.heap.size, args := #[] }] ++ a.defers } := by
      refine ⟨j6, fun t => ?_, h.sz, hcur.fr.trans hs1 hsame, ⟨⟨w.heap.size, rfl, ?_, ?_⟩, hcur.de.fr hsame⟩, fun d hd r hr => ?_⟩
      · have := h2.env t
        rw [hRE, hRt] at this
        exact hstay.rep j1 (j3 _ _ this)
      · rw [World.putObj_heap_other (by rw [hRl]; omega), ← hRr]; exact h2.hde
      · rw [← hRr]
        refine ⟨h2.hr.1, h2.hr.2.1, j5, fun d' hd' e => ?_⟩
        obtain ⟨r', k1, k2⟩ := def_lt hcur.de hd'
        rw [k1] at e
        injection e with e
        omega
      · rcases List.mem_cons.1 hd with rfl | hd
        · injection hr with hr
          have := hcur.fr.size
          omega
        · exact hcur.dn d hd r hr
    have hl1 : w.heap.size + 1 = R.l := hRl.symm
    rw [hl1]
    refine ⟨_, _, hend, ?_⟩
    cases hj : st.2.2 with
    | none =>
      rw [hj] at hK
      simp only [RP.rc, pend]
      rw [hj] at hfin
      exact ⟨.inl rfl, _, _, _, _, _, _, hK, hfin⟩
    | some e =>
      rw [hj] at hK hfin
      rcases h2.ex e hj with rfl | ⟨id, rfl⟩
      · simp only [RP.rc, pend]
        exact wpIn_ret ⟨.inr (.inl rfl), _, _, _, _, _, _, hK, hfin⟩
      · simp only [RP.rc, pend]
        exact wpIn_exit ⟨.inr (.inr ⟨id, rfl⟩), _, _, _, _, _, _, hK, hfin⟩
theorem seq_cases {n : Nat} {r : Bool} {x y : Cmd} {code : Code} (hc : chk P n r (.seq x y) code = true) :
    (∃ t, x = .frz t ∧ chk P n r y code = true) ∨ (∃ t, y = .frz t ∧ chk P n r x code = true) ∨ ∃ x' y', code = .seq x' y' ∧ chk P n r x x' = true ∧ chk P n r y y' = true := by
  unfold chk at hc
  split at hc
  · simp only [Bool.and_eq_true] at hc
    exact .inl ⟨_, rfl, hc.2⟩
  · simp only [Bool.and_eq_true] at hc
    exact .inr (.inl ⟨_, rfl, hc.2⟩)
  · split at hc
    · simp only [Bool.and_eq_true] at hc
      exact .inr (.inr ⟨_, _, rfl, hc.1, hc.2⟩)
    · cases hc
theorem aw_sound (hmix : P.follows .mixedOrders = true) : ∀ (c : Cmd) (r : Bool) (code : Code), chk P n r c code = true → Sound P H n r c code
  | .skip, r, code, hc => by
    intro J l hst hM hH ro hro pn ρ σ g Q s0 w S F θ a hpn h hw
    cases code <;> first | (cases r <;> cases hc; done) | skip
    exact wpIn_skip ⟨.inl rfl, _, _, _, _, _, _, hw, h⟩
  | .ops l', r, code, hc => by
    intro J l hst hM hH ro hro pn ρ σ g Q s0 w S F θ a hpn h hw
    cases code <;> first | (cases r <;> cases hc; done) | skip
    rename_i id ops draw
    cases draw with
    | false =>
      have hc : seqOk P n ops l' (List.range ops.size) = true := by cases r <;> exact hc
      exact wpIn_region (items_wp hst hM hH _ _ hc h hw (fun ρ' σ' g' S' F' θ' w' a' hk hc => ⟨.inl rfl, ρ', σ', g', S', F', θ', hk, hc⟩))
    | true =>
      have hc : chkDraw P n ops l' (.leaf (List.range ops.size)) = true := by cases r <;> exact hc
      refine draw_wp hmix hst hM hH hc h ?_
      have hlen : l'.length = ops.size := by
        simp only [chkDraw, allOps, Bool.and_eq_true] at hc
        exact Nat.eq_of_beq_eq_true hc.1.2.1
      show AWits P H (pickAll l' (List.range ops.size)) ρ σ g _
      rw [← hlen, pickAll_range]
      exact hw
  | .opsT t l', r, code, hc => by
    intro J l hst hM hH ro hro pn ρ σ g Q s0 w S F θ a hpn h hw
    cases code <;> first | (cases r <;> cases hc; done) | skip
    rename_i id ops draw
    cases draw with
    | false => cases r <;> cases hc
    | true =>
      have hc : chkDraw P n ops l' t = true := by cases r <;> exact hc
      exact draw_wp hmix hst hM hH hc h hw
  | .frz t, r, code, hc => by cases code <;> cases r <;> cases hc
  | .seq x y, r, code, hc => by
    intro J l hst hM hH ro hro pn ρ σ g Q s0 w S F θ a hpn h hw
    simp only [AW] at hw
    rcases seq_cases hc with ⟨t, rfl, h1⟩ | ⟨t, rfl, h1⟩ | ⟨x', y', rfl, h1, h2⟩
    · simp only [AW] at hw
      obtain ⟨ρ', σ', S', k1, k2⟩ := frz_cur hst h hw
      exact aw_sound hmix y r code h1 J l hst hM hH ro hro pn ρ' σ' g Q s0 w S' F θ a hpn k2 k1
    · refine wpIn_mono (aw_sound hmix x r code h1 J l hst hM hH ro hro pn ρ σ g _ s0 w S F θ a hpn h hw) fun e a' w' hp => ?_
      obtain ⟨hex, ρ', σ', g', S', F', θ', hq, hc'⟩ := hp
      cases e with
      | normal =>
        simp only [AW] at hq
        obtain ⟨ρ2, σ2, S2, k1, k2⟩ := frz_cur hst hc' hq
        exact ⟨.inl rfl, _, _, _, _, _, _, k1, k2⟩
      | _ => exact ⟨hex, _, _, _, _, _, _, hq, hc'⟩
    · refine wpIn_seq (wpIn_mono (aw_sound hmix x r x' h1 J l hst hM hH ro hro pn ρ σ g _ s0 w S F θ a hpn h hw) fun e a' w' hp => ?_)
      obtain ⟨hex, ρ', σ', g', S', F', θ', hq, hc'⟩ := hp
      cases e with
      | normal => exact aw_sound hmix y r y' h2 J l hst hM hH ro hro pn ρ' σ' g' Q s0 w' S' F' θ' a' hpn hc' hq
      | _ => exact ⟨hex, _, _, _, _, _, _, hq, hc'⟩
  | .cond x y z, r, code, hc => by
    intro J l hst hM hH ro hro pn ρ σ g Q s0 w S F θ a hpn h hw
    cases code <;> first | (cases r <;> cases hc; done) | skip
    rename_i c' y' z'
    have hc : (chkOpd c' x && chk P n r y y' && chk P n r z z') = true := by cases r <;> exact hc
    simp only [Bool.and_eq_true] at hc
    obtain ⟨⟨h1, h2⟩, h3⟩ := hc
    have hr := opd_rep h.env h1
    simp only [AW] at hw
    split at hw
    · rename_i t ht
      rw [ht] at hr
      have e := hr.bool_inv
      cases t with
      | true => exact wpIn_cond_true e (aw_sound hmix y r y' h2 J l hst hM hH ro hro pn ρ σ g Q s0 w S F θ a hpn h hw)
      | false => exact wpIn_cond_false e (aw_sound hmix z r z' h3 J l hst hM hH ro hro pn ρ σ g Q s0 w S F θ a hpn h hw)
    · exact hw.elim
  | .block id x, r, code, hc => by
    intro J l hst hM hH ro hro pn ρ σ g Q s0 w S F θ a hpn h hw
    cases code <;> first | (cases r <;> cases hc; done) | skip
    rename_i id' x'
    have hc : (Nat.beq id id' && chk P n r x x') = true := by cases r <;> exact hc
    simp only [Bool.and_eq_true] at hc
    have e := Nat.eq_of_beq_eq_true hc.1
    subst e
    refine wpIn_block (wpIn_mono (aw_sound hmix x r x' hc.2 J l hst hM hH ro hro pn ρ σ g _ s0 w S F θ a hpn h hw) fun e a' w' hp => ?_)
    obtain ⟨hex, ρ', σ', g', S', F', θ', hq, hc'⟩ := hp
    cases e with
    | exit i =>
      simp only at hq
      simp only [Exit.inBlock]
      cases hb : Nat.beq i id with
      | true =>
        rw [hb] at hq
        rw [if_pos (Nat.eq_of_beq_eq_true hb)]
        exact ⟨.inl rfl, _, _, _, _, _, _, hq, hc'⟩
      | false =>
        rw [hb] at hq
        rw [if_neg (fun e => by rw [e] at hb; simp at hb)]
        exact ⟨hex, _, _, _, _, _, _, hq, hc'⟩
    | _ => exact ⟨hex, _, _, _, _, _, _, hq, hc'⟩
  | .loop x, r, code, hc => by
    intro J l hst hM hH ro hro pn ρ σ g Q s0 w S F θ a hpn h hw
    cases code <;> first | (cases r <;> cases hc; done) | skip
    rename_i x'
    have hc : chk P n r x x' = true := by cases r <;> exact hc
    simp only [AW] at hw
    obtain ⟨ι, E, Sg, gi, inv, μ, ⟨i0, hi0, hf0, hg0⟩, hstep⟩ := hw
    refine loop_ix (fun i a w => inv i ∧ ∃ S F θ, Cur J l n s0 w S F θ (stOf (Sg i)) (gi i) (envOf (E i)) a) μ i0 ⟨hi0, S, F, _, by rw [hg0]; exact h.weaken hpn hf0⟩ fun i a w hI => ?_
    obtain ⟨hi, S, F, θ, hcur⟩ := hI
    refine wpIn_mono (aw_sound hmix x r x' hc J l hst hM hH ro hro pn _ _ _ _ s0 w S F θ a hpn hcur (hstep i hi)) fun e a' w' hp => ?_
    obtain ⟨hex, ρ', σ', g', S', F', θ', hq, hc'⟩ := hp
    cases e with
    | normal =>
      obtain ⟨i', hi', hf', hg', hμ⟩ := hq
      exact ⟨i', ⟨hi', S', F', _, by rw [hg']; exact hc'.weaken hpn hf'⟩, hμ⟩
    | _ => exact ⟨hex, _, _, _, _, _, _, hq, hc'⟩
  | .fzb t j x, r, code, hc => by
    intro J l hst hM hH ro hro pn ρ σ g Q s0 w S F θ a hpn h hw
    have hc : chk P n r x code = true := by cases r <;> cases code <;> exact hc
    simp only [AW] at hw
    split at hw
    · split at hw
      · rename_i l0 hb
        split at hw
        · rename_i nm rows hj
          split at hw
          · rename_i k hu
            obtain ⟨S2, h2⟩ := fzb_cur hst h hb hu hj
            exact aw_sound hmix x r code hc J l hst hM hH ro hro pn _ _ _ _ s0 w S2 F _ a hpn h2 hw
          · exact hw.elim
        · exact hw.elim
      · exact hw.elim
    · exact hw.elim
  | .nvb t j nm x, r, code, hc => by
    intro J l hst hM hH ro hro pn ρ σ g Q s0 w S F θ a hpn h hw
    have hc : chk P n r x code = true := by cases r <;> cases code <;> exact hc
    simp only [AW] at hw
    split at hw
    · rename_i bn ht hu
      split at hw
      · rename_i l0 hb
        split at hw
        · rename_i hj
          exact aw_sound hmix x r code hc J l hst hM hH ro hro pn _ _ _ _ s0 w S F _ a hpn (nvb_cur hst h hb hu hj) hw
        · exact hw.elim
      · exact hw.elim
    · exact hw.elim
  | .nvs t nm x, r, code, hc => by
    intro J l hst hM hH ro hro pn ρ σ g Q s0 w S F θ a hpn h hw
    have hc : chk P n r x code = true := by cases r <;> cases code <;> exact hc
    simp only [AW] at hw
    split at hw
    · rename_i bn ht hu
      split at hw
      · rename_i hb
        exact aw_sound hmix x r code hc J l hst hM hH ro hro pn _ _ _ _ s0 w S F _ a hpn (nvs_cur hst h hb hu) hw
      · exact hw.elim
    · exact hw.elim
  | .tagb t x, r, code, hc => by
    intro J l hst hM hH ro hro pn ρ σ g Q s0 w S F θ a hpn h hw
    have hc : chk P n r x code = true := by cases r <;> cases code <;> exact hc
    simp only [AW] at hw
    split at hw
    · rename_i bn ht
      split at hw
      · rename_i l0 hb
        obtain ⟨b, h2⟩ := tagb_cur hst h ht hb
        exact aw_sound hmix x r code hc J l hst hM hH ro hro pn _ _ _ _ s0 w S F _ a hpn h2 (hw b)
      · rename_i bm hv
        split at hw
        · rename_i l0 hb
          obtain ⟨b, h2⟩ := tagv_cur hst h hv hb
          exact aw_sound hmix x r code hc J l hst hM hH ro hro pn _ _ _ _ s0 w S F _ a hpn h2 (hw b)
        · exact hw.elim
      · exact hw.elim
    · exact hw.elim
  | .frzr x, r, code, hc => by
    intro J l hst hM hH ro hro pn ρ σ g Q s0 w S F θ a hpn h hw
    have hc : chk P n r x code = true := by cases r <;> cases code <;> exact hc
    simp only [AW] at hw
    obtain ⟨nm, nm2, b, b2, nn, cc, j, ll, l2, h1, h2, h3, h4, h5, h6, hw⟩ := hw
    obtain ⟨S2, h7⟩ := frzr_cur hst h h1 h2 h3 h4 h5 h6
    exact aw_sound hmix x r code hc J l hst hM hH ro hro pn _ _ _ _ s0 w S2 F _ a hpn h7 hw
  | .nvt t nm arr x, r, code, hc => by
    intro J l hst hM hH ro hro pn ρ σ g Q s0 w S F θ a hpn h hw
    have hc : chk P n r x code = true := by cases r <;> cases code <;> exact hc
    simp only [AW] at hw
    split at hw
    · rename_i ht hu
      exact aw_sound hmix x r code hc J l hst hM hH ro hro pn _ _ _ _ s0 w S F _ a hpn (nvt_cur hst h ht hu) hw
    · exact hw.elim
  | .cut x, r, code, hc => by
    intro J l hst hM hH ro hro pn ρ σ g Q s0 w S F θ a hpn h hw
    have hc : chk P n r x code = true := by cases r <;> cases code <;> exact hc
    simp only [AW] at hw
    rcases hw with hw | ⟨E, Sg, hf, hw⟩
    · exact aw_sound hmix x r code hc J l hst hM hH ro hro pn ρ σ g Q s0 w S F θ a hpn h hw
    · exact aw_sound hmix x r code hc J l hst hM hH ro hro pn _ _ _ _ s0 w S F _ a hpn (h.weaken hpn hf) hw
  | .exit id, r, code, hc => by
    intro J l hst hM hH ro hro pn ρ σ g Q s0 w S F θ a hpn h hw
    cases code <;> first | (cases r <;> cases hc; done) | skip
    rename_i id'
    have hc : Nat.beq id id' = true := by cases r <;> exact hc
    have e := Nat.eq_of_beq_eq_true hc
    subst e
    exact wpIn_exit ⟨.inr (.inr ⟨_, rfl⟩), _, _, _, _, _, _, hw, h⟩
  | .ret, r, code, hc => by
    intro J l hst hM hH ro hro pn ρ σ g Q s0 w S F θ a hpn h hw
    cases code <;> first | (cases r <;> cases hc; done) | skip
    exact wpIn_ret ⟨.inr (.inl rfl), _, _, _, _, _, _, hw, h⟩
  | .rangeF pf f ps x y, r, code, hc => by
    intro J l hst hM hH ro hro pn ρ σ g Q s0 w S F θ a hpn h hw
    cases r with
    | true => cases code <;> cases hc
    | false =>
      cases code <;> first | (cases hc; done) | skip
      rename_i g' qs x' y'
      have hc : (chkOpd g' f && (ps == qs.toList) && (ps.all fun p => Nat.blt p n) && chk P n true x x' && chk P n true y y') = true := hc
      simp only [Bool.and_eq_true, beq_iff_eq] at hc
      obtain ⟨⟨⟨⟨h1, h2⟩, h3⟩, h4⟩, h5⟩ := hc
      rw [hro rfl]
      exact rangeF_wp hst hM hH (aw_sound hmix x true x' h4) (aw_sound hmix y true y' h5) h1 h2 (fun p hp => by
        have := (List.all_eq_true.1 h3) p hp
        simpa [Nat.blt_eq] using this) hpn h hw
end
inductive RVar where
  | tmp (t : Nat)
  | cell (agg : Bool) (size a : Nat)
def resVal (ρ : Env) (σ : Store) : RVar → Option V
  | .tmp t => some (ρ t)
  | .cell agg size a => match ρ a with
    | .bptr nm j => match σ nm with
      | .box row => ldrow agg size j row
      | _ => none
    | .cptr _ row j => ldrow agg size j row
    | _ => none
def resAll (ρ : Env) (σ : Store) : List RVar → Option (List V)
  | [] => some []
  | x :: r => match resVal ρ σ x, resAll ρ σ r with
    | some v, some vs => some (v :: vs)
    | _, _ => none
def finV : List V → V
  | [v] => v
  | vs => .tup vs
def chkRes (P : Program) : ResultVar → RVar → Bool
  | .tmp t, .tmp t' => Nat.beq t t'
  | .cell a T, .cell agg size a' => Nat.beq a a' && tSize P T size && tAgg P T == agg && (agg || Nat.beq size 1) && (P.underlying T).isSome
  | _, _ => false
def chkRess (P : Program) : List ResultVar → List RVar → Bool
  | [], [] => true
  | x :: r, y :: r' => chkRes P x y && chkRess P r r'
  | _, _ => false
def chkFn (P : Program) (f n : Nat) (rs : List RVar) (c : Cmd) : Bool := match P.funcs[f]? with
  | some fn => fn.name != "runtime.NumGoroutine" && Nat.beq fn.ntmps n && chkRess P fn.results.toList rs && (match fn.body with
    | some code => chk P n false c code
    | none => false)
  | none => false
def okE : Exit → Bool
  | .normal | .ret => true
  | _ => false
def fnPost (rs : List RVar) (r : V) : Exit → Env → Store → Unit → Prop := fun e ρ σ _ => okE e = true ∧ ∃ vs, resAll ρ σ rs = some vs ∧ r = er σ 6 (finV vs)
def SL (S : Nat → Prop) (θ : Names) (σ : Store) : Nat → Prop := fun b => S b ∨ LiveB θ σ b
section
variable {G : Type} {J : JT G} {w w' w'' : World} {S F S' F' S'' F'' : Nat → Prop} {θ θ' θ'' : Names} {σ σ' σ'' : Store} {l n : Nat} {g g' : G}
variable {P : Program} {o : Oper} {a : Act} {ρ : Env} {H : HT G} {s0 : Start}
theorem Rep.er2 (hst : St J w S F θ σ l g) {v : V} {x : Value} (h : Rep w S θ σ l v x) (n : Nat) : RepP w (SL S θ σ) (Hm.er σ n v) x := by
  induction n generalizing v x with
  | zero => exact .any x
  | succ n ihn =>
    cases h with
    | pure h1 => exact (h1.mono (fun _ _ => rfl) (fun _ h => .inl h)).er σ (n + 1)
    | agg vs xs hl h1 =>
      refine .agg _ xs (by simpa using hl) fun i v x h2 h3 => ?_
      rw [List.getElem?_map] at h2
      cases h4 : vs[i]? with
      | none => simp [h4] at h2
      | some u => simp [h4] at h2; subst h2; exact ihn (h1 i u x h4 h3)
    | tup vs xs hl h1 =>
      refine .tup _ xs (by simpa using hl) fun i v x h2 h3 => ?_
      rw [List.getElem?_map] at h2
      cases h4 : vs[i]? with
      | none => simp [h4] at h2
      | some u => simp [h4] at h2; subst h2; exact ihn (h1 i u x h4 h3)
    | fn f vs xs hl h1 =>
      refine .fn f _ xs (by simpa using hl) fun i v x h2 h3 => ?_
      rw [List.getElem?_map] at h2
      cases h4 : vs[i]? with
      | none => simp [h4] at h2
      | some u => simp [h4] at h2; subst h2; exact ihn (h1 i u x h4 h3)
    | bptr nm j x ho hn h1 =>
      simp only [Hm.er]
      cases hs : σ nm with
      | box row =>
        obtain ⟨b, m, hb, rfl⟩ := h1 row hs
        have hk := hst.hblk nm
        rw [hs] at hk
        obtain ⟨b', c, e, h2, h3, h4, h5⟩ := hk
        have eb : b' = b := by rw [hb] at h2; simp at h2; exact h2.1.symm
        subst eb
        have hlt : SL S θ σ b' := .inr ⟨nm, _, by rw [hs]; trivial, h2⟩
        have hcell : ∀ i v, row.cells[i]? = some v → w.cell? ⟨b', 0 + i, none⟩ = some (c.getD i default) := by
          intro i v hv
          obtain ⟨y, hy, _⟩ := h5 i v hv
          have hi := (Array.getElem?_eq_some_iff.1 hy).1
          simp [World.cell?, h3, Array.getD, hi]
        have hrep : ∀ i v, row.cells[i]? = some v → Rep w S θ σ l v (c.getD i default) := by
          intro i v hv
          obtain ⟨y, hy, hr⟩ := h5 i v hv
          have hi := (Array.getElem?_eq_some_iff.1 hy)
          have : c.getD i default = y := by simp [Array.getD, hi.1, hi.2]
          rw [this]; exact hr
        have fin : ∀ row' : V, (∀ (i : Nat) (v' : V), row'.cells[i]? = some v' → ∃ v : V, row.cells[i]? = some v ∧ v' = Hm.er σ n v) → RepP w (SL S θ σ) (.cptr .p row' j) (.pointer (some ⟨b', j, none⟩)) := by
          intro row' hrow'
          have := RepP.cptr (w := w) (S := SL S θ σ) row' b' 0 j (fun i => c.getD i default) hlt (fun i v' hv' => by
            obtain ⟨v, hv, _⟩ := hrow' i v' hv'
            exact hcell i v hv) (fun i v' hv' => by
            obtain ⟨v, hv, rfl⟩ := hrow' i v' hv'
            exact ihn (hrep i v hv))
          simpa using this
        have one : ∀ v : V, (∀ ll, v ≠ .agg ll) → (∀ b ll, v ≠ .tag b ll) → row = v → RepP w (SL S θ σ) (.cptr .p (Hm.er σ n v) j) (.pointer (some ⟨b', j, none⟩)) := by
          intro v hv ht e
          refine fin _ fun i v' hv' => ?_
          subst e
          have hcs : row.cells = [row] := cells_one hv ht
          have hce : (Hm.er σ n row).cells = [Hm.er σ n row] := cells_one (er_notagg σ n hv) (er_notag σ n ht)
          rw [hce] at hv'
          rw [hcs]
          cases i with
          | zero => simp at hv'; exact ⟨row, by simp, hv'.symm⟩
          | succ i => simp at hv'
        cases row with
        | agg ll =>
          refine fin _ fun i v' hv' => ?_
          simp only [V.cells, List.getElem?_map] at hv' ⊢
          cases h6 : ll[i]? with
          | none => simp [h6] at hv'
          | some u => simp [h6] at hv'; exact ⟨u, rfl, hv'.symm⟩
        | tup ll => exact .any _
        | tag b ll => exact .any _
        | _ => exact one _ (by intro ll; simp) (by intro b ll; simp) rfl
      | _ => exact .any _
    | ptr nm gen i j x ho hn hg h1 =>
      simp only [Hm.er]
      cases hs : σ nm with
      | arr gen' rows =>
        simp only
        cases hgen : Nat.beq gen gen' with
        | false => exact .any _
        | true =>
          have e := Nat.eq_of_beq_eq_true hgen
          subst e
          simp only [cond_true]
          cases hrow : rows[i]? with
          | none => exact .any _
          | some row =>
            obtain ⟨b, m, hb, rfl⟩ := h1 rows hs
            have hk := hst.hblk nm
            rw [hs] at hk
            rcases hk with ⟨h2, _⟩ | ⟨b', m', c, e, h2, h3, h4, h5, h6⟩
            · rw [hb] at h2; cases h2
            · have eb : b' = b ∧ m' = m := by rw [hb] at h2; simp at h2; exact ⟨h2.1.symm, h2.2.symm⟩
              obtain ⟨rfl, rfl⟩ := eb
              have hlt : SL S θ σ b' := .inr ⟨nm, _, by rw [hs]; trivial, h2⟩
              refine RepP.cptr row b' (i * m') j (fun q => c.getD (i * m' + q) default) hlt (fun q v hv => ?_) (fun q v hv => ?_)
              · obtain ⟨y, hy, _⟩ := h6 i q row v hrow hv
                have hi := (Array.getElem?_eq_some_iff.1 hy).1
                simp [World.cell?, h3, Array.getD, hi]
              · obtain ⟨y, hy, hr⟩ := h6 i q row v hrow hv
                have hi := (Array.getElem?_eq_some_iff.1 hy)
                have e2 : c.getD (i * m' + q) default = y := by simp [Array.getD, hi.1, hi.2]
                rw [e2]; exact hr.mono (fun _ _ => rfl) (fun _ h => .inl h)
      | _ => exact .any _
    | msl nm gen i len x ho hn hg h1 =>
      simp only [Hm.er]
      cases hs : σ nm with
      | arr gen' rows =>
        simp only
        cases hgen : Nat.beq gen gen' with
        | false => exact .any _
        | true =>
          have e := Nat.eq_of_beq_eq_true hgen
          subst e
          simp only [cond_true]
          rcases h1 rows hs with ⟨b, m, cap, hb, hle, rfl, hcap, hlen⟩ | ⟨rfl, a, rfl⟩
          · have hk := hst.hblk nm
            rw [hs] at hk
            rcases hk with ⟨h2, _⟩ | ⟨b', m', c, e, h2, h3, h4, h5, h6⟩
            · rw [hb] at h2; cases h2
            · have eb : b' = b ∧ m' = m := by rw [hb] at h2; simp at h2; exact ⟨h2.1.symm, h2.2.symm⟩
              obtain ⟨rfl, rfl⟩ := eb
              have hlt : SL S θ σ b' := .inr ⟨nm, _, by rw [hs]; trivial, h2⟩
              have hl : ((rows.drop i).take len).length = len := by simp; omega
              have hget : ∀ q row, ((rows.drop i).take len)[q]? = some row → rows[i + q]? = some row := by
                intro q row hq
                rw [List.getElem?_take] at hq
                split at hq
                · rwa [List.getElem?_drop] at hq
                · cases hq
              have := RepP.sl (w := w) (S := SL S θ σ) ((rows.drop i).take len) b' (i * m') cap m' (fun q j => c.getD ((i + q) * m' + j) default) hlt (by omega)
                (fun row hr => h4 row (List.mem_of_mem_drop (List.mem_of_mem_take hr)))
                (fun q j row v h7 h8 => by
                  obtain ⟨y, hy, _⟩ := h6 (i + q) j row v (hget q row h7) h8
                  have hi := (Array.getElem?_eq_some_iff.1 hy).1
                  have e1 : i * m' + q * m' + j = (i + q) * m' + j := by rw [Nat.add_mul]
                  rw [e1]
                  simp [World.cell?, h3, Array.getD, hi])
                (fun q j row v h7 h8 => by
                  obtain ⟨y, hy, hr⟩ := h6 (i + q) j row v (hget q row h7) h8
                  have hi := (Array.getElem?_eq_some_iff.1 hy)
                  have e2 : c.getD ((i + q) * m' + j) default = y := by simp [Array.getD, hi.1, hi.2]
                  rw [e2]; exact hr.mono (fun _ _ => rfl) (fun _ h => .inl h))
              rw [hl] at this
              exact this
          · simpa using RepP.emp a 0
      | _ => exact .any _
    | own nm rows b off cap m ys hn hb hcap hw hc hr hf =>
      simp only [Hm.er]
      cases rows with
      | nil => exact .emp _ _
      | cons row rest =>
        have hlt : SL S θ σ b := by
          rcases hb with hb | ⟨m', k, hb, hk, _⟩
          · exact .inl hb
          · exact .inr ⟨nm, m', live_vec hk, hb⟩
        exact .sl (row :: rest) b off cap m ys hlt hcap hw hc fun i j row v h1 h2 => (hr i j row v h1 h2).mono (fun _ _ => rfl) (fun _ h => .inl h)
    | ownemp nm a hn => exact .emp a 0
    | cptro nm row b o j ys hn hb hc hr =>
      simp only [Hm.er]
      have hlt : SL S θ σ b := by
        rcases hb with hb | ⟨m', k, hb, hk, _⟩
        · exact .inl hb
        · exact .inr ⟨nm, m', live_vec hk, hb⟩
      exact .cptr row b o j ys hlt hc fun i v h1 => (hr i v h1).mono (fun _ _ => rfl) (fun _ h => .inl h)
    | rnd => exact .any _
theorem Rep.bptr_inv {nm j : Nat} {row : V} {x : Value} (h : Rep w S θ σ l (.bptr nm j) x) (hσ : σ nm = .box row) : ∃ b m, θ nm = some (b, m) ∧ x = .pointer (some ⟨b, j, none⟩) := by
  cases h with
  | pure h1 => cases h1
  | bptr _ _ _ _ hn h1 => exact h1 row hσ
theorem res_one (hs : St J w S F θ σ l g) (he : EnvRep w S θ σ l ρ a.tmps) {x : ResultVar} {y : RVar} {v : V} (hc : chkRes P x y = true) (hv : resVal ρ σ y = some v) :
    ∃ u, (match x with
      | .tmp t => (pure (a.tmps.getD t undef) : Sem Value)
      | .cell c t => do loadVar t (← asAddr (a.tmps.getD c undef))).run P w = .ok u w ∧ Rep w S θ σ l v u := by
  cases x with
  | tmp t =>
    cases y with
    | tmp t' =>
      have e := Nat.eq_of_beq_eq_true hc
      subst e
      simp only [resVal, Option.some.injEq] at hv
      subst hv
      exact ⟨_, by simp, he t⟩
    | cell _ _ _ => cases hc
  | cell c T =>
    cases y with
    | tmp _ => cases hc
    | cell agg size c' =>
      simp only [chkRes, Bool.and_eq_true, beq_iff_eq] at hc
      obtain ⟨⟨⟨⟨h1, h2⟩, h3⟩, h4⟩, h5⟩ := hc
      have e := Nat.eq_of_beq_eq_true h1
      subst e
      have hr := he c
      have fin : ∀ {row : V} {b oo j : Nat} {ys : Nat → Value}, a.tmps.getD c undef = .pointer (some ⟨b, oo + j, none⟩) → ldrow agg size j row = some v →
          (∀ (i : Nat) (u : V), row.cells[i]? = some u → w.cell? ⟨b, oo + i, none⟩ = some (ys i) ∧ Rep w S θ σ l u (ys i)) → ∃ u, (do loadVar T (← asAddr (a.tmps.getD c undef)) : Sem Value).run P w = .ok u w ∧ Rep w S θ σ l v u := by
        intro row b oo j ys e hld hcell
        obtain ⟨x, hrun, hrep⟩ := load_run hld h2 h3 h4 h5 hcell
        refine ⟨x, ?_, hrep⟩
        rw [e]
        simp [Instr.loadAt, Instr.sureAddr] at hrun
        simpa [asAddr] using hrun
      simp only [resVal] at hv
      split at hv
      · rename_i nm j hρ
        rw [hρ] at hr
        split at hv
        · rename_i row hσ
          obtain ⟨b, m, hb, e⟩ := hr.bptr_inv hσ
          have hk := hs.hblk nm
          rw [hσ] at hk
          obtain ⟨b', c2, e', k2, k3, k4, k5⟩ := hk
          have eb : b' = b := by rw [hb] at k2; simp at k2; exact k2.1.symm
          subst eb
          refine fin (oo := 0) (ys := fun i => c2.getD i default) (by rw [e, Nat.zero_add]) hv fun i u hu => ?_
          obtain ⟨y, hy, hr⟩ := k5 i u hu
          have hi := Array.getElem?_eq_some_iff.1 hy
          have e2 : c2.getD i default = y := by simp [Array.getD, hi.1, hi.2]
          rw [e2]
          exact ⟨by simpa [World.cell?, k3] using hy, hr⟩
        · cases hv
      · rename_i row j hρ
        rw [hρ] at hr
        obtain ⟨b, oo, ys, e1, h6, _⟩ := hr.cptr_inv
        exact fin e1 hv (fun i u hu => ⟨(h6 i u hu).1, .pure (h6 i u hu).2⟩)
      · cases hv
def readVar (tmps : Array Value) : ResultVar → Sem Value
  | .tmp t => pure (tmps.getD t undef)
  | .cell c t => do loadVar t (← asAddr (tmps.getD c undef))
theorem res_list (hs : St J w S F θ σ l g) (he : EnvRep w S θ σ l ρ a.tmps) : ∀ {xs : List ResultVar} {ys : List RVar} {vs : List V}, chkRess P xs ys = true → resAll ρ σ ys = some vs →
    ∃ us, (xs.mapM (readVar a.tmps)).run P w = .ok us w ∧ Reps (Rep w S θ σ l) vs us
  | [], [], vs, _, hv => by
    simp only [resAll, Option.some.injEq] at hv
    subst hv
    exact ⟨[], by simp, rfl, fun i v x h => by simp at h⟩
  | x :: xs, y :: ys, vs, hc, hv => by
    simp only [chkRess, Bool.and_eq_true] at hc
    simp only [resAll] at hv
    split at hv
    · rename_i v vs' h1 h2
      simp only [Option.some.injEq] at hv
      subst hv
      obtain ⟨u, k1, k2⟩ := res_one (P := P) hs he hc.1 h1
      obtain ⟨us, k3, k4, k5⟩ := res_list hs he hc.2 h2
      have k1' : (readVar a.tmps x).run P w = .ok u w := by cases x <;> exact k1
      refine ⟨u :: us, by simp [List.mapM_cons, Sem.run_bind, k1', k3, Result.andThen], by simp [k4], fun i v' x' h3 h4 => ?_⟩
      cases i with
      | zero => simp at h3 h4; subst h3 h4; exact k2
      | succ i => exact k5 i v' x' (by simpa using h3) (by simpa using h4)
    · cases hv
  | [], _ :: _, _, hc, _ => by simp [chkRess] at hc
  | _ :: _, [], _, hc, _ => by simp [chkRess] at hc
theorem res_run {fn : Func} {rs : List RVar} {vs : List V} (hs : St J w S F θ σ l g) (he : EnvRep w S θ σ l ρ a.tmps) (hc : chkRess P fn.results.toList rs = true) (hv : resAll ρ σ rs = some vs) :
    ∃ u, (results fn a.tmps).run P w = .ok u w ∧ Rep w S θ σ l (finV vs) u := by
  obtain ⟨us, k1, k2, k3⟩ := res_list (P := P) hs he hc hv
  have e : results fn a.tmps = (List.toArray <$> (fn.results.toList.mapM (readVar a.tmps))) >>= fun vs => pure (if h : vs.size = 1 then vs[0] else .tuple vs) := by
    rw [← Array.mapM_eq_mapM_toList]
    unfold results
    congr 1
  rw [e]
  refine ⟨if h : us.toArray.size = 1 then us.toArray[0] else .tuple us.toArray, by simp [k1, Result.andThen], ?_⟩
  by_cases h : us.toArray.size = 1
  · rw [dif_pos h]
    simp only [List.size_toArray] at h
    cases us with
    | nil => simp at h
    | cons u us =>
      cases us with
      | cons _ _ => simp at h
      | nil =>
        cases vs with
        | nil => simp at k2
        | cons v vs =>
          cases vs with
          | cons _ _ => simp at k2
          | nil => exact k3 0 v u rfl rfl
  · rw [dif_neg h]
    have hf : finV vs = .tup vs := by
      simp only [List.size_toArray] at h
      cases vs with
      | nil => rfl
      | cons v vs =>
        cases vs with
        | cons _ _ => rfl
        | nil => simp at k2; omega
    rw [hf]
    exact .tup vs us k2 k3
theorem leaves_marks {fn : Func} {rs : List RVar} {vs : List V} {R : Ending → World → Prop} (hst : Stable J) (hc : chkRess P fn.results.toList rs = true) (hv : resAll ρ σ rs = some vs) : ∀ (ds : List Deferred) {w : World}, St J w S F θ σ l g → EnvRep w S θ σ l ρ a.tmps → DefOk w S F θ σ ds →
    (∀ (w' : World) (u : Value), St J w' S F θ σ l g → Rep w' S θ σ l (finV vs) u → w'.heap.size = w.heap.size → w'.os = w.os → w'.tape = w.tape → Out w w' →
      (∀ b, (∀ d ∈ ds, d.target ≠ .collected b) → w'.heap[b]? = w.heap[b]?) → R (.returned u) w') → LeavesInM Fence.wide 0 P fn a.tmps R ds .returning w
  | [], w, hs, he, _, hR => by
    obtain ⟨u, k1, k2⟩ := res_run (P := P) hs he hc hv
    exact ⟨u, k1, hR w u hs k2 rfl rfl rfl (Out.refl _) (fun _ _ => rfl)⟩
  | d :: ds, w, hs, he, ⟨⟨r, h1, h2, h3, h4, h5, h6⟩, h7⟩, hR => by
    have hstay : Stays w S F θ σ (w.putObj r (.deferred none)) S := Stays.set hs (by simp) (fun b hb => World.putObj_heap_other hb) h2 (by intro c e fr h; cases h) rfl rfl (Out.refl _) h3 h4 h5
    refine ⟨(by intro h; cases h), .inl ⟨r, _, h1, run_takeDeferred h2, ?_⟩⟩
    have key : ∀ ds : List Deferred, (∀ d' ∈ ds, d'.target ≠ .collected r) → DefOk w S F θ σ ds → DefOk (w.putObj r (.deferred none)) S F θ σ ds := by
      intro ds
      induction ds with
      | nil => intro _ _; trivial
      | cons d ds ih =>
        rintro hne ⟨⟨r', k1, k2, k3, k4, k5, k6⟩, k7⟩
        exact ⟨⟨r', k1, by rw [World.putObj_heap_other (fun e => hne d (by simp) (by rw [k1, e]))]; exact k2, k3, k4, k5, k6⟩, ih (fun d' hd' => hne d' (by simp [hd'])) k7⟩
    refine leaves_marks hst hc hv ds (hstay.st hst hs) (fun t => hstay.rep hs (he t)) (key ds h6 h7) fun w' u k1 k2 k3 k4 k5 k6 k7 => ?_
    refine hR w' u k1 k2 (by simpa using k3) k4 k5 k6 fun b hb => ?_
    rw [k7 b (fun d' hd' => hb d' (by simp [hd'])), World.putObj_heap_other (fun e => hb d (by simp) (by rw [h1, e]))]
end
section
variable {G : Type} {J : JT G} {w w' w'' : World} {S F S' F' S'' F'' : Nat → Prop} {θ θ' θ'' : Names} {σ σ' σ'' : Store} {l n : Nat} {g g' : G}
variable {P : Program} {o : Oper} {a : Act} {ρ : Env} {H : HT G} {s0 : Start}
theorem env_start {args : List V} {xs : List Value} (m : Nat) (h : Reps (Rep w S θ σ l) args xs) : EnvRep w S θ σ l (env0 args) (xs.toArray ++ Array.replicate m undef) := by
  intro t
  unfold env0
  by_cases ht : t < args.length
  · have h1 : args[t]? = some args[t] := List.getElem?_eq_getElem ht
    have h2 : t < xs.length := by rw [← h.1]; exact ht
    have h3 : xs[t]? = some xs[t] := List.getElem?_eq_getElem h2
    have e : (xs.toArray ++ Array.replicate m undef).getD t undef = xs[t] := by
      rw [Array.getD_eq_getD_getElem?, Array.getElem?_append_left (by simpa using h2)]
      simp [h3]
    rw [h1, e]
    exact h.2 t _ _ h1 h3
  · rw [List.getElem?_eq_none (by omega)]
    have e : (xs.toArray ++ Array.replicate m undef).getD t undef = undef := by
      have h3 : xs.toArray.size ≤ t := by have := h.1; simp; omega
      rw [Array.getD_eq_getD_getElem?, Array.getElem?_append_right h3, Array.getElem?_replicate]
      split <;> rfl
    rw [e]
    exact rep_undef
theorem fn_parts {f : Nat} {rs : List RVar} {c : Cmd} (h : chkFn P f n rs c = true) : ∃ fn code, P.funcs[f]? = some fn ∧ fn.body = some code ∧ fn.ntmps = n ∧ chkRess P fn.results.toList rs = true ∧ chk P n false c code = true ∧ callable P f = true := by
  unfold chkFn at h
  split at h
  · rename_i fn hf
    simp only [Bool.and_eq_true] at h
    obtain ⟨⟨⟨h1, h2⟩, h3⟩, h4⟩ := h
    split at h4
    · rename_i code hb
      refine ⟨fn, code, hf, hb, Nat.eq_of_beq_eq_true h2, h3, h4, ?_⟩
      unfold callable
      rw [hf]
      simp only [Bool.and_eq_true]
      exact ⟨h1, by rw [hb]; rfl⟩
    · cases h4
  · cases h
theorem noH_hok (J : JT Unit) (l : Nat) : HokS P J noH l := fun _ _ _ _ _ _ _ _ _ h => h.elim
theorem noH_mono : MonoH (noH (G := Unit)) := fun _ _ _ _ _ h => h.elim
def glJ : JT Unit := fun _ w S _ => GL w S
theorem Fn.intro {f : Nat} {rs : List RVar} {c : Cmd} {args : List V} {r : V} (hmix : P.follows .mixedOrders = true) (hc : chkFn P f n rs c = true) (haw : AW (G := Unit) P noH [] c (env0 args) σ0 () (fnPost rs r)) : Fn P f args r := by
  obtain ⟨fn, code, hf, hb, hn, hres, hchk, hcb⟩ := fn_parts hc
  refine ⟨hcb, fun w S xs hS hgl hargs => ?_⟩
  refine callsIn_of_wp_marks hf hb trivial ?_
  have hst : Stable glJ := ⟨fun _ _ _ _ h => h, fun _ w S _ w' S' h _ _ h1 h2 _ _ _ _ _ _ => GL.same h (fun b hb => h1 b (.inl hb)) h2⟩
  have hs : St glJ w S (fun _ => False) θ0 σ0 0 () := ⟨hS, fun nm => rfl, fun _ _ _ _ _ h => h.elim, fun b hb => by obtain ⟨nm, m, h1, _⟩ := hb; exact h1.elim, fun b hb => hb.elim, hgl⟩
  have hcur : Cur glJ 0 n ⟨w, S, fun _ => False, θ0, σ0⟩ w S (fun _ => False) θ0 σ0 () (env0 args) { tmps := xs.toArray ++ Array.replicate (fn.ntmps - xs.toArray.size) undef, defers := [] } :=
    ⟨hs, env_start _ ⟨hargs.1, fun i v x h1 h2 => .pure (hargs.2 i v x h1 h2)⟩, by simp; omega, Fr.refl _ _ _ _ _, trivial, fun d hd => by cases hd⟩
  refine wpIn_mono (aw_sound hmix c false code hchk glJ 0 hst noH_mono (noH_hok _ _) none (fun _ => rfl) [] _ _ _ _ ⟨w, S, fun _ => False, θ0, σ0⟩ w S _ θ0 _ (fun nm h => absurd rfl h) hcur haw) fun e a' w' hp => ?_
  obtain ⟨hex, ρ', σ', g', S', F', θ', ⟨hok, vs, hvs, rfl⟩, hc'⟩ := hp
  have key : LeavesInM Fence.wide 0 P fn a'.tmps (fun e w' => ∃ x' S', e = .returned x' ∧ RepP w' S' (er σ' 6 (finV vs)) x' ∧ (∀ b, S' b → S b ∨ w.heap.size ≤ b) ∧ (∀ b, S' b → b < w'.heap.size) ∧ Grow w w') a'.defers .returning w' := by
    refine leaves_marks hst hres hvs a'.defers hc'.st hc'.env hc'.de fun w2 u k1 k2 k3 k4 k5 k6 k7 => ?_
    have k := hc'.fr
    have hnoL : ∀ b, LiveB θ' σ' b → w.heap.size ≤ b := fun b hb => by
      by_cases hlt : b < w.heap.size
      · obtain ⟨nm, m, h1, _⟩ := k.live b hb hlt
        exact h1.elim
      · omega
    refine ⟨u, _, rfl, Rep.er2 k1 k2 6, fun b hb => ?_, fun b hb => ?_, ?_⟩
    · rcases hb with hb | hb
      · rcases k.snew b hb with h1 | ⟨nm, m, h1, _⟩ | h1 | h1
        · exact .inl h1
        · exact h1.elim
        · exact h1.elim
        · exact .inr h1
      · exact .inr (hnoL b hb)
    · rcases hb with hb | ⟨nm, m, h1, h2⟩
      · exact k1.hS b hb
      · exact live_lt k1 h1 h2
    · refine ⟨by have := k.size; simp only at this; omega, k4.trans k.os, k5.trans k.tape, k6.trans k.output, fun b hb => ?_⟩
      have hsame : w'.heap[b]? = w.heap[b]? := k.same b hb (fun ⟨nm, m, h1, _⟩ => h1) (fun h => h)
      rw [k7 b (fun d hd e => ?_), hsame]
      have := hc'.dn d hd b e
      simp only at this
      omega
  cases e with
  | normal => exact key
  | ret => exact key
  | exit id => cases hok
  | goto _ => cases hok
  | panic _ => cases hok
  | outgrown => cases hok
end
def ctPost {G : Type} (pn : List Nat) (rs : List RVar) (K : V → Store → G → Prop) : Exit → Env → Store → G → Prop := fun e ρ σ' g' =>
  okE e = true ∧ ∃ vs, resAll ρ σ' rs = some vs ∧ closedB pn (finV vs) = true ∧ closedSt pn σ' pn = true ∧ K (finV vs) (restr pn σ') g'
section
variable {G : Type} {J : JT G} {w w' w'' : World} {S F S' F' S'' F'' : Nat → Prop} {θ θ' θ'' : Names} {σ σ' σ'' : Store} {l n : Nat} {g g' : G}
variable {P : Program} {o : Oper} {a : Act} {ρ : Env} {H : HT G} {s0 : Start}
theorem marks_fr {w0 : World} {S0 F0 : Nat → Prop} {θ0' : Names} {σ0' : Store} (h : Cur J l n ⟨w0, S0, F0, θ0', σ0'⟩ w S F θ σ g ρ a) (hs0 : ∀ nm b m, (σ0' nm).live → θ0' nm = some (b, m) → b < w0.heap.size) (hsz : w'.heap.size = w.heap.size) (hos : w'.os = w.os) (ht : w'.tape = w.tape) (ho : Out w w')
    (hk : ∀ b, (∀ d ∈ a.defers, d.target ≠ .collected b) → w'.heap[b]? = w.heap[b]?) : Fr w0 S0 F0 θ0' σ0' w' S F θ σ := by
  have k := h.fr
  have hold : ∀ b, b < w0.heap.size → w'.heap[b]? = w.heap[b]? := fun b hb => hk b fun d hd e => by
    have := h.dn d hd b e
    simp only at this
    omega
  exact {
    size := by have := k.size; simp only at this; omega
    os := hos.trans k.os
    tape := ht.trans k.tape
    output := ho.trans k.output
    same := fun b hb hl hF => by rw [hold b hb]; exact k.same b hb hl hF
    sized := fun b c e fr hc => by
      rw [hold b (Array.getElem?_eq_some_iff.1 hc).1]
      exact k.sized b c e fr hc
    vecs := fun nm q b m h1 h2 j hj => by
      have h3 := k.vecs nm q b m h1 h2 j hj
      rw [← h3]
      exact cell_of_heap (hold b (hs0 nm b m (live_vec h1) h2))
    smono := k.smono
    snew := k.snew
    live := k.live
    fsub := k.fsub
    kdead := k.kdead
    kbox := k.kbox
    karr := k.karr
    kvec := k.kvec }
theorem CT.intro {f : Nat} {rs : List RVar} {c : Cmd} {args : List V} {K : V → Store → G → Prop} (pn : List Nat) (hmix : P.follows .mixedOrders = true) (hc : chkFn P f n rs c = true)
    (hpn : ∀ nm, σ nm ≠ .unused → nm ∈ pn) (haw : MonoH H → AW P H pn c (env0 args) σ g (ctPost pn rs K)) : CT P H f args pn σ g K := by
  obtain ⟨fn, code, hf, hb, hn, hres, hchk, hcb⟩ := fn_parts hc
  refine ⟨hcb, fun J l hst hM hH w S F θ xs hs hargs => ?_⟩
  refine callsIn_of_wp_marks hf hb trivial ?_
  have hcur : Cur J l n ⟨w, S, F, θ, σ⟩ w S F θ σ g (env0 args) { tmps := xs.toArray ++ Array.replicate (fn.ntmps - xs.toArray.size) undef, defers := [] } :=
    ⟨hs, env_start _ hargs, by simp; omega, Fr.refl _ _ _ _ _, trivial, fun d hd => by cases hd⟩
  refine wpIn_mono (aw_sound hmix c false code hchk J l hst hM hH none (fun _ => rfl) pn _ _ _ _ ⟨w, S, F, θ, σ⟩ w S _ θ _ hpn hcur (haw hM)) fun e a' w' hp => ?_
  obtain ⟨hex, ρ', σ', g', S', F', θ', ⟨hok, vs, hvs, hcl, hcs, hK⟩, hc'⟩ := hp
  have key : LeavesInM Fence.wide 0 P fn a'.tmps (fun e w' => ∃ r x' σ' g' S' F' θ', e = .returned x' ∧ K r σ' g' ∧ St J w' S' F' θ' σ' l g' ∧ Rep w' S' θ' σ' l r x' ∧ Fr w S F θ σ w' S' F' θ' σ' ∧ ∀ nm, nm ∉ pn → σ' nm = .unused) a'.defers .returning w' := by
    refine leaves_marks hst hres hvs a'.defers hc'.st hc'.env hc'.de fun w2 u k1 k2 k3 k4 k5 k6 k7 => ?_
    refine ⟨finV vs, u, restr pn σ', g', S', F', restrN pn θ', rfl, hK, ?_, ?_, ?_, fun nm hu => ?_⟩
    · exact k1.restr (fun nm hm => restr_in hm) (fun nm hm => restr_out hm) (fun nm hm row hrow => (closedSt_iff pn σ' pn).1 hcs nm hm row hrow)
    · exact k2.restr (fun nm hm => restr_in hm) hcl
    · exact (marks_fr hc' (fun nm b m h1 h2 => live_lt hs h1 h2) k3 k4 k5 k6 k7).drop hpn (fun nm hm => restr_in hm) (fun nm hm => restr_out hm)
    · exact (restr_out (θ := θ') hu).1
  cases e with
  | normal => exact key
  | ret => exact key
  | exit id => cases hok
  | goto _ => cases hok
  | panic _ => cases hok
  | outgrown => cases hok
end
end Hm
end
