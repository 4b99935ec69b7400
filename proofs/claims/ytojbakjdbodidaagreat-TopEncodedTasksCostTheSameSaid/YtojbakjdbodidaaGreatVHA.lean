/- Part VHA of the proof. -/
import Derived.Test.YtojbakjdbodidaaGreatVPB
import Derived.Shelf.Sort.Plain
import Derived.Shelf.SlSortCmp.Whole1
set_option linter.unusedVariables false
set_option linter.unusedSimpArgs false
section
namespace Hm
open Go
theorem ct_of_fn {G : Type} {P : Program} {H : HT G} {f : Nat} {args : List V} {r : V} {pn : List Nat} {σ : Store} {g : G} (h : Fn P f (args.map (er σ 6)) r) (hfl : flatB r = true) (hpn : ∀ nm, nm ∉ pn → σ nm = .unused) :
  CT P H f args pn σ g fun v σ' g' => v = r ∧ σ' = σ ∧ g' = g :=
 ⟨h.1, fun J l hst hM hH w S F θ xs hs hargs => by
  have hcall := h.2 w (All w) _ (fun b hb => hb) ((hst.1 _ _ _ _ hs.hJ).same (fun _ _ => rfl) hs.hS) (reps_map hargs (fun v x _ hr => hr.er hs 6))
  refine hcall.mono fun e w' he' => ?_
  obtain ⟨x', S', rfl, hr, hS1, hS2, hg⟩ := he'
  exact ⟨r, x', σ, g, _, F, θ, rfl, ⟨rfl, rfl, rfl⟩, St.grow hst hs hg (N := fun _ => False) (fun b hb => hb.elim) (fun b hb => hb.elim), .pure (hr.flat hfl), Fr.grow hs hg (fun b hb => hb.elim), hpn⟩⟩
theorem putRow_set (w : World) (b : Nat) (c : Array Value) (e : TypeId) (fr : Nat × Nat) (d : Array Int) (hb : w.heap[b]? = some (.cells c e fr)) :
  Sort.putRow (Value.int .i64) w b 0 d = w.setRow b (Sort.putCells (Value.int .i64) 0 d c) := by
 unfold Sort.putRow Sort.mapBlock World.setRow
 congr 1
 apply Array.ext_getElem?
 intro k
 simp only [Array.getElem?_modify]
 by_cases hk : b = k
 · subst hk
   simp [hb, Sort.onCells]
 · simp [hk]
theorem putCells_get (d : Array Int) (c : Array Value) (j : Nat) : (Sort.putCells (Value.int .i64) 0 d c)[j]? = (c[j]?).map fun x => if j < d.size then Value.int .i64 d[j]! else x := by
 unfold Sort.putCells
 rw [Array.getElem?_mapIdx]
 simp
theorem ups_same {σ : Store} {nm : Nat} {b : Blk} (h : σ nm = b) : ups σ nm b = σ := by
 funext k
 unfold ups
 cases hb : Nat.beq k nm with
 | true => have := Nat.eq_of_beq_eq_true hb; subst this; exact h.symm
 | false => rfl
theorem ct_sort {G : Type} {P : Program} {H : HT G} {ρ : Shelf.Ren} (Ly : Go.Proofs.Lays.n189 P ρ) (nm gen : Nat) (l : List Int) {pn : List Nat} {σ : Store} {g : G} (hw : wd nm = 1) (hσ : σ nm = .arr gen (l.map i64V)) (hpn : ∀ nm', nm' ∉ pn → σ nm' = .unused)
  (h0 : Fn P (ρ.f 189) [.sl .p []] (.tup [])) (hsz : l.length < 4611686018427387904) :
  CT P H (ρ.f 189) [.msl nm gen 0 l.length] pn σ g fun v σ' g' => v = .tup [] ∧ σ' = ups σ nm (.arr gen ((srtL l).map i64V)) ∧ g' = g := by
 by_cases hl : l = []
 · subst hl
   have := ct_of_fn (G := G) (H := H) (P := P) (f := ρ.f 189) (args := [.msl nm gen 0 0]) (r := .tup []) (pn := pn) (σ := σ) (g := g) (by simpa [er, hσ] using h0) rfl hpn
   refine CT_mono (fun v σ' g' h => ?_) this
   refine ⟨h.1, ?_, h.2.2⟩
   rw [h.2.1]
   exact (ups_same (by simpa [srtL] using hσ)).symm
 refine ⟨h0.1, fun J lc hst hM hH w S F θ xs hs hargs => ?_⟩
 obtain ⟨hlen, hrep⟩ := hargs
 match xs, hlen with
 | [x], _ =>
 have hx := hrep 0 _ x rfl rfl
 have hlen0 : 0 < l.length := List.length_pos_iff.2 hl
 obtain ⟨b, m, cap, hθ, hcap, rfl, hck, hle⟩ : ∃ b m cap, θ nm = some (b, m) ∧ l.length ≤ cap ∧ x = .slice (some ⟨b, 0 * m, none⟩) l.length cap ∧ CapOk w b ((0 + cap) * m) ∧ 0 + l.length ≤ (l.map i64V).length := by
  cases hx with
  | pure h => cases h
  | msl _ _ _ _ _ _ _ _ h =>
   rcases h _ hσ with h | ⟨h, _⟩
   · exact h
   · omega
 have hlv : (σ nm).live := live_arr hσ
 have hblk := hs.hblk nm
 rw [hσ] at hblk
 simp only [BlkOk] at hblk
 rcases hblk with ⟨hn, _⟩ | ⟨b', m', c, e, hθ', hb, hrows, ⟨hm, hsz'⟩, hcells⟩
 · rw [hθ] at hn; cases hn
 rw [hθ] at hθ'
 injection hθ' with hθ'
 injection hθ' with e1 e2
 subst e1 e2
 rw [hw] at hm
 subst hm
 have hgl : b < w.heap.size := (Array.getElem?_eq_some_iff.1 hb).1
 have hcs : l.length ≤ c.size := by simpa using hsz'
 have hcell : ∀ j (hj : j < l.length), c[j]? = some (.int .i64 l[j]) := by
  intro j hj
  obtain ⟨y, h1, h2⟩ := hcells j 0 (i64V l[j]) (i64V l[j]) (by rw [List.getElem?_map, List.getElem?_eq_getElem hj]; rfl) rfl
  cases h2
  simpa using h1
 have hH : Sort.Holds (Value.int .i64) w b 0 l.toArray := by
  intro j hj
  have hj' : j < l.length := by simpa using hj
  refine ⟨?_, ?_⟩
  · rw [Nat.zero_add, cell_of_row w b j c e (0, 0) hb, hcell j hj']
    simp [hj']
  · simp [World.frozen?, hb]
 have hcall := (callsIn_wide (n := 0)).2 (Go.Proofs.Any.slices_Sort_int Ly b 0 cap l w hH hgl hsz)
 simp only [Nat.zero_mul]
 refine hcall.mono fun en w' he' => ?_
 obtain ⟨rfl, n, os, rfl⟩ := he'
 have hg1 : Grow w (Sort.ahead w n) := ⟨Nat.le_refl _, rfl, rfl, ⟨rfl, by first | exact Nat.le_refl _ | exact Nat.le_add_right _ _ | (unfold Sort.ahead; simp)⟩, fun _ _ => rfl⟩
 have hs1 := St.grow hst hs hg1 (N := fun _ => False) (fun b hb => hb.elim) (fun b hb => hb.elim)
 have hf1 := Fr.grow hs hg1 (N := fun _ => False) (fun b hb => hb.elim)
 have hb1 : (Sort.ahead w n).heap[b]? = some (.cells c e (0, 0)) := hb
 have hsl : (srtL l).length = l.length := srtL_len l
 rw [show (l.mergeSort fun x y => decide (x ≤ y)) = srtL l from rfl, putRow_set _ b c e (0, 0) _ hb1]
 generalize hc' : Sort.putCells (Value.int .i64) 0 (srtL l).toArray c = c'
 have hcz : c'.size = c.size := by rw [← hc']; simp [Sort.putCells]
 have hf2 : Fr (Sort.ahead w n) (fun b => S b ∨ False) F θ σ ((Sort.ahead w n).setRow b c') (fun b => S b ∨ False) F θ (ups σ nm (.arr gen ((srtL l).map i64V))) := by
  refine Fr.write hs1 nm b 1 c c' e _ hlv hθ hb1 hcz ?_
  rw [hσ]
  exact ⟨(srtL l).map i64V, .inl ⟨rfl, by simp [hsl]⟩⟩
 have hk : BlkOk ((Sort.ahead w n).setRow b c') (fun b => S b ∨ False) θ (ups σ nm (.arr gen ((srtL l).map i64V))) lc nm (.arr gen ((srtL l).map i64V)) := by
  refine .inr ⟨b, 1, c', e, hθ, setRow_heap _ b c c' _ _ hb1, fun row hrow => ?_, ⟨hw.symm, by simp [hsl, hcz]; exact hcs⟩, fun i j row v h1 h2 => ?_⟩
  · obtain ⟨_, _, rfl⟩ := List.mem_map.1 hrow; rfl
  · rw [List.getElem?_map] at h1
    cases h3 : (srtL l)[i]? with
    | none => rw [h3] at h1; cases h1
    | some z =>
     rw [h3] at h1
     cases h1
     have hi : i < (srtL l).length := get_lt h3
     cases j with
     | succ j => cases h2
     | zero =>
      cases h2
      refine ⟨.int .i64 z, ?_, .int _ _⟩
      rw [Nat.mul_one, Nat.add_zero, ← hc', putCells_get, hcell i (by omega)]
      have h4 : i < l.length := by omega
      simp only [Option.map_some, List.size_toArray, hsl, if_pos h4]
      rw [getElem!_pos _ i (by simpa using hi)]
      simp [(List.getElem?_eq_some_iff.1 h3).2]
 have hs2 := St.write hst hs1 nm b 1 c' _ hlv hθ hf2 hk
 have hg3 : Grow ((Sort.ahead w n).setRow b c') (Sort.grow ((Sort.ahead w n).setRow b c') os) :=
  ⟨by simp [Sort.grow], rfl, rfl, ⟨rfl, by first | exact Nat.le_refl _ | (unfold Sort.grow; simp)⟩, fun b' hb' => by simp [Sort.grow, Array.getElem?_append_left hb']⟩
 have hs3 := St.grow hst hs2 hg3 (N := fun _ => False) (fun b hb => hb.elim) (fun b hb => hb.elim)
 have hf3 := Fr.grow hs2 hg3 (N := fun _ => False) (fun b hb => hb.elim)
 refine ⟨.tup [], _, _, g, _, F, θ, rfl, ⟨rfl, rfl, rfl⟩, hs3, .pure (.tup [] [] rfl fun i v x h1 h2 => by simp at h1), (hf1.trans hs1 hf2).trans hs2 hf3, fun nm' hnm => ?_⟩
 have h5 : nm' ≠ nm := fun h => by rw [h] at hnm; have := hpn nm hnm; rw [this] at hσ; cases hσ
 rw [upt_ne σ _ h5]
 exact hpn nm' hnm
end Hm
end
section
namespace Go.Proofs
open Go.Shelf
def Tryz.sort_ren : Go.Shelf.Ren := ⟨fun | 189 => 165 | 125 => 53 | 257 => 186 | 128 => 103 | 129 => 104 | 294 => 203 | 295 => 204 | 296 => 205 | 297 => 206 | 298 => 207 | 299 => 208 | 216 => 108 | 300 => 209 | 301 => 210 | 328 => 215 | 329 => 137 | 330 => 138 | 331 => 216 | 332 => 217 | 215 => 105 | 343 => 219 | n => n, fun | 28 => 22 | 3 => 3 | 46 => 126 | 0 => 0 | 51 => 88 | 53 => 204 | 4 => 4 | 183 => 197 | 182 => 196 | 131 => 132 | 5 => 5 | 9 => 9 | 218 => 247 | 222 => 251 | 228 => 279 | 229 => 73 | n => n, fun n => n⟩
theorem Tryz.sort_lays : Lays.n189 Tryz.prog Tryz.sort_ren :=
 {
  mixed := by kernel_rfl,
  f125 := Tryz.func53.trans (congrArg some (by kernel_rfl)),
  f128 := Tryz.func103.trans (congrArg some (by kernel_rfl)),
  f129 := Tryz.func104.trans (congrArg some (by kernel_rfl)),
  f189 := Tryz.func165.trans (congrArg some (by kernel_rfl)),
  f215 := Tryz.func105.trans (congrArg some (by kernel_rfl)),
  f216 := Tryz.func108.trans (congrArg some (by kernel_rfl)),
  f257 := Tryz.func186.trans (congrArg some (by kernel_rfl)),
  f294 := Tryz.func203.trans (congrArg some (by kernel_rfl)),
  f295 := Tryz.func204.trans (congrArg some (by kernel_rfl)),
  f296 := Tryz.func205.trans (congrArg some (by kernel_rfl)),
  f297 := Tryz.func206.trans (congrArg some (by kernel_rfl)),
  f298 := Tryz.func207.trans (congrArg some (by kernel_rfl)),
  f299 := Tryz.func208.trans (congrArg some (by kernel_rfl)),
  f300 := Tryz.func209.trans (congrArg some (by kernel_rfl)),
  f301 := Tryz.func210.trans (congrArg some (by kernel_rfl)),
  f328 := Tryz.func215.trans (congrArg some (by kernel_rfl)),
  f329 := Tryz.func137.trans (congrArg some (by kernel_rfl)),
  f330 := Tryz.func138.trans (congrArg some (by kernel_rfl)),
  f331 := Tryz.func216.trans (congrArg some (by kernel_rfl)),
  f332 := Tryz.func217.trans (congrArg some (by kernel_rfl)),
  f343 := Tryz.func219.trans (congrArg some (by kernel_rfl)),
  t0 := Tryz.underlying0,
  a0 := Tryz.isAgg0,
  z0 := Tryz.sizeOf0,
  v0 := Tryz.zeroValue0,
  t3 := Tryz.underlying3,
  a3 := Tryz.isAgg3,
  z3 := Tryz.sizeOf3,
  v3 := Tryz.zeroValue3,
  t4 := Tryz.underlying4,
  a4 := Tryz.isAgg4,
  z4 := Tryz.sizeOf4,
  v4 := Tryz.zeroValue4,
  t5 := Tryz.underlying5,
  a5 := Tryz.isAgg5,
  z5 := Tryz.sizeOf5,
  v5 := Tryz.zeroValue5,
  t9 := Tryz.underlying9,
  a9 := Tryz.isAgg9,
  z9 := Tryz.sizeOf9,
  v9 := Tryz.zeroValue9,
  t28 := Tryz.underlying22,
  a28 := Tryz.isAgg22,
  z28 := Tryz.sizeOf22,
  v28 := Tryz.zeroValue22,
  t46 := Tryz.underlying126,
  a46 := Tryz.isAgg126,
  z46 := Tryz.sizeOf126,
  v46 := Tryz.zeroValue126,
  t51 := Tryz.underlying88,
  a51 := Tryz.isAgg88,
  z51 := Tryz.sizeOf88,
  v51 := Tryz.zeroValue88,
  t53 := Tryz.underlying204,
  a53 := Tryz.isAgg204,
  z53 := Tryz.sizeOf204,
  v53 := Tryz.zeroValue204,
  t131 := Tryz.underlying132,
  a131 := Tryz.isAgg132,
  z131 := Tryz.sizeOf132,
  v131 := Tryz.zeroValue132,
  t182 := Tryz.underlying196,
  a182 := Tryz.isAgg196,
  z182 := Tryz.sizeOf196,
  v182 := Tryz.zeroValue196,
  t183 := Tryz.underlying197,
  a183 := Tryz.isAgg197,
  z183 := Tryz.sizeOf197,
  v183 := Tryz.zeroValue197,
  t218 := Tryz.underlying247,
  a218 := Tryz.isAgg247,
  z218 := Tryz.sizeOf247,
  v218 := Tryz.zeroValue247,
  t222 := Tryz.underlying251,
  a222 := Tryz.isAgg251,
  z222 := Tryz.sizeOf251,
  v222 := Tryz.zeroValue251,
  t228 := Tryz.underlying279,
  a228 := Tryz.isAgg279,
  z228 := Tryz.sizeOf279,
  v228 := Tryz.zeroValue279,
  t229 := Tryz.underlying73,
  a229 := Tryz.isAgg73,
  z229 := Tryz.sizeOf73,
  v229 := Tryz.zeroValue73 }
end Go.Proofs
namespace Hm
open Go
set_option maxRecDepth 100000
set_option maxHeartbeats 1000000
def c_math_bits_Len64 : Cmd :=
 (qS [qc 2 0]
 (qT (qS [qm 3 0, qq 4 (.bin .geq false [] (.t 3) (.c (.int .u64 4294967296)))]
 (.cond (.t 4) (qS [qm 5 0, qq 6 (.bin .shr false [] (.t 5) (.c (.int .u64 32))), qm 0 6]
 (.ops [qc 2 32])) .skip))
 (qT (qS [qm 7 0, qq 8 (.bin .geq false [] (.t 7) (.c (.int .u64 65536)))]
 (.cond (.t 8) (qS [qm 9 0, qq 10 (.bin .shr false [] (.t 9) (.c (.int .u64 16))), qm 0 10]
 (.ops [qm 11 2, qv 12 .add [] 11 16, qm 2 12])) .skip))
 (qT (qS [qm 13 0, qq 14 (.bin .geq false [] (.t 13) (.c (.int .u64 256)))]
 (.cond (.t 14) (qS [qm 15 0, qq 16 (.bin .shr false [] (.t 15) (.c (.int .u64 8))), qm 0 16]
 (.ops [qm 17 2, qv 18 .add [] 17 8, qm 2 18])) .skip))
 (.seq (.ops [qm 19 2, qm 20 0, qq 21 (.conv .u8 (.t 20)), qq 22 (.index (.c (.str [0, 1, 2, 2, 3, 3, 3, 3, 4, 4, 4, 4, 4, 4, 4, 4, 5, 5, 5, 5, 5, 5, 5, 5, 5, 5, 5, 5, 5, 5, 5, 5, 6, 6, 6, 6, 6, 6, 6, 6, 6, 6, 6, 6, 6, 6, 6, 6, 6, 6, 6, 6, 6, 6, 6, 6, 6, 6, 6, 6, 6, 6, 6, 6, 7, 7, 7, 7, 7, 7, 7, 7, 7, 7, 7, 7, 7, 7, 7, 7, 7, 7, 7, 7, 7, 7, 7, 7, 7, 7, 7, 7, 7, 7, 7, 7, 7, 7, 7, 7, 7, 7, 7, 7, 7, 7, 7, 7, 7, 7, 7, 7, 7, 7, 7, 7, 7, 7, 7, 7, 7, 7, 7, 7, 7, 7, 7, 7, 8, 8, 8, 8, 8, 8, 8, 8, 8, 8, 8, 8, 8, 8, 8, 8, 8, 8, 8, 8, 8, 8, 8, 8, 8, 8, 8, 8, 8, 8, 8, 8, 8, 8, 8, 8, 8, 8, 8, 8, 8, 8, 8, 8, 8, 8, 8, 8, 8, 8, 8, 8, 8, 8, 8, 8, 8, 8, 8, 8, 8, 8, 8, 8, 8, 8, 8, 8, 8, 8, 8, 8, 8, 8, 8, 8, 8, 8, 8, 8, 8, 8, 8, 8, 8, 8, 8, 8, 8, 8, 8, 8, 8, 8, 8, 8, 8, 8, 8, 8, 8, 8, 8, 8, 8, 8, 8, 8, 8, 8, 8, 8, 8, 8, 8, 8, 8, 8, 8, 8, 8, 8, 8, 8, 8, 8, 8, 8])) (.t 21)), qq 23 (.conv .i64 (.t 22)), qu 24 .add [] 19 23, qm 2 24]) .ret)))))
def r_math_bits_Len64 : List RVar := [.tmp 2]
def n_math_bits_Len64 : Nat := 25
theorem k_math_bits_Len64 : chkFn Go.Proofs.Tryz.prog 104 n_math_bits_Len64 r_math_bits_Len64 c_math_bits_Len64 = true := by kernel_rfl
theorem f_bits_Len64_0 : Fc Go.Proofs.Tryz.prog 104 [.int .u64 0] (.int .i64 0) := by
 refine Fn.step mixed k_math_bits_Len64 ?_
 repeat' (first | refine i_s rfl ?_ | refine sw ?_ | refine c_f rfl ?_ | refine jc rfl ?_ | fail)
 refine i_ix rfl rfl (by decide) (c := 0) (by decide +kernel) ?_
 skip
 refine i_conv (n := 0) rfl ⟨by decide, by decide⟩ ?_
 repeat' (first | refine i_s rfl ?_ | refine sw ?_ | refine ja rfl rfl ?_ | fail)
 exact e_ret ⟨rfl, _, rfl, rfl⟩
def c_math_bits_Len : Cmd :=
 (qS [qc 2 0]
 (qT (.cond (.c (.bool false)) (.seq (.ops [qm 3 0, qq 4 (.conv .u32 (.t 3)), qk 5 103 [4], qm 2 5]) .ret) .skip)
 (.seq (.ops [qm 6 0, qk 7 104 [6], qm 2 7]) .ret)))
def r_math_bits_Len : List RVar := [.tmp 2]
def n_math_bits_Len : Nat := 8
theorem k_math_bits_Len : chkFn Go.Proofs.Tryz.prog 53 n_math_bits_Len r_math_bits_Len c_math_bits_Len = true := by kernel_rfl
theorem f_bits_Len_0 : Fc Go.Proofs.Tryz.prog 53 [.int .u64 0] (.int .i64 0) := by
 refine Fn.step mixed k_math_bits_Len ?_
 repeat' (first | refine i_s rfl ?_ | refine sw ?_ | refine c_f rfl ?_ | refine sf rfl rfl f_bits_Len64_0 ?_ | fail)
 exact e_ret ⟨rfl, _, rfl, rfl⟩
def c_slices_insertionSortOrdered_int : Cmd :=
 (qS [qm 8 1, qv 9 .add [] 8 1, qm 6 9]
 (.block 0 (.loop (qT (qS [qm 10 6, qm 11 2, qu 12 .lss [] 10 11]
 (.cond (.t 12) .skip (.exit 0)))
 (qT (.block 1 (qS [qm 15 6, qm 7 15]
 (.block 2 (.loop (qT (qS [qm 16 7, qm 17 1, qu 18 .gtr [] 16 17, qm 19 18, qg 20 19 true (.mov (.t 0)), qg 21 19 true (.mov (.t 7)), qg 22 19 true (.iaddr 1 (.t 20) (.t 21)), qg 23 19 true (.load false 1 (.t 22)), qg 24 19 true (.mov (.t 0)), qg 25 19 true (.mov (.t 7)), qg 26 19 true (.bin .sub false [] (.t 25) (.c (.int .i64 1))), qg 27 19 true (.iaddr 1 (.t 24) (.t 26)), qg 28 19 true (.load false 1 (.t 27)), qg 29 19 true (.call .f (.c (.fn 108 [])) [.t 23, .t 28]), qq 30 (.pick (.t 19) (.t 29) (.c (.bool false)))]
 (.cond (.t 30) .skip (.exit 2)))
 (qT (.block 3 (.ops [qm 33 0, qm 34 7, qm 35 0, qm 36 7, qv 37 .sub [] 36 1, qm 38 0, qm 39 7, qv 40 .sub [] 39 1, qi 41 1 38 40, ql 42 1 41, qm 43 0, qm 44 7, qi 45 1 43 44, ql 46 1 45, qi 47 1 33 34, qs 1 47 42, qi 48 1 35 37, qs 1 48 46]))
 (.ops [qm 31 7, qv 32 .sub [] 31 1, qm 7 32])))))))
 (.ops [qm 13 6, qv 14 .add [] 13 1, qm 6 14]))))))
def r_slices_insertionSortOrdered_int : List RVar := []
def n_slices_insertionSortOrdered_int : Nat := 49
theorem k_slices_insertionSortOrdered_int : chkFn Go.Proofs.Tryz.prog 203 n_slices_insertionSortOrdered_int r_slices_insertionSortOrdered_int c_slices_insertionSortOrdered_int = true := by kernel_rfl
theorem f_insertionSort_0 : Fc Go.Proofs.Tryz.prog 203 [.sl .p [], .int .i64 0, .int .i64 0] (.tup []) := by
 refine Fn.step mixed k_slices_insertionSortOrdered_int ?_
 repeat' (first | refine i_s rfl ?_ | refine sw ?_ | refine ja rfl rfl ?_ | fail)
 refine c_lp (ι := Unit) (fun _ => [(0, .sl .p []), (1, .int .i64 0), (2, .int .i64 0), (6, .int .i64 1)]) (fun _ => []) (fun _ => True) (fun _ => 0) () trivial ft fun _ _ => ?_
 repeat' (first | refine i_s rfl ?_ | refine sw ?_ | refine c_f rfl ?_)
 refine e_end ⟨rfl, _, rfl, rfl⟩
def c_slices_pdqsortOrdered_int : Cmd :=
 (qS [qb 8 true]
 (qS [qb 9 true]
 (.block 0 (.loop (.block 1 (qS [qm 19 2, qm 20 1, qu 21 .sub [] 19 20, qm 10 21]
 (qT (qS [qm 22 10, qv 23 .leq [] 22 12]
 (.cond (.t 23) (.seq (.ops [qm 24 0, qm 25 1, qm 26 2, qk 27 203 [24, 25, 26]]) .ret) .skip))
 (qT (qS [qm 28 3, qv 29 .eql [.i] 28 0]
 (.cond (.t 29) (.seq (.ops [qm 30 0, qm 31 1, qm 32 2, qk 33 204 [30, 31, 32]]) .ret) .skip))
 (qT (qS [qm 34 8, qq 35 (.not (.t 34))]
 (.cond (.t 35) (qS [qm 36 0, qm 37 1, qm 38 2, qk 39 205 [36, 37, 38]]
 (.ops [qm 40 3, qv 41 .sub [] 40 1, qm 3 41])) .skip))
 (qS [qm 43 0, qm 44 1, qm 45 2, qk 46 206 [43, 44, 45], qm 42 46, qq 47 (.extract (.t 42) 0), qq 48 (.extract (.t 42) 1), qm 11 47, qm 12 48]
 (qT (qS [qm 49 12, qv 50 .eql [.i] 49 2]
 (.cond (.t 50) (qS [qm 51 0, qm 52 1, qm 53 2, qk 54 207 [51, 52, 53]]
 (qS [qm 55 2, qv 56 .sub [] 55 1, qm 57 11, qm 58 1, qu 59 .sub [] 57 58, qu 60 .sub [] 56 59, qm 11 60]
 (.ops [qc 12 1]))) .skip))
 (qT (qS [qm 61 8, qm 62 61, qg 63 62 true (.mov (.t 9)), qq 64 (.pick (.t 62) (.t 63) (.c (.bool false))), qm 65 64, qg 66 65 true (.mov (.t 12)), qg 67 65 true (.bin .eql false [.i] (.t 66) (.c (.int .i64 1))), qq 68 (.pick (.t 65) (.t 67) (.c (.bool false)))]
 (.cond (.t 68) (qS [qm 69 0, qm 70 1, qm 71 2, qk 72 208 [69, 70, 71]]
 (.cond (.t 72) .ret .skip)) .skip))
 (qT (qS [qm 73 1, qv 74 .gtr [] 73 0, qm 75 74, qg 76 75 true (.mov (.t 0)), qg 77 75 true (.mov (.t 1)), qg 78 75 true (.bin .sub false [] (.t 77) (.c (.int .i64 1))), qg 79 75 true (.iaddr 1 (.t 76) (.t 78)), qg 80 75 true (.load false 1 (.t 79)), qg 81 75 true (.mov (.t 0)), qg 82 75 true (.mov (.t 11)), qg 83 75 true (.iaddr 1 (.t 81) (.t 82)), qg 84 75 true (.load false 1 (.t 83)), qg 85 75 true (.call .f (.c (.fn 108 [])) [.t 80, .t 84]), qg 86 75 true (.not (.t 85)), qq 87 (.pick (.t 75) (.t 86) (.c (.bool false)))]
 (.cond (.t 87) (qS [qm 88 0, qm 89 1, qm 90 2, qm 91 11, qk 92 209 [88, 89, 90, 91], qm 13 92]
 (qS [qm 93 13, qm 1 93]
 (.exit 1))) .skip))
 (qS [qm 95 0, qm 96 1, qm 97 2, qm 98 11, qk 99 210 [95, 96, 97, 98], qm 94 99, qq 100 (.extract (.t 94) 0), qq 101 (.extract (.t 94) 1), qm 14 100, qm 15 101]
 (qS [qm 102 15, qm 9 102]
 (qS [qm 103 14, qm 104 1, qu 105 .sub [] 103 104, qm 106 2, qm 107 14, qu 108 .sub [] 106 107, qm 16 105, qm 17 108]
 (qS [qm 109 10, qv 110 .quo [] 109 8, qm 18 110]
 (qS [qm 111 16, qm 112 17, qu 113 .lss [] 111 112]
 (.cond (.t 113) (qS [qm 114 16, qm 115 18, qu 116 .geq [] 114 115, qm 8 116]
 (qS [qm 117 0, qm 118 1, qm 119 14, qm 120 3, qk 121 186 [117, 118, 119, 120]]
 (.ops [qm 122 14, qv 123 .add [] 122 1, qm 1 123]))) (qS [qm 124 17, qm 125 18, qu 126 .geq [] 124 125, qm 8 126]
 (qS [qm 127 0, qm 128 14, qv 129 .add [] 128 1, qm 130 2, qm 131 3, qk 132 186 [127, 129, 130, 131]]
 (.ops [qm 133 14, qm 2 133]))))))))))))))))))))))
def r_slices_pdqsortOrdered_int : List RVar := []
def n_slices_pdqsortOrdered_int : Nat := 134
theorem k_slices_pdqsortOrdered_int : chkFn Go.Proofs.Tryz.prog 186 n_slices_pdqsortOrdered_int r_slices_pdqsortOrdered_int c_slices_pdqsortOrdered_int = true := by kernel_rfl
theorem f_pdqsort_0 : Fc Go.Proofs.Tryz.prog 186 [.sl .p [], .int .i64 0, .int .i64 0, .int .i64 0] (.tup []) := by
 refine Fn.step mixed k_slices_pdqsortOrdered_int ?_
 repeat' (first | refine i_s rfl ?_ | refine sw ?_ | fail)
 refine c_lp (ι := Unit) (fun _ => [(0, .sl .p []), (1, .int .i64 0), (2, .int .i64 0), (3, .int .i64 0)]) (fun _ => []) (fun _ => True) (fun _ => 0) () trivial ft fun _ _ => ?_
 repeat' (first | refine i_s rfl ?_ | refine sw ?_ | refine c_t rfl ?_ | refine jb rfl rfl ?_ | refine sf rfl rfl f_insertionSort_0 ?_ | fail)
 exact e_ret ⟨rfl, _, rfl, rfl⟩
def c_slices_Sort_int : Cmd :=
 (qS [qm 3 0, qn 4 3, qm 2 4]
 (.ops [qm 5 0, qm 6 2, qm 7 2, qq 8 (.conv .u64 (.t 7)), qk 9 53 [8], qq 10 (.call .f (.c (.fn 186 [])) [.t 5, .c (.int .i64 0), .t 6, .t 9])]))
def r_slices_Sort_int : List RVar := []
def n_slices_Sort_int : Nat := 11
theorem k_slices_Sort_int : chkFn Go.Proofs.Tryz.prog 165 n_slices_Sort_int r_slices_Sort_int c_slices_Sort_int = true := by kernel_rfl
theorem f_Sort_0 : Fc Go.Proofs.Tryz.prog 165 [.sl .p []] (.tup []) := by
 refine Fn.step mixed k_slices_Sort_int ?_
 repeat' (first | refine i_s rfl ?_ | refine sw ?_ | fail)
 refine i_conv (n := 0) rfl ⟨by decide, by decide⟩ ?_
 repeat' (first | refine sw ?_ | refine sf rfl rfl f_bits_Len_0 ?_ | refine sf rfl rfl f_pdqsort_0 ?_ | fail)
 refine e_end ⟨rfl, _, rfl, rfl⟩
theorem c_Sort {G : Type} {H : HT G} (nm gen : Nat) (l : List Int) {pn : List Nat} {σ : Store} {g : G} (hw : wd nm = 1) (hσ : σ nm = .arr gen (l.map i64V)) (hpn : ∀ nm', σ nm' ≠ .unused → nm' ∈ pn) (hsz : l.length < 4611686018427387904) :
  Cc Go.Proofs.Tryz.prog H 165 [.msl nm gen 0 l.length] pn σ g fun v σ' g' => v = .tup [] ∧ σ' = ups σ nm (.arr gen ((srtL l).map i64V)) ∧ g' = g :=
 ⟨ct_sort (ρ := Go.Proofs.Tryz.sort_ren) Go.Proofs.Tryz.sort_lays nm gen l hw hσ (fun nm' h => Classical.byContradiction fun h' => h (hpn nm' h')) f_Sort_0.out hsz⟩
end Hm
end
section
namespace Hm
open Go
set_option maxRecDepth 100000
set_option maxHeartbeats 2000000
theorem dd_get {l : List Int} {m i : Nat} (hi : (ddK l m).length ≤ i) : (ddK l m ++ l.drop (ddK l m).length)[i]? = l[i]? := by
 rw [List.getElem?_append_right hi, List.getElem?_drop]
 congr 1
 omega
theorem dd_set {l : List Int} {m : Nat} {x : Int} (hd : (ddK l m).length < l.length) : (ddK l m ++ l.drop (ddK l m).length).set (ddK l m).length x = (ddK l m ++ [x]) ++ l.drop (ddK l m ++ [x]).length := by
 rw [List.set_append_right _ _ (Nat.le_refl _), Nat.sub_self]
 have : l.drop (ddK l m).length = l[(ddK l m).length] :: l.drop ((ddK l m).length + 1) := List.drop_eq_getElem_cons hd
 rw [this, List.set_cons_zero]
 simp
def c_slices_Compact_int : Cmd :=
 (qS [qq 2 (.mov (.c (.sl .nil [])))]
 (qT (qS [qm 6 0, qn 7 6, qv 8 .lss [] 7 2]
 (.cond (.t 8) (.seq (.ops [qm 9 0, qm 2 9]) .ret) .skip))
 (qT (qS [qc 3 1]
 (.block 0 (.loop (qT (qS [qm 10 3, qm 11 0, qn 12 11, qu 13 .lss [] 10 12]
 (.cond (.t 13) .skip (.exit 0)))
 (qT (.block 1 (qS [qm 16 0, qm 17 3, qi 18 1 16 17, ql 19 1 18, qm 20 0, qm 21 3, qv 22 .sub [] 21 1, qi 23 1 20 22, ql 24 1 23, qu 25 .eql [.i] 19 24]
 (.cond (.t 25) (qS [qm 26 0, qm 27 3, qq 28 (.slice false 1 (.t 26) (some (.t 27)) none), qm 4 28]
 (qT (qS [qc 5 1]
 (.block 2 (.loop (qT (qS [qm 29 5, qm 30 4, qn 31 30, qu 32 .lss [] 29 31]
 (.cond (.t 32) .skip (.exit 2)))
 (qT (.block 3 (qS [qm 35 4, qm 36 5, qi 37 1 35 36, ql 38 1 37, qm 39 4, qm 40 5, qv 41 .sub [] 40 1, qi 42 1 39 41, ql 43 1 42, qu 44 .neq [.i] 38 43]
 (.cond (.t 44) (qS [qm 45 0, qm 46 3, qm 47 4, qm 48 5, qi 49 1 47 48, ql 50 1 49, qi 51 1 45 46, qs 1 51 50]
 (.ops [qm 52 3, qv 53 .add [] 52 1, qm 3 53])) .skip)))
 (.ops [qm 33 5, qv 34 .add [] 33 1, qm 5 34]))))))
 (qS [qm 54 0, qm 55 3, qq 56 (.slice false 1 (.t 54) (some (.t 55)) none), .op none none (.clear 1 8 (.int .i64 0) (.t 56))]
 (.seq (.ops [qm 57 0, qm 58 3, qq 59 (.slice false 1 (.t 57) none (some (.t 58))), qm 2 59]) .ret)))) .skip)))
 (.ops [qm 14 3, qv 15 .add [] 14 1, qm 3 15]))))))
 (.seq (.ops [qm 60 0, qm 2 60]) .ret))))
def r_slices_Compact_int : List RVar := [.tmp 2]
def n_slices_Compact_int : Nat := 61
theorem k_slices_Compact_int : chkFn PG 166 n_slices_Compact_int r_slices_Compact_int c_slices_Compact_int = true := by kernel_rfl
theorem c_Compact {G : Type} {H : HT G} (gen : Nat) (l : List Int) (hl : l.length ≤ 17592186044416) (σ : Store) (g : G) (hσ : σ 8640449 = .arr gen (l.map i64V)) (hp : ∀ nm, σ nm ≠ .unused → nm ∈ [8640449]) :
  Cc PG H 166 [.msl 8640449 gen 0 l.length] [8640449] σ g fun v σ' g' => (∃ rows, v = .msl 8640449 gen 0 (compL l).length ∧ σ' = stOf [(8640449, .arr gen rows)] ∧ rows.take (compL l).length = (compL l).map i64V) ∧ g' = g := by
 refine CT.step _ mixed k_slices_Compact_int hp fun hM => ?_
 refine c_seq ?_
 refine c_ops ?_
 refine i_s rfl ?_
 refine i_nil ?_
 refine e_seq ?_
 refine c_cut [(0, .msl 8640449 gen 0 l.length)] [(8640449, .arr gen (l.map i64V))] ⟨⟨rfl, trivial⟩, ⟨hσ, trivial⟩, rfl⟩ ?_
 have fin : compL l = l → ∃ rows, V.msl 8640449 gen 0 l.length = .msl 8640449 gen 0 (compL l).length ∧ stOf [(8640449, .arr gen (l.map i64V))] = stOf [(8640449, .arr gen rows)] ∧ rows.take (compL l).length = (compL l).map i64V := fun e => ⟨l.map i64V, by rw [e], rfl, by rw [e, List.take_of_length_le (by simp)]⟩
 repeat (first | refine i_s rfl ?_ | refine i_lenm rfl rfl rfl ?_ | refine sw ?_)
 refine c_cond rfl (fun h => ?_) (fun h => ?_)
 · have h2 : l.length < 2 := by have : (l.length : Int) < 2 := by simpa using h
                                omega
   repeat (first | refine i_s rfl ?_ | refine sw ?_)
   refine e_ret ⟨rfl, _, rfl, rfl, rfl, ?_, rfl⟩
   rw [restr_stOf]
   exact fin (by unfold compL; rw [ddK_all _ (Nat.le_refl _) fun j h1 h3 => by omega, List.take_length])
 have h2 : 2 ≤ l.length := by have : ¬ (l.length : Int) < 2 := by simpa using h
                              omega
 clear h
 repeat (first | refine i_s rfl ?_ | refine sw ?_)
 refine c_lp (ι := Nat) (fun k => [(0, .msl 8640449 gen 0 l.length), (3, .int .i64 k)]) (fun _ => [(8640449, .arr gen (l.map i64V))]) (fun k => 1 ≤ k ∧ k ≤ l.length ∧ ∀ j, 0 < j → j < k → l[j]? ≠ l[j - 1]?) (fun k => l.length - k) 1 ⟨Nat.le_refl _, by omega, fun j h1 h2 => by omega⟩ ft fun k hi => ?_
 obtain ⟨k1, k2, k3⟩ := hi
 repeat (first | refine i_s rfl ?_ | refine i_lenm rfl rfl rfl ?_ | refine sw ?_)
 refine c_cond rfl (fun h => ?_) (fun h => ?_)
 · have hlt : k < l.length := by have : (k : Int) < l.length := by simpa using h
                                 omega
   obtain ⟨x, hx⟩ := get_some hlt
   obtain ⟨y, hy⟩ := get_some (l := l) (k := k - 1) (by omega)
   clear h
   repeat (first | refine i_s rfl ?_ | refine sw ?_)
   refine i_ima rfl rfl rfl rfl (by omega) (by omega) rfl ?_
   refine i_ldp (row := i64V x) rfl rfl rfl (by simp [hx]) rfl ?_
   repeat (first | refine i_s rfl ?_ | refine jb rfl rfl ?_)
   refine i_ima rfl rfl rfl rfl (by omega) (by omega) rfl ?_
   refine i_ldp (row := i64V y) rfl rfl rfl (by rw [show 0 + ((k : Int) - 1).toNat = k - 1 from by omega]; simp [hy]) rfl ?_
   repeat (first | refine i_s rfl ?_ | refine sw ?_)
   refine c_cond rfl (fun h => ?_) (fun h => ?_)
   · have e : x = y := by simpa using h
     subst e
     clear h
     repeat (first | refine i_s rfl ?_ | refine sw ?_)
     refine i_sm rfl rfl rfl rfl (by omega) (by omega) rfl ?_
     repeat (first | refine i_s rfl ?_ | refine sw ?_)
     have e0 := ddK_all k (by omega) k3
     have e1 : ddK l (k + 1) = l.take k := by rw [ddK_skip hx (by omega) hy, e0]
     refine c_lp (ι := Nat) (fun j => [(0, .msl 8640449 gen 0 l.length), (3, .int .i64 (ddK l (k + j)).length), (4, .msl 8640449 gen (0 + k) (l.length - k)), (5, .int .i64 j)])
      (fun j => [(8640449, .arr gen ((ddK l (k + j) ++ l.drop (ddK l (k + j)).length).map i64V))]) (fun j => 1 ≤ j ∧ k + j ≤ l.length ∧ (ddK l (k + j)).length + 1 ≤ k + j) (fun j => l.length - j) 1 ⟨Nat.le_refl _, by omega, by rw [e1]; simp; omega⟩ ⟨⟨rfl, ?_, rfl, rfl, trivial⟩, ⟨?_, trivial⟩, rfl⟩ fun j hj => ?_
     · rw [e1, List.length_take, Nat.min_eq_left (by omega)]; rfl
     · rw [e1, List.length_take, Nat.min_eq_left (by omega), List.take_append_drop]; rfl
     obtain ⟨j1, j2, j3⟩ := hj
     have hdl := ddK_len l (k + j)
     have hAl : (ddK l (k + j) ++ l.drop (ddK l (k + j)).length).length = l.length := by simp; omega
     repeat (first | refine i_s rfl ?_ | refine i_lenm rfl rfl rfl ?_ | refine sw ?_)
     refine c_cond rfl (fun h => ?_) (fun h => ?_)
     · have hlt2 : j < l.length - k := by have : (j : Int) < ((l.length - k : Nat) : Int) := by simpa using h
                                          omega
       obtain ⟨a, ha⟩ := get_some (l := l) (k := k + j) (by omega)
       obtain ⟨b, hb⟩ := get_some (l := l) (k := k + j - 1) (by omega)
       have ha' := ha
       rw [← dd_get (m := k + j) (by omega)] at ha'
       have hb' := hb
       rw [← dd_get (m := k + j) (by omega)] at hb'
       clear h
       repeat (first | refine i_s rfl ?_ | refine sw ?_)
       refine i_ima rfl rfl rfl rfl (by omega) (by omega) rfl ?_
       refine i_ldp (row := i64V a) rfl rfl rfl (by rw [show 0 + k + (j : Int).toNat = k + j from by omega, List.getElem?_map, ha']; rfl) rfl ?_
       repeat (first | refine i_s rfl ?_ | refine jb rfl rfl ?_)
       refine i_ima rfl rfl rfl rfl (by omega) (by omega) rfl ?_
       refine i_ldp (row := i64V b) rfl rfl rfl (by rw [show 0 + k + ((j : Int) - 1).toNat = k + j - 1 from by omega, List.getElem?_map, hb']; rfl) rfl ?_
       repeat (first | refine i_s rfl ?_ | refine sw ?_)
       refine c_cond rfl (fun h => ?_) (fun h => ?_)
       · have hne : a ≠ b := by simpa using h
         have ek : ddK l (k + (j + 1)) = ddK l (k + j) ++ [a] := ddK_keep (k := k + j) ha (.inr (by rw [hb]; simpa using fun e => hne e.symm))
         clear h
         repeat (first | refine i_s rfl ?_ | refine sw ?_)
         refine i_ima rfl rfl rfl rfl (by omega) (by omega) rfl ?_
         refine i_ldp (row := i64V a) rfl rfl rfl (by rw [show 0 + k + (j : Int).toNat = k + j from by omega, List.getElem?_map, ha']; rfl) rfl ?_
         skip
         refine i_ima rfl rfl rfl rfl (by omega) (by omega) rfl ?_
         refine i_sti rfl rfl rfl rfl rfl (by rw [hAl]; omega) ?_
         repeat (first | refine i_s rfl ?_ | refine sw ?_ | refine ja rfl rfl ?_)
         refine e_lp (j + 1) ⟨by omega, by omega, by rw [ek]; simp; omega⟩ (by omega) ⟨⟨rfl, ?_, rfl, rfl, trivial⟩, ⟨?_, trivial⟩, rfl⟩
         · rw [ek]; simp; rfl
         · have := dd_set (l := l) (m := k + j) (x := a) (by omega)
           rw [ek, ← this, show (ddK l (k + j)).length = 0 + ((ddK l (k + j)).length : Int).toNat from by omega]
           simp
           rfl
       · have he : a = b := by simpa using h
         subst he
         have ek : ddK l (k + (j + 1)) = ddK l (k + j) := ddK_skip (k := k + j) ha (by omega) hb
         clear h
         repeat (first | refine i_s rfl ?_ | refine sw ?_ | refine ja rfl rfl ?_)
         refine e_lp (j + 1) ⟨by omega, by omega, by rw [ek]; omega⟩ (by omega) ⟨⟨rfl, ?_, rfl, rfl, trivial⟩, ⟨?_, trivial⟩, rfl⟩
         · rw [ek]; rfl
         · rw [ek]; rfl
     · have hje : k + j = l.length := by have : ¬ (j : Int) < ((l.length - k : Nat) : Int) := by simpa using h
                                         omega
       have ec : compL l = ddK l (k + j) := by unfold compL; rw [hje]
       clear fin
       clear h
       repeat (first | refine i_s rfl ?_ | refine sw ?_)
       refine i_sm rfl rfl rfl rfl (by omega) (by omega) rfl ?_
       refine i_clear rfl rfl rfl rfl ?_
       repeat (first | refine i_s rfl ?_ | refine sw ?_)
       refine i_smh rfl rfl rfl rfl rfl (by omega) (by omega) (by omega) rfl ?_
       repeat (first | refine i_s rfl ?_ | refine sw ?_)
       rw [ec]
       refine e_ret ⟨rfl, _, rfl, rfl, rfl, ⟨_, ?_, restr_stOf _ _, ?_⟩, rfl⟩
       · show V.msl _ _ _ _ = V.msl _ _ _ _
         simp
       · have e1 : (0 + ((ddK l (k + j)).length : Int).toNat) = (ddK l (k + j)).length := by omega
         rw [e1, List.append_assoc, List.take_append_of_le_length (by simp), List.take_take, Nat.min_self, ← List.map_take, List.take_append_of_le_length (Nat.le_refl _), List.take_length]
   · have hne : x ≠ y := by simpa using h
     clear h
     repeat (first | refine i_s rfl ?_ | refine sw ?_ | refine ja rfl rfl ?_)
     refine e_lp (k + 1) ⟨by omega, by omega, fun j h1 h3 => ?_⟩ (by omega) ft
     by_cases e : j = k
     · subst e; rw [hx, hy]; simpa using hne
     · exact k3 j h1 (by omega)
 · have hke : k = l.length := by have : ¬ (k : Int) < l.length := by simpa using h
                                 omega
   subst hke
   repeat (first | refine i_s rfl ?_ | refine sw ?_)
   refine e_ret ⟨rfl, _, rfl, rfl, rfl, ?_, rfl⟩
   rw [restr_stOf]
   exact fin (by unfold compL; rw [ddK_all _ (Nat.le_refl _) k3, List.take_length])
theorem msl_all {l : List Int} {n : Nat} (h : l.length = n) : V.sl .p (((l.map i64V).drop 0).take n) = V.sl .p (l.map i64V) := by
 rw [List.drop_zero, List.take_of_length_le (by simp; omega)]
theorem er_msl {σ : Store} {nm gen i len n : Nat} {rows : List V} (hs : σ nm = .arr gen rows) : er σ (n + 1) (.msl nm gen i len) = .sl .p ((rows.drop i).take len) := by
 simp [er, hs]
theorem take_filter_succ {l : List Int} {p : Int → Bool} {k : Nat} {x : Int} (h : l[k]? = some x) : (l.take (k + 1)).filter p = (l.take k).filter p ++ (if p x = true then [x] else []) := by
 rw [take_succ_get h, List.filter_append]
 congr 1
 cases hx : p x <;> simp [List.filter, hx]
def c_strips_Update : Cmd :=
 (qS [qq 6 (.mov (.c (.sl .nil [])))]
 (qS [qq 7 (.newArr 8640449)]
 (qT (qS [qm 12 0, qn 13 12, qc 14 0]
 (.block 0 (.loop (qS [qu 15 .lss [] 14 13]
 (qT (.cond (.t 15) .skip (.exit 0))
 (qT (.block 1 (qS [qi 16 1 12 14, ql 17 1 16, qm 9 17]
 (qS [qm 19 2, qm 20 9, qk 21 59 [19, 20], qm 18 21, qq 22 (.extract (.t 18) 0), qq 23 (.extract (.t 18) 1), qm 10 22, qm 11 23]
 (qS [qm 24 11, qq 25 (.not (.t 24))]
 (.cond (.t 25) (.ops [qm 26 7, qm 27 9, qq 28 (.bsl 1 [.t 27]), qq 29 (.append 1 8 3 (.t 26) (.t 28)), qm 7 29]) .skip)))))
 (.ops [qv 30 .add [] 14 1, qm 14 30])))))))
 (qS [qm 31 7, qm 32 1, qq 33 (.append 1 8 3 (.t 31) (.t 32)), qm 7 33]
 (qS [qm 34 7, qq 35 (.call (.s [8640449]) (.c (.fn 165 [])) [.t 34])]
 (.seq (.ops [qm 36 7, qq 37 (.call (.s [8640449]) (.c (.fn 166 [])) [.t 36]), qm 6 37]) .ret))))))
def r_strips_Update : List RVar := [.tmp 6]
def n_strips_Update : Nat := 38
theorem k_strips_Update : chkFn PG 135 n_strips_Update r_strips_Update c_strips_Update = true := by kernel_rfl
theorem f_strips_Update (s add del : List Int) (hs : s.length ≤ 17592186044) (ha : add.length ≤ 17592186044) (hd : del.length ≤ 17592186044) (hdel : SS del) :
  Fc PG 135 [.sl .p (s.map i64V), .sl .p (add.map i64V), .sl .p (del.map i64V)] (.sl .p ((updL s add del).map i64V)) := by
 have hu : updL s add del = compL (srtL (s.filter (fun x => decide (x ∉ del)) ++ add)) := rfl
 rw [hu]
 generalize hp : (fun x => decide (x ∉ del)) = p
 refine Fn.step mixed k_strips_Update ?_
 repeat (first | refine i_s rfl ?_ | refine sw ?_)
 refine i_na rfl ?_
 repeat (first | refine i_len rfl ?_ | refine i_s rfl ?_ | refine sw ?_)
 refine c_for s.length (fun k => [(1, .sl .p (add.map i64V)), (2, .sl .p (del.map i64V)), (7, .msl 8640449 ((s.take k).filter p).length 0 ((s.take k).filter p).length), (12, .sl .p (s.map i64V)), (13, .int .i64 s.length), (14, .int .i64 k)])
  (fun k => [(8640449, .arr ((s.take k).filter p).length (((s.take k).filter p).map i64V))]) (fun _ => True) trivial ft fun k hk _ => ?_
 have hfl : ((s.take k).filter p).length ≤ k := Nat.le_trans (List.length_filter_le _ _) (by simp; omega)
 repeat (first | refine i_s rfl ?_ | refine sw ?_)
 refine c_cond rfl (fun h => ?_) (fun h => ?_)
 · have hlt : k < s.length := by simpa using h
   obtain ⟨x, hx⟩ := get_some hlt
   have hB := f_BinarySearch del x (by omega) hdel
   have ef := take_filter_succ (p := p) hx
   have hpx : p x = !decide (x ∈ del) := by rw [← hp]; simp
   clear h
   repeat (first | refine i_s rfl ?_ | refine sw ?_ | refine jd rfl rfl ?_ | refine sf rfl rfl hB ?_)
   refine c_cond rfl (fun h => ?_) (fun h => ?_)
   · rw [hpx, if_pos h] at ef
     repeat (first | refine i_s rfl ?_ | refine sw ?_)
     refine i_appmM [x] rfl rfl rfl rfl rfl (fun c hc => ⟨rfl, rfl⟩) (by simp; omega) (by simp; omega) ?_
     repeat (first | refine i_s rfl ?_ | refine sw ?_ | refine ja rfl rfl ?_)
     refine e_for hlt trivial ⟨⟨rfl, rfl, ?_, rfl, rfl, rfl, trivial⟩, ⟨?_, trivial⟩, rfl⟩
     · rw [ef, List.length_append]; rfl
     · rw [ef, List.length_append]; rfl
   · rw [hpx, if_neg (by simpa using h), List.append_nil] at ef
     repeat (first | refine i_s rfl ?_ | refine sw ?_ | refine ja rfl rfl ?_)
     refine e_for hlt trivial ⟨⟨rfl, rfl, ?_, rfl, rfl, rfl, trivial⟩, ⟨?_, trivial⟩, rfl⟩
     · rw [ef]; rfl
     · rw [ef]; rfl
 · have hge : k = s.length := by have : ¬ k < s.length := by simpa using h
                                 omega
   subst hge
   rw [List.take_length] at hfl ⊢
   clear h hk
   generalize s.filter p = F at *
   repeat (first | refine i_s rfl ?_ | refine sw ?_)
   refine i_appmM add rfl rfl rfl rfl rfl (fun c hc => ⟨rfl, rfl⟩) (by omega) (by omega) ?_
   refine i_s rfl ?_
   refine i_nil ?_
   refine e_seq ?_
   refine c_cut [(7, .msl 8640449 (F.length + 1) 0 (F ++ add).length)] [(8640449, .arr (F.length + 1) ((F ++ add).map i64V))] ft ?_
   have hla : (F ++ add).length ≤ 35184372088 := by simp; omega
   generalize F ++ add = L at *
   repeat (first | refine i_s rfl ?_ | refine sw ?_)
   refine i_c rfl rfl rfl (c_Sort 8640449 (F.length + 1) L rfl rfl (fun nm h => restr_mem nm h) (by omega)) ?_
   rintro _ _ _ ⟨rfl, rfl, rfl⟩
   refine i_nil ?_
   refine e_seq ?_
   refine c_cut [(7, .msl 8640449 (F.length + 1) 0 (srtL L).length)] [(8640449, .arr (F.length + 1) ((srtL L).map i64V))] ⟨⟨?_, trivial⟩, ⟨rfl, trivial⟩, rfl⟩ ?_
   · rw [srtL_len]; rfl
   repeat (first | refine i_s rfl ?_ | refine sw ?_)
   refine i_c rfl rfl rfl (c_Compact (F.length + 1) (srtL L) (by rw [srtL_len]; omega) _ _ rfl (fun nm h => restr_mem nm h)) ?_
   rintro _ _ _ ⟨⟨rows, rfl, rfl, hr⟩, rfl⟩
   repeat (first | refine i_s rfl ?_ | refine sw ?_)
   exact e_ret ⟨rfl, _, rfl, ((er_msl (rows := rows) (i := 0) (len := (compL (srtL L)).length) (n := 5) rfl).trans (by rw [List.drop_zero, hr])).symm⟩
def c_strips_Can : Cmd :=
 (qS [qx 3 9024196 4 0, qb 6 false]
 (.seq (.ops [qm 7 1, qf 8 3 3, ql 9 1 8, qm 10 2, qi 11 4 9 10, qf 12 0 11, ql 13 1 12, qk 14 93 [7, 13], qm 6 14]) .ret))
def r_strips_Can : List RVar := [.tmp 6]
def n_strips_Can : Nat := 15
theorem k_strips_Can : chkFn PG 141 n_strips_Can r_strips_Can c_strips_Can = true := by kernel_rfl
theorem f_strips_Can (t : STask) (s : List Int) (hs : s.length ≤ 140737488355328) (hss : SS s) (op : Int) (h0 : 0 ≤ op) (o : SOp) (hc : t.ops[op.toNat]? = some o) (hl : o.pre.length ≤ 140737488355328) (hp : SS o.pre) : Fc PG 141 [skV t, .sl .p (s.map i64V), .int .i64 op] (.bool (inclB o.pre s)) := by
 have h1 := f_strips_Contains s o.pre hs hl hss hp
 refine Fn.step mixed k_strips_Can ?_
 repeat' (first | refine i_s rfl ?_ | refine sw ?_ | refine jd rfl rfl ?_ | refine i_box rfl rfl ?_ | refine sf rfl rfl h1 ?_ | fail)
 exact e_ret ⟨rfl, _, rfl, rfl⟩
def c_strips_Next : Cmd :=
 (qS [qx 3 9088196 4 0, qq 6 (.mov (.c (.sl .nil [])))]
 (qS [qf 8 3 3, ql 9 1 8, qm 10 2, qi 11 4 9 10, qL 12 4 11, qq 7 (.alloc 9088452 (.agg [.sl .nil [], .sl .nil [], .sl .nil [], .int .i64 0])), qs 4 7 12]
 (.seq (.ops [qm 13 1, qf 14 1 7, ql 15 1 14, qf 16 2 7, ql 17 1 16, qk 18 135 [13, 15, 17], qm 6 18]) .ret)))
def r_strips_Next : List RVar := [.tmp 6]
def n_strips_Next : Nat := 19
theorem k_strips_Next : chkFn PG 142 n_strips_Next r_strips_Next c_strips_Next = true := by kernel_rfl
theorem f_strips_Next (t : STask) (s : List Int) (hs : s.length ≤ 17592186044) (op : Int) (h0 : 0 ≤ op) (o : SOp) (hc : t.ops[op.toNat]? = some o) (ha : o.add.length ≤ 17592186044) (hd : o.del.length ≤ 17592186044) (hdel : SS o.del) : Fc PG 142 [skV t, .sl .p (s.map i64V), .int .i64 op] (.sl .p ((updL s o.add o.del).map i64V)) := by
 have h1 := f_strips_Update s o.add o.del hs ha hd hdel
 refine Fn.step mixed k_strips_Next ?_
 repeat' (first | refine i_s rfl ?_ | refine sw ?_ | refine jd rfl rfl ?_ | refine i_stb rfl ?_ | refine i_alloc rfl ?_ | refine i_box rfl rfl ?_ | refine sf rfl rfl h1 ?_ | fail)
 exact e_ret ⟨rfl, _, rfl, rfl⟩
end Hm
end
section
namespace Hm
open Go
set_option maxRecDepth 100000
set_option maxHeartbeats 4000000
def c_slices_IndexFunc_Operator : Cmd :=
 (qS [qc 4 0]
 (qT (qS [qm 6 0, qn 7 6, qc 8 0]
 (.block 0 (.loop (qS [qu 9 .lss [] 8 7]
 (qT (.cond (.t 9) .skip (.exit 0))
 (qT (.block 1 (qS [qm 10 8, qm 5 10]
 (qS [qm 11 1, qm 12 0, qm 13 5, qi 14 4 12 13, qL 15 4 14, qq 16 (.call .f (.t 11) [.t 15])]
 (.cond (.t 16) (.seq (.ops [qm 17 5, qm 4 17]) .ret) .skip))))
 (.ops [qv 18 .add [] 8 1, qm 8 18])))))))
 (.seq (.ops [qc 4 (-1)]) .ret)))
def r_slices_IndexFunc_Operator : List RVar := [.tmp 4]
def n_slices_IndexFunc_Operator : Nat := 19
theorem k_slices_IndexFunc_Operator : chkFn PG 91 n_slices_IndexFunc_Operator r_slices_IndexFunc_Operator c_slices_IndexFunc_Operator = true := by kernel_rfl
theorem f_IndexFunc_Operator (l : List (SOp)) (p : SOp → Bool) (fid : Nat) (caps : List V) (hl : l.length ≤ 140737488355328) (he : ∀ σ n, caps.map (er σ (n + 1)) = caps) (hc : closedL [] caps = true) (hp : ∀ t ∈ l, Fc PG fid (soV t :: caps) (.bool (p t))) :
  Fc PG 91 [.sl .p (l.map soV), .fn fid caps] (.int .i64 (fidx p l)) := by
 refine Fn.step mixed k_slices_IndexFunc_Operator ?_
 repeat (first | refine i_len rfl ?_ | refine i_s rfl ?_ | refine sw ?_)
 refine c_for l.length (fun k => [(0, .sl .p (l.map soV)), (1, .fn fid caps), (7, .int .i64 l.length), (8, .int .i64 k)]) (fun _ => []) (fun k => ∀ j, j < k → ∀ c, l[j]? = some c → p c = false) all_zero ?_ fun k hk hi => ?_
 · exact ⟨⟨rfl, rfl, rfl, rfl, trivial⟩, trivial, by simp [fitB, closedE, closedB, hc, closedSt, hasAll]⟩
 repeat (first | refine i_s rfl ?_ | refine sw ?_)
 refine c_cond rfl (fun h => ?_) (fun h => ?_)
 · have hlt : k < l.length := by simpa using h
   obtain ⟨c, hget⟩ := get_some hlt
   repeat (first | refine i_s rfl ?_ | refine sw ?_ | refine jd rfl rfl ?_)
   refine i_f rfl (congrArg (soV c :: ·) (he _ 5)) (hp c (mem_get hget)) rfl ?_
   repeat' (first | refine i_s rfl ?_ | refine sw ?_ | refine ja rfl rfl ?_ | refine c_cond rfl (fun h => ?_) (fun h => ?_))
   · refine e_ret ⟨rfl, _, rfl, congrArg (V.int .i64) (fidx_hit hi hget h)⟩
   · refine e_for hlt (all_succ hi fun c' hc' => ?_) ⟨⟨rfl, rfl, rfl, rfl, trivial⟩, trivial, by simp [fitB, closedE, closedB, hc, closedSt, hasAll]⟩
     rw [hget] at hc'; cases hc'; exact h
 · have hge : ¬ k < l.length := by simpa using h
   repeat' (first | refine i_s rfl ?_ | refine sw ?_ | fail)
   refine e_ret ⟨rfl, _, rfl, congrArg (V.int .i64) (fidx_none fun j hj => hi j (by omega))⟩
def c_slices_ContainsFunc_Operator : Cmd :=
 (qS [qb 4 false]
 (.seq (.ops [qm 5 0, qm 6 1, qk 7 91 [5, 6], qv 8 .geq [] 7 0, qm 4 8]) .ret))
def r_slices_ContainsFunc_Operator : List RVar := [.tmp 4]
def n_slices_ContainsFunc_Operator : Nat := 9
theorem k_slices_ContainsFunc_Operator : chkFn PG 48 n_slices_ContainsFunc_Operator r_slices_ContainsFunc_Operator c_slices_ContainsFunc_Operator = true := by kernel_rfl
theorem f_ContainsFunc_Operator (l : List (SOp)) (p : SOp → Bool) (fid : Nat) (caps : List V) (hl : l.length ≤ 140737488355328) (he : ∀ σ n, caps.map (er σ (n + 1)) = caps) (hc : closedL [] caps = true) (hp : ∀ t ∈ l, Fc PG fid (soV t :: caps) (.bool (p t))) :
  Fc PG 48 [.sl .p (l.map soV), .fn fid caps] (.bool (l.any p)) := by
 refine Fn.step mixed k_slices_ContainsFunc_Operator ?_
 repeat (first | refine i_s rfl ?_ | refine sw ?_)
 refine i_f rfl (congrArg (fun x => [V.sl .p (l.map soV), .fn fid x]) (he _ 4)) (f_IndexFunc_Operator l p fid caps hl he hc hp) rfl ?_
 repeat' (first | refine i_s rfl ?_ | refine sw ?_ | fail)
 refine e_ret ⟨rfl, _, rfl, congrArg V.bool (fidx_any p l).symm⟩
def c_slices_Index_int : Cmd :=
 (qS [qc 4 0]
 (qT (qS [qm 6 0, qn 7 6, qc 8 0]
 (.block 0 (.loop (qS [qu 9 .lss [] 8 7]
 (qT (.cond (.t 9) .skip (.exit 0))
 (qT (.block 1 (qS [qm 10 8, qm 5 10]
 (qS [qm 11 1, qm 12 0, qm 13 5, qi 14 1 12 13, ql 15 1 14, qu 16 .eql [.i] 11 15]
 (.cond (.t 16) (.seq (.ops [qm 17 5, qm 4 17]) .ret) .skip))))
 (.ops [qv 18 .add [] 8 1, qm 8 18])))))))
 (.seq (.ops [qc 4 (-1)]) .ret)))
def r_slices_Index_int : List RVar := [.tmp 4]
def n_slices_Index_int : Nat := 19
theorem k_slices_Index_int : chkFn PG 134 n_slices_Index_int r_slices_Index_int c_slices_Index_int = true := by kernel_rfl
theorem f_Index_int (l : List Int) (v : Int) (hl : l.length ≤ 140737488355328) :
  Fc PG 134 [.sl .p (l.map i64V), .int .i64 v] (.int .i64 (fidx (fun x => decide (v = x)) l)) := by
 refine Fn.step mixed k_slices_Index_int ?_
 repeat (first | refine i_len rfl ?_ | refine i_s rfl ?_ | refine sw ?_)
 refine c_for l.length (fun k => [(0, .sl .p (l.map i64V)), (1, .int .i64 v), (7, .int .i64 l.length), (8, .int .i64 k)]) (fun _ => []) (fun k => ∀ j, j < k → ∀ c, l[j]? = some c → (fun x => decide (v = x)) c = false) all_zero ft fun k hk hi => ?_
 repeat (first | refine i_s rfl ?_ | refine sw ?_)
 refine c_cond rfl (fun h => ?_) (fun h => ?_)
 · have hlt : k < l.length := by simpa using h
   obtain ⟨c, hget⟩ := get_some hlt
   clear h
   repeat' (first | refine i_s rfl ?_ | refine sw ?_ | refine ja rfl rfl ?_ | refine jd rfl rfl ?_ | refine c_cond rfl (fun h => ?_) (fun h => ?_))
   · refine e_ret ⟨rfl, _, rfl, congrArg (V.int .i64) (fidx_hit hi hget (by simpa using h))⟩
   · refine e_for hlt (all_succ hi fun c' hc' => ?_) ft
     rw [hget] at hc'; cases hc'; simpa using h
 · have hge : ¬ k < l.length := by simpa using h
   repeat' (first | refine i_s rfl ?_ | refine sw ?_ | fail)
   refine e_ret ⟨rfl, _, rfl, congrArg (V.int .i64) (fidx_none fun j hj => hi j (by omega))⟩
def c_slices_Contains_int : Cmd :=
 (qS [qb 4 false]
 (.seq (.ops [qm 5 0, qm 6 1, qk 7 134 [5, 6], qv 8 .geq [] 7 0, qm 4 8]) .ret))
def r_slices_Contains_int : List RVar := [.tmp 4]
def n_slices_Contains_int : Nat := 9
theorem k_slices_Contains_int : chkFn PG 92 n_slices_Contains_int r_slices_Contains_int c_slices_Contains_int = true := by kernel_rfl
theorem f_Contains_int (l : List Int) (v : Int) (hl : l.length ≤ 140737488355328) :
  Fc PG 92 [.sl .p (l.map i64V), .int .i64 v] (.bool (decide (v ∈ l))) := by
 refine Fn.step mixed k_slices_Contains_int ?_
 repeat' (first | refine i_s rfl ?_ | refine sw ?_ | refine sf rfl rfl (f_Index_int l v hl) ?_ | fail)
 refine e_ret ⟨rfl, _, rfl, congrArg V.bool ?_⟩
 rw [fidx_any, Bool.eq_iff_iff]
 simp
def c_strips_Union : Cmd :=
 (qS [qq 4 (.mov (.c (.sl .nil [])))]
 (.seq (.ops [qm 5 0, qm 6 1, qq 7 (.call .f (.c (.fn 135 [])) [.t 5, .t 6, .c (.sl .nil [])]), qm 4 7]) .ret))
def r_strips_Union : List RVar := [.tmp 4]
def n_strips_Union : Nat := 8
theorem k_strips_Union : chkFn PG 94 n_strips_Union r_strips_Union c_strips_Union = true := by kernel_rfl
theorem f_strips_Union (a b : List Int) (ha : a.length ≤ 17592186044) (hb : b.length ≤ 17592186044) :
  Fc PG 94 [.sl .p (a.map i64V), .sl .p (b.map i64V)] (.sl .p ((updL a b []).map i64V)) := by
 refine Fn.step mixed k_strips_Union ?_
 repeat' (first | refine i_s rfl ?_ | refine sw ?_ | refine sf rfl rfl (f_strips_Update a b [] ha hb (by simp) List.Pairwise.nil) ?_ | fail)
 exact e_ret ⟨rfl, _, rfl, rfl⟩
def c_invariant_common : Cmd :=
 (qS [qq 4 (.mov (.c (.sl .nil [])))]
 (qS [qq 5 (.newVec 3008321)]
 (qT (qS [qm 10 0, qn 11 10, qc 12 0]
 (.block 0 (.loop (qS [qu 13 .lss [] 12 11]
 (qT (.cond (.t 13) .skip (.exit 0))
 (qT (.block 1 (qS [qi 14 1 10 12, ql 15 1 14, qm 7 15]
 (qS [qm 17 1, qm 18 7, qk 19 59 [17, 18], qm 16 19, qq 20 (.extract (.t 16) 0), qq 21 (.extract (.t 16) 1), qm 8 20, qm 9 21]
 (qS [qm 22 9]
 (.cond (.t 22) (.ops [qm 23 5, qm 24 7, qq 25 (.bsl 1 [.t 24]), qq 26 (.append 1 8 3 (.t 23) (.t 25)), qm 5 26]) .skip)))))
 (.ops [qv 27 .add [] 12 1, qm 12 27])))))))
 (.seq (.ops [qm 28 5, qm 4 28]) .ret))))
def r_invariant_common : List RVar := [.tmp 4]
def n_invariant_common : Nat := 29
theorem k_invariant_common : chkFn PG 47 n_invariant_common r_invariant_common c_invariant_common = true := by kernel_rfl
theorem f_common (a b : List Int) (ha : a.length ≤ 1000000) (hb : b.length ≤ 1000000) (hs : SS b) :
  Fc PG 47 [.sl .p (a.map i64V), .sl .p (b.map i64V)] (.sl .p ((comL a b).map i64V)) := by
 refine Fn.step mixed k_invariant_common ?_
 repeat (first | refine i_len rfl ?_ | refine i_s rfl ?_ | refine sw ?_ | refine i_nv rfl ?_)
 refine c_for a.length (fun k => [(1, .sl .p (b.map i64V)), (5, .sl (.own 3008321) ((comL (a.take k) b).map i64V)), (10, .sl .p (a.map i64V)), (11, .int .i64 a.length), (12, .int .i64 k)])
  (fun k => [(3008321, .vec (comL (a.take k) b).length)]) (fun _ => True) trivial ft fun k hk _ => ?_
 have hlen : (comL (a.take k) b).length ≤ k := Nat.le_trans (comL_len _ _) (by simp; omega)
 repeat (first | refine i_s rfl ?_ | refine sw ?_)
 refine c_cond rfl (fun h => ?_) (fun h => ?_)
 · have hlt : k < a.length := by simpa using h
   obtain ⟨x, hx⟩ := get_some hlt
   have ef : comL (a.take (k + 1)) b = comL (a.take k) b ++ (if decide (x ∈ b) = true then [x] else []) := take_filter_succ (p := fun x => decide (x ∈ b)) hx
   clear h
   repeat (first | refine i_s rfl ?_ | refine sw ?_ | refine jd rfl rfl ?_ | refine sf rfl rfl (f_BinarySearch b x (by omega) hs) ?_)
   refine c_cond rfl (fun h => ?_) (fun h => ?_)
   · rw [if_pos h] at ef
     repeat' (first | refine i_s rfl ?_ | refine sw ?_ | refine ja rfl rfl ?_ | refine i_appM (c := x) rfl rfl rfl rfl rfl (by omega) (by omega) ?_)
     all_goals first
      | (refine e_for hlt trivial ⟨⟨rfl, ?_, rfl, rfl, rfl, trivial⟩, ⟨?_, trivial⟩, rfl⟩
         · rw [ef]; rfl
         · rw [ef, List.length_append]; rfl)
   · rw [h, if_neg (by decide), List.append_nil] at ef
     repeat' (first | refine i_s rfl ?_ | refine sw ?_ | refine ja rfl rfl ?_ | fail)
     all_goals first
      | (refine e_for hlt trivial ⟨⟨rfl, ?_, rfl, rfl, rfl, trivial⟩, ⟨?_, trivial⟩, rfl⟩
         · rw [ef]; rfl
         · rw [ef]; rfl)
 · have hge : ¬ k < a.length := by simpa using h
   have ek : a.take k = a := List.take_of_length_le (by omega)
   repeat' (first | refine i_s rfl ?_ | refine sw ?_ | fail)
   exact e_ret ⟨rfl, _, rfl, by rw [ek]; rfl⟩
theorem comL_snoc {c s : List Int} {k : Nat} {p : Int} (h : c[k]? = some p) : comL (c.take (k + 1)) s = comL (c.take k) s ++ (if decide (p ∈ s) = true then [p] else []) := by
 rw [take_succ_get h]
 unfold comL
 rw [List.filter_append]
 congr 1
 by_cases e : p ∈ s <;> simp [e]
def c_encode_value : Cmd :=
 (qS [qc 4 0, qc 5 0]
 (qS [qm 12 0, qn 13 12, qm 6 13, qc 7 0]
 (qT (qS [qm 14 0, qn 15 14, qc 16 0]
 (.block 0 (.loop (qS [qu 17 .lss [] 16 15]
 (qT (.cond (.t 17) .skip (.exit 0))
 (qT (.block 1 (qS [qm 18 16, qi 19 1 14 16, ql 20 1 19, qm 8 18, qm 9 20]
 (qS [qm 22 1, qm 23 9, qk 24 59 [22, 23], qm 21 24, qq 25 (.extract (.t 21) 0), qq 26 (.extract (.t 21) 1), qm 10 25, qm 11 26]
 (qS [qm 27 11]
 (.cond (.t 27) (qS [qm 28 8, qm 6 28]
 (.ops [qm 29 7, qv 30 .add [] 29 1, qm 7 30])) .skip)))))
 (.ops [qv 31 .add [] 16 1, qm 16 31])))))))
 (.seq (.ops [qm 32 6, qm 33 7, qm 4 32, qm 5 33]) .ret))))
def r_encode_value : List RVar := [.tmp 4, .tmp 5]
def n_encode_value : Nat := 34
theorem k_encode_value : chkFn PG 27 n_encode_value r_encode_value c_encode_value = true := by kernel_rfl
theorem f_value (c s : List Int) (hc : c.length ≤ 1000000) (hs : s.length ≤ 1000000) (hS : SS s) : Fc PG 27 [.sl .p (c.map i64V), .sl .p (s.map i64V)] (.tup [.int .i64 (valF c s), .int .i64 (manyF c s)]) := by
 refine Fn.step mixed k_encode_value ?_
 repeat (first | refine i_len rfl ?_ | refine i_s rfl ?_ | refine sw ?_)
 refine c_for c.length (fun k => [(1, .sl .p (s.map i64V)), (6, .int .i64 (valK c s k)), (7, .int .i64 (comL (c.take k) s).length), (14, .sl .p (c.map i64V)), (15, .int .i64 c.length), (16, .int .i64 k)]) (fun _ => []) (fun _ => True) trivial ft fun k hk _ => ?_
 have hlen : (comL (c.take k) s).length ≤ k := Nat.le_trans (comL_len _ _) (by simp; omega)
 repeat (first | refine i_s rfl ?_ | refine sw ?_)
 refine c_cond rfl (fun h => ?_) (fun h => ?_)
 · have hlt : k < c.length := by simpa using h
   obtain ⟨p, hp⟩ := get_some hlt
   have ef := comL_snoc (s := s) hp
   have ev_ : valK c s (k + 1) = if p ∈ s then k else valK c s k := by rw [valK, hp]
   clear h
   repeat (first | refine i_s rfl ?_ | refine sw ?_ | refine jd rfl rfl ?_ | refine sf rfl rfl (f_BinarySearch s p (by omega) hS) ?_)
   refine c_cond rfl (fun h => ?_) (fun h => ?_)
   · rw [if_pos h] at ef
     rw [if_pos (of_decide_eq_true h)] at ev_
     repeat' (first | refine i_s rfl ?_ | refine sw ?_ | refine ja rfl rfl ?_ | fail)
     all_goals first
      | (refine e_for hlt trivial ⟨⟨rfl, ?_, ?_, rfl, rfl, rfl, trivial⟩, trivial, rfl⟩
         · rw [ev_]; rfl
         · rw [ef, List.length_append]; rfl)
   · rw [h, if_neg (by decide), List.append_nil] at ef
     rw [if_neg (of_decide_eq_false h)] at ev_
     repeat' (first | refine i_s rfl ?_ | refine sw ?_ | refine ja rfl rfl ?_ | fail)
     all_goals first
      | (refine e_for hlt trivial ⟨⟨rfl, ?_, ?_, rfl, rfl, rfl, trivial⟩, trivial, rfl⟩
         · rw [ev_]; rfl
         · rw [ef]; rfl)
 · have hge : k = c.length := by have : ¬ k < c.length := by simpa using h
                                 omega
   subst hge
   rw [List.take_length]
   repeat' (first | refine i_s rfl ?_ | refine sw ?_ | fail)
   exact e_ret ⟨rfl, _, rfl, rfl⟩
def c_encode_assigned : Cmd :=
 (qS [qq 4 (.mov (.c (.sl .nil []))), qb 5 false]
 (qS [qq 6 (.newVec 1792386)]
 (qT (qS [qm 11 0, qn 12 11, qc 13 0]
 (.block 0 (.loop (qS [qu 14 .lss [] 13 12]
 (qT (.cond (.t 14) .skip (.exit 0))
 (qT (.block 1 (qS [qm 15 13, qi 16 1 11 13, ql 17 1 16, qm 7 15, qm 8 17]
 (qS [qm 19 8, qm 20 1, qk 21 27 [19, 20], qm 18 21, qq 22 (.extract (.t 18) 0), qq 23 (.extract (.t 18) 1), qm 9 22, qm 10 23]
 (qT (qS [qm 24 10, qv 25 .gtr [] 24 1]
 (.cond (.t 25) (.seq (.ops [qq 4 (.mov (.c (.sl .nil []))), qb 5 false]) .ret) .skip))
 (qS [qm 26 10, qv 27 .eql [.i] 26 1]
 (.cond (.t 27) (.ops [qm 28 6, qm 29 7, qm 30 9, qq 31 (.build [.int .i64 0, .int .i64 0] [(0 , 1 , .t 29), (1 , 1 , .t 30)]), qq 32 (.bsl 2 [.t 31]), qq 33 (.append 2 16 95 (.t 28) (.t 32)), qm 6 33]) .skip))))))
 (.ops [qv 34 .add [] 13 1, qm 13 34])))))))
 (.seq (.ops [qm 35 6, qm 4 35, qb 5 true]) .ret))))
def r_encode_assigned : List RVar := [.tmp 4, .tmp 5]
def n_encode_assigned : Nat := 36
theorem k_encode_assigned : chkFn PG 28 n_encode_assigned r_encode_assigned c_encode_assigned = true := by kernel_rfl
theorem f_assigned_bad (cs : List (List Int)) (s : List Int) (hl : cs.length ≤ 1000000) (hc : ∀ c ∈ cs, c.length ≤ 1000000) (hs : s.length ≤ 1000000) (hS : SS s) (hb : asgOk cs s = false) : Fc PG 28 [.sl .p (cs.map isV), .sl .p (s.map i64V)] (.tup [.sl .p [], .bool false]) := by
 have hV : ∀ c ∈ cs, Fc PG 27 [isV c, .sl .p (s.map i64V)] (.tup [.int .i64 (valF c s), .int .i64 (manyF c s)]) := fun c h => f_value c s (hc c h) hs hS
 refine Fn.step mixed k_encode_assigned ?_
 repeat (first | refine i_len rfl ?_ | refine i_s rfl ?_ | refine sw ?_ | refine i_nv rfl ?_)
 refine c_for cs.length (fun k => [(1, .sl .p (s.map i64V)), (6, .sl (.own 1792386) ((asgK cs s k).map asV)), (11, .sl .p (cs.map isV)), (12, .int .i64 cs.length), (13, .int .i64 k)]) (fun k => [(1792386, .vec (asgK cs s k).length)]) (fun k => ∀ j, j < k → ∀ c, cs[j]? = some c → manyF c s ≤ 1) all_zero ft fun k hk hi => ?_
 have hlen : (asgK cs s k).length ≤ 1000000 := Nat.le_trans (asB_len (asgK_asB cs s k)) (by simp [sizesF]; omega)
 repeat (first | refine i_s rfl ?_ | refine sw ?_)
 refine c_cond rfl (fun h => ?_) (fun h => ?_)
 · have hlt : k < cs.length := by simpa using h
   obtain ⟨c, hg⟩ := get_some hlt
   have hv := hV c (mem_get hg)
   have e : asgK cs s (k + 1) = asgK cs s k ++ (if manyF c s = 1 then [⟨k, valF c s⟩] else []) := by rw [asgK, hg]
   clear h hV
   by_cases h1 : manyF c s ≤ 1
   · by_cases h2 : manyF c s = 1
     · rw [if_pos h2] at e
       repeat' (first | refine i_s rfl ?_ | refine sw ?_ | refine ja rfl rfl ?_ | refine jd rfl rfl ?_ | refine c_cond rfl (fun h => ?_) (fun h => ?_) | refine sf rfl rfl hv ?_ | refine i_appM (c := (⟨k, valF c s⟩ : Asg)) rfl rfl rfl rfl rfl (by omega) (by omega) ?_)
       all_goals first
        | (exfalso; simp at *; omega)
        | (refine e_for hlt (all_succ hi fun c' hc' => by rw [hg] at hc'; cases hc'; exact h1) ⟨⟨rfl, ?_, rfl, rfl, rfl, trivial⟩, ⟨?_, trivial⟩, rfl⟩
           · rw [e]; rfl
           · rw [e, List.length_append]; rfl)
     · rw [if_neg h2, List.append_nil] at e
       repeat' (first | refine i_s rfl ?_ | refine sw ?_ | refine ja rfl rfl ?_ | refine jd rfl rfl ?_ | refine c_cond rfl (fun h => ?_) (fun h => ?_) | refine sf rfl rfl hv ?_ | fail)
       all_goals first
        | (exfalso; simp at *; omega)
        | (refine e_for hlt (all_succ hi fun c' hc' => by rw [hg] at hc'; cases hc'; exact h1) ⟨⟨rfl, ?_, rfl, rfl, rfl, trivial⟩, ⟨?_, trivial⟩, rfl⟩
           · rw [e]; rfl
           · rw [e]; rfl)
   · repeat' (first | refine i_s rfl ?_ | refine sw ?_ | refine ja rfl rfl ?_ | refine jd rfl rfl ?_ | refine c_cond rfl (fun h => ?_) (fun h => ?_) | refine sf rfl rfl hv ?_ | fail)
     all_goals first
      | exact e_ret ⟨rfl, _, rfl, rfl⟩
      | (exfalso; simp at *; omega)
 · have hge : k = cs.length := by have : ¬ k < cs.length := by simpa using h
                                  omega
   exfalso
   subst hge
   have : asgOk cs s = true := List.all_eq_true.2 fun c hm => by
    obtain ⟨i, h1, h2⟩ := List.getElem_of_mem hm
    exact decide_eq_true (hi i h1 c (by rw [← h2]; exact List.getElem?_eq_getElem h1))
   rw [this] at hb
   cases hb
theorem f_assigned_ok (cs : List (List Int)) (s : List Int) (hl : cs.length ≤ 1000000) (hc : ∀ c ∈ cs, c.length ≤ 1000000) (hs : s.length ≤ 1000000) (hS : SS s) (hb : asgOk cs s = true) : Fc PG 28 [.sl .p (cs.map isV), .sl .p (s.map i64V)] (.tup [.sl .p ((asgK cs s cs.length).map asV), .bool true]) := by
 have hV : ∀ c ∈ cs, Fc PG 27 [isV c, .sl .p (s.map i64V)] (.tup [.int .i64 (valF c s), .int .i64 (manyF c s)]) := fun c h => f_value c s (hc c h) hs hS
 have hM : ∀ c ∈ cs, manyF c s ≤ 1 := fun c h => of_decide_eq_true (List.all_eq_true.1 hb c h)
 refine Fn.step mixed k_encode_assigned ?_
 repeat (first | refine i_len rfl ?_ | refine i_s rfl ?_ | refine sw ?_ | refine i_nv rfl ?_)
 refine c_for cs.length (fun k => [(1, .sl .p (s.map i64V)), (6, .sl (.own 1792386) ((asgK cs s k).map asV)), (11, .sl .p (cs.map isV)), (12, .int .i64 cs.length), (13, .int .i64 k)]) (fun k => [(1792386, .vec (asgK cs s k).length)]) (fun k => True) trivial ft fun k hk hi => ?_
 have hlen : (asgK cs s k).length ≤ 1000000 := Nat.le_trans (asB_len (asgK_asB cs s k)) (by simp [sizesF]; omega)
 repeat (first | refine i_s rfl ?_ | refine sw ?_)
 refine c_cond rfl (fun h => ?_) (fun h => ?_)
 · have hlt : k < cs.length := by simpa using h
   obtain ⟨c, hg⟩ := get_some hlt
   have hv := hV c (mem_get hg)
   have h1 := hM c (mem_get hg)
   have e : asgK cs s (k + 1) = asgK cs s k ++ (if manyF c s = 1 then [⟨k, valF c s⟩] else []) := by rw [asgK, hg]
   clear h hV hM hb
   by_cases h2 : manyF c s = 1
   · rw [if_pos h2] at e
     repeat' (first | refine i_s rfl ?_ | refine sw ?_ | refine ja rfl rfl ?_ | refine jd rfl rfl ?_ | refine c_cond rfl (fun h => ?_) (fun h => ?_) | refine sf rfl rfl hv ?_ | refine i_appM (c := (⟨k, valF c s⟩ : Asg)) rfl rfl rfl rfl rfl (by omega) (by omega) ?_)
     all_goals first
      | (exfalso; simp at *; omega)
      | (refine e_for hlt trivial ⟨⟨rfl, ?_, rfl, rfl, rfl, trivial⟩, ⟨?_, trivial⟩, rfl⟩
         · rw [e]; rfl
         · rw [e, List.length_append]; rfl)
   · rw [if_neg h2, List.append_nil] at e
     repeat' (first | refine i_s rfl ?_ | refine sw ?_ | refine ja rfl rfl ?_ | refine jd rfl rfl ?_ | refine c_cond rfl (fun h => ?_) (fun h => ?_) | refine sf rfl rfl hv ?_ | fail)
     all_goals first
      | (exfalso; simp at *; omega)
      | (refine e_for hlt trivial ⟨⟨rfl, ?_, rfl, rfl, rfl, trivial⟩, ⟨?_, trivial⟩, rfl⟩
         · rw [e]; rfl
         · rw [e]; rfl)
 · have hge : k = cs.length := by have : ¬ k < cs.length := by simpa using h
                                  omega
   subst hge
   repeat' (first | refine i_s rfl ?_ | refine sw ?_ | fail)
   exact e_ret ⟨rfl, _, rfl, rfl⟩
def c_encode_tooLarge : Cmd :=
 (qS [qq 0 (.alloc 1664004 (.agg [.sl .nil [], .sl .nil [], .sl .nil [], .sl .nil []])), qq 1 (.mov (.c (.sl .nil []))), qq 2 (.alloc 1664130 (.agg [.int .i64 0, .int .i64 0]))]
 (.seq (.ops [qq 3 (.build [.sl .nil [], .sl .nil [], .sl .nil [], .sl .nil []] []), qq 4 (.build [.int .i64 0, .int .i64 0] [(0 , 1 , .c (.int .i64 10)), (1 , 1 , .c (.int .i64 (-9)))]), qs 4 0 3, qq 1 (.mov (.c (.sl .nil []))), qs 2 2 4]) .ret))
def r_encode_tooLarge : List RVar := [.cell true 4 0, .tmp 1, .cell true 2 2]
def n_encode_tooLarge : Nat := 5
theorem k_encode_tooLarge : chkFn PG 26 n_encode_tooLarge r_encode_tooLarge c_encode_tooLarge = true := by kernel_rfl
theorem f_tooLarge : Fc PG 26 [] (.tup [.agg [.sl .p [], .sl .p [], .sl .p [], .sl .p []], .sl .p [], ftV ⟨10, -9⟩]) := by
 refine Fn.step mixed k_encode_tooLarge ?_
 repeat' (first | refine i_s rfl ?_ | refine sw ?_ | refine i_stb rfl ?_ | refine i_alloc rfl ?_)
 exact e_ret ⟨rfl, _, rfl, rfl⟩
def c_encode_Multi_1 : Cmd :=
 (qS [qb 2 false]
 (.seq (.ops [qm 3 0, qn 4 3, qv 5 .add [] 4 1, qv 6 .gtr [] 5 6, qm 2 6]) .ret))
def r_encode_Multi_1 : List RVar := [.tmp 2]
def n_encode_Multi_1 : Nat := 7
theorem k_encode_Multi_1 : chkFn PG 24 n_encode_Multi_1 r_encode_Multi_1 c_encode_Multi_1 = true := by kernel_rfl
theorem f_Multi_1 (c : List Int) (hc : c.length ≤ 1000000) : Fc PG 24 [isV c] (.bool (wideC c)) := by
 refine Fn.step mixed k_encode_Multi_1 ?_
 repeat' (first | refine i_len rfl ?_ | refine i_s rfl ?_ | refine sw ?_ | refine ja rfl rfl ?_ | fail)
 exact e_ret ⟨rfl, _, rfl, rfl⟩
def c_slices_IndexFunc_sint : Cmd :=
 (qS [qc 4 0]
 (qT (qS [qm 6 0, qn 7 6, qc 8 0]
 (.block 0 (.loop (qS [qu 9 .lss [] 8 7]
 (qT (.cond (.t 9) .skip (.exit 0))
 (qT (.block 1 (qS [qm 10 8, qm 5 10]
 (qS [qm 11 1, qm 12 0, qm 13 5, qi 14 1 12 13, ql 15 1 14, qq 16 (.call .f (.t 11) [.t 15])]
 (.cond (.t 16) (.seq (.ops [qm 17 5, qm 4 17]) .ret) .skip))))
 (.ops [qv 18 .add [] 8 1, qm 8 18])))))))
 (.seq (.ops [qc 4 (-1)]) .ret)))
def r_slices_IndexFunc_sint : List RVar := [.tmp 4]
def n_slices_IndexFunc_sint : Nat := 19
theorem k_slices_IndexFunc_sint : chkFn PG 58 n_slices_IndexFunc_sint r_slices_IndexFunc_sint c_slices_IndexFunc_sint = true := by kernel_rfl
theorem f_IndexFunc_sint (l : List (List Int)) (p : List Int → Bool) (fid : Nat) (caps : List V) (hl : l.length ≤ 140737488355328) (he : ∀ σ n, caps.map (er σ (n + 1)) = caps) (hc : closedL [] caps = true) (hp : ∀ t ∈ l, Fc PG fid (isV t :: caps) (.bool (p t))) :
  Fc PG 58 [.sl .p (l.map isV), .fn fid caps] (.int .i64 (fidx p l)) := by
 refine Fn.step mixed k_slices_IndexFunc_sint ?_
 repeat (first | refine i_len rfl ?_ | refine i_s rfl ?_ | refine sw ?_)
 refine c_for l.length (fun k => [(0, .sl .p (l.map isV)), (1, .fn fid caps), (7, .int .i64 l.length), (8, .int .i64 k)]) (fun _ => []) (fun k => ∀ j, j < k → ∀ c, l[j]? = some c → p c = false) all_zero ?_ fun k hk hi => ?_
 · exact ⟨⟨rfl, rfl, rfl, rfl, trivial⟩, trivial, by simp [fitB, closedE, closedB, hc, closedSt, hasAll]⟩
 repeat (first | refine i_s rfl ?_ | refine sw ?_)
 refine c_cond rfl (fun h => ?_) (fun h => ?_)
 · have hlt : k < l.length := by simpa using h
   obtain ⟨c, hget⟩ := get_some hlt
   repeat (first | refine i_s rfl ?_ | refine sw ?_ | refine jd rfl rfl ?_)
   refine i_f rfl (congrArg (isV c :: ·) (he _ 5)) (hp c (mem_get hget)) rfl ?_
   repeat' (first | refine i_s rfl ?_ | refine sw ?_ | refine ja rfl rfl ?_ | refine c_cond rfl (fun h => ?_) (fun h => ?_))
   · refine e_ret ⟨rfl, _, rfl, congrArg (V.int .i64) (fidx_hit hi hget h)⟩
   · refine e_for hlt (all_succ hi fun c' hc' => ?_) ⟨⟨rfl, rfl, rfl, rfl, trivial⟩, trivial, by simp [fitB, closedE, closedB, hc, closedSt, hasAll]⟩
     rw [hget] at hc'; cases hc'; exact h
 · have hge : ¬ k < l.length := by simpa using h
   repeat' (first | refine i_s rfl ?_ | refine sw ?_ | fail)
   refine e_ret ⟨rfl, _, rfl, congrArg (V.int .i64) (fidx_none fun j hj => hi j (by omega))⟩
def c_slices_ContainsFunc_sint : Cmd :=
 (qS [qb 4 false]
 (.seq (.ops [qm 5 0, qm 6 1, qk 7 58 [5, 6], qv 8 .geq [] 7 0, qm 4 8]) .ret))
def r_slices_ContainsFunc_sint : List RVar := [.tmp 4]
def n_slices_ContainsFunc_sint : Nat := 9
theorem k_slices_ContainsFunc_sint : chkFn PG 25 n_slices_ContainsFunc_sint r_slices_ContainsFunc_sint c_slices_ContainsFunc_sint = true := by kernel_rfl
theorem f_ContainsFunc_sint (l : List (List Int)) (p : List Int → Bool) (fid : Nat) (caps : List V) (hl : l.length ≤ 140737488355328) (he : ∀ σ n, caps.map (er σ (n + 1)) = caps) (hc : closedL [] caps = true) (hp : ∀ t ∈ l, Fc PG fid (isV t :: caps) (.bool (p t))) :
  Fc PG 25 [.sl .p (l.map isV), .fn fid caps] (.bool (l.any p)) := by
 refine Fn.step mixed k_slices_ContainsFunc_sint ?_
 repeat (first | refine i_s rfl ?_ | refine sw ?_)
 refine i_f rfl (congrArg (fun x => [V.sl .p (l.map isV), .fn fid x]) (he _ 4)) (f_IndexFunc_sint l p fid caps hl he hc hp) rfl ?_
 repeat' (first | refine i_s rfl ?_ | refine sw ?_ | fail)
 refine e_ret ⟨rfl, _, rfl, congrArg V.bool (fidx_any p l).symm⟩
def c_encode_on_1 : Cmd :=
 (qS [qc 3 0]
 (.seq (.ops [ql 4 1 1, qm 3 4]) .ret))
def r_encode_on_1 : List RVar := [.tmp 3]
def n_encode_on_1 : Nat := 5
theorem k_encode_on_1 : chkFn PG 110 n_encode_on_1 r_encode_on_1 c_encode_on_1 = true := by kernel_rfl
theorem f_on_1 (a x : Int) : Fc PG 110 [i64V x, .cptr .p (.int .i64 a) 0] (.int .i64 a) := by
 refine Fn.step mixed k_encode_on_1 ?_
 repeat' (first | refine i_s rfl ?_ | refine sw ?_ | fail)
 exact e_ret ⟨rfl, _, rfl, rfl⟩
def c_encode_on_2 : Cmd :=
 (qS [qc 4 0]
 (qT (qS [qm 5 0, qv 6 .geq [] 5 0, qm 7 6, qg 8 7 true (.mov (.t 0)), qg 9 7 true (.load false 1 (.t 1)), qg 10 7 true (.len false (.t 9)), qg 11 7 true (.bin .lss false [] (.t 8) (.t 10)), qq 12 (.pick (.t 7) (.t 11) (.c (.bool false))), qm 13 12, qg 14 13 true (.faddr 2 (.t 2)), qg 15 13 true (.load false 1 (.t 14)), qg 16 13 true (.load false 1 (.t 1)), qg 17 13 true (.mov (.t 0)), qg 18 13 true (.iaddr 1 (.t 16) (.t 17)), qg 19 13 true (.load false 1 (.t 18)), qg 20 13 true (.call .f (.c (.fn 92 [])) [.t 15, .t 19]), qq 21 (.pick (.t 13) (.t 20) (.c (.bool false)))]
 (.cond (.t 21) (.seq (.ops [ql 22 1 1, qn 23 22, qm 4 23]) .ret) .skip))
 (.seq (.ops [qm 24 0, qm 4 24]) .ret)))
def r_encode_on_2 : List RVar := [.tmp 4]
def n_encode_on_2 : Nat := 25
theorem k_encode_on_2 : chkFn PG 111 n_encode_on_2 r_encode_on_2 c_encode_on_2 = true := by kernel_rfl
theorem f_on_2 (o : SOp) (c : List Int) (hd : o.del.length ≤ 1000000) (x : Int) : Fc PG 111 [i64V x, .cptr .p (isV c) 0, .cptr .p (soV o) 0] (.int .i64 (if delAt o c x = true then c.length else x)) := by
 by_cases h : 0 ≤ x ∧ x < c.length
 · obtain ⟨h0, h1⟩ := h
   obtain ⟨p, hp⟩ := get_some (l := c) (k := x.toNat) (by omega)
   have e : delAt o c x = decide (p ∈ o.del) := by unfold delAt; rw [hp, decide_eq_true h0]; rfl
   rw [e]
   have hC := f_Contains_int o.del p (by omega)
   refine Fn.step mixed k_encode_on_2 ?_
   repeat' (first | refine i_len rfl ?_ | refine i_s rfl ?_ | refine sw ?_ | refine i_gt rfl ?_ | refine i_gf rfl ?_ | refine c_f rfl ?_ | refine jd rfl rfl ?_ | (refine sp ?_ ?_ <;> try intro h) | refine sf rfl rfl hC ?_ | fail)
   all_goals clear hC
   all_goals first
    | (exfalso; simp at *; done)
    | (exfalso; simp at *; omega)
    | (refine e_ret ⟨rfl, _, rfl, congrArg (V.int .i64) ?_⟩; simp_all; done)
 · have e : delAt o c x = false := by
    unfold delAt
    by_cases h0 : 0 ≤ x
    · rw [List.getElem?_eq_none (by omega), Bool.and_false]
    · rw [decide_eq_false h0]; rfl
   rw [e, if_neg (by decide)]
   refine Fn.step mixed k_encode_on_2 ?_
   repeat' (first | refine i_len rfl ?_ | refine i_s rfl ?_ | refine sw ?_ | refine i_gt rfl ?_ | refine i_gf rfl ?_ | refine c_f rfl ?_ | refine i_g rfl (fun h => ?_) (fun h => ?_))
   all_goals first
    | (exfalso; simp at *; done)
    | (exfalso; simp at *; omega)
    | exact e_ret ⟨rfl, _, rfl, rfl⟩
def c_encode_on : Cmd :=
 (qS [qx 2 3840132 4 0, qx 3 3840193 1 1, qq 4 (.alloc 3840259 (.agg [.bool false, .int .i64 0, .nilfn]))]
 (qS [ql 12 1 3, qf 13 0 2, ql 14 1 13, qk 15 27 [12, 14], qm 11 15, qq 16 (.extract (.t 11) 0), qq 17 (.extract (.t 11) 1), qm 5 16, qm 6 17]
 (qT (qS [qm 18 6, qv 19 .eql [.i] 18 0]
 (.cond (.t 19) (.ops [qc 5 (-1)]) .skip))
 (qT (qS [ql 21 1 3, qf 22 1 2, ql 23 1 22, qk 24 27 [21, 23], qm 20 24, qq 25 (.extract (.t 20) 0), qq 26 (.extract (.t 20) 1), qq 7 (.alloc 3840449 (.int .i64 0)), qs 1 7 25, qm 8 26]
 (qS [qm 27 8, qv 28 .gtr [] 27 0]
 (.cond (.t 28) (.seq (.ops [qm 29 5, qq 30 (.mkfn 110 [.t 7]), qq 31 (.build [.bool false, .int .i64 0, .nilfn] [(1 , 1 , .t 29), (2 , 1 , .t 30)]), qs 3 4 31]) .ret) .skip)))
 (qS [ql 33 1 3, qf 34 2 2, ql 35 1 34, qk 36 27 [33, 35], qm 32 36, qq 37 (.extract (.t 32) 0), qq 38 (.extract (.t 32) 1), qm 9 37, qm 10 38]
 (.seq (.ops [qm 39 5, qv 40 .lss [] 39 0, qm 41 40, qg 42 41 true (.mov (.t 10)), qg 43 41 true (.bin .gtr false [] (.t 42) (.c (.int .i64 0))), qq 44 (.pick (.t 41) (.t 43) (.c (.bool false))), qm 45 5, qq 46 (.mkfn 111 [.t 3, .t 2]), qq 47 (.build [.bool false, .int .i64 0, .nilfn] [(0 , 1 , .t 44), (1 , 1 , .t 45), (2 , 1 , .t 46)]), qs 3 4 47]) .ret))))))
def r_encode_on : List RVar := [.cell true 3 4]
def n_encode_on : Nat := 48
theorem k_encode_on : chkFn PG 60 n_encode_on r_encode_on c_encode_on = true := by kernel_rfl
theorem f_on_fix (o : SOp) (c : List Int) (h1 : o.pre.length ≤ 1000000) (h2 : o.add.length ≤ 1000000) (h3 : o.del.length ≤ 1000000) (s1 : SS o.pre) (s2 : SS o.add) (s3 : SS o.del) (hc : c.length ≤ 1000000) (hA : 0 < manyF c o.add) :
  Fc PG 60 [soV o, isV c] (.agg [.bool false, .int .i64 (preE o c), .fn 110 [.cptr .p (.int .i64 (valF c o.add)) 0]]) := by
 have v1 := f_value c o.pre hc h1 s1
 have v2 := f_value c o.add hc h2 s2
 by_cases hP : manyF c o.pre = 0
 · have e1 : preE o c = -1 := if_pos hP
   rw [e1]
   refine Fn.step mixed k_encode_on ?_
   repeat' (first | refine i_s rfl ?_ | refine sw ?_ | refine i_stb rfl ?_ | refine i_alloc rfl ?_ | refine i_box rfl rfl ?_ | refine c_cond rfl (fun h => ?_) (fun h => ?_) | refine sf rfl rfl v1 ?_ | refine sf rfl rfl v2 ?_ | fail)
   all_goals clear v1 v2
   all_goals first
    | (exfalso; simp at *; done)
    | (exfalso; simp at *; omega)
    | exact e_ret ⟨rfl, _, rfl, rfl⟩
 · have e1 : preE o c = valF c o.pre := if_neg hP
   rw [e1]
   refine Fn.step mixed k_encode_on ?_
   repeat' (first | refine i_s rfl ?_ | refine sw ?_ | refine i_stb rfl ?_ | refine i_alloc rfl ?_ | refine i_box rfl rfl ?_ | refine c_cond rfl (fun h => ?_) (fun h => ?_) | refine sf rfl rfl v1 ?_ | refine sf rfl rfl v2 ?_ | fail)
   all_goals clear v1 v2
   all_goals first
    | (exfalso; simp at *; done)
    | (exfalso; simp at *; omega)
    | exact e_ret ⟨rfl, _, rfl, rfl⟩
theorem f_on_del (o : SOp) (c : List Int) (h1 : o.pre.length ≤ 1000000) (h2 : o.add.length ≤ 1000000) (h3 : o.del.length ≤ 1000000) (s1 : SS o.pre) (s2 : SS o.add) (s3 : SS o.del) (hc : c.length ≤ 1000000) (hA : manyF c o.add = 0) :
  Fc PG 60 [soV o, isV c] (.agg [.bool (openE o c), .int .i64 (preE o c), .fn 111 [.cptr .p (isV c) 0, .cptr .p (soV o) 0]]) := by
 have v1 := f_value c o.pre hc h1 s1
 have v2 := f_value c o.add hc h2 s2
 have v3 := f_value c o.del hc h3 s3
 by_cases hP : manyF c o.pre = 0
 · have e1 : preE o c = -1 := if_pos hP
   have e2 : openE o c = decide ((manyF c o.del : Int) > 0) := by
    unfold openE
    rw [decide_eq_true hA, decide_eq_true hP]
    by_cases h : 0 < manyF c o.del
    · rw [decide_eq_true h, decide_eq_true (by omega)]; rfl
    · rw [decide_eq_false h, decide_eq_false (by omega)]; rfl
   rw [e1, e2]
   refine Fn.step mixed k_encode_on ?_
   repeat' (first | refine i_s rfl ?_ | refine sw ?_ | refine i_gt rfl ?_ | refine i_gf rfl ?_ | refine i_stb rfl ?_ | refine i_alloc rfl ?_ | refine i_box rfl rfl ?_ | refine c_cond rfl (fun h => ?_) (fun h => ?_) | refine sf rfl rfl v1 ?_ | refine sf rfl rfl v2 ?_ | refine sf rfl rfl v3 ?_ | fail)
   all_goals clear v1 v2 v3
   all_goals first
    | (exfalso; simp at *; done)
    | (exfalso; simp at *; omega)
    | exact e_ret ⟨rfl, _, rfl, rfl⟩
 · have e1 : preE o c = valF c o.pre := if_neg hP
   have e2 : openE o c = false := by
    unfold openE
    rw [decide_eq_false hP]
    simp
   rw [e1, e2]
   refine Fn.step mixed k_encode_on ?_
   repeat' (first | refine i_s rfl ?_ | refine sw ?_ | refine i_gt rfl ?_ | refine i_gf rfl ?_ | refine i_stb rfl ?_ | refine i_alloc rfl ?_ | refine i_box rfl rfl ?_ | refine c_cond rfl (fun h => ?_) (fun h => ?_) | refine sf rfl rfl v1 ?_ | refine sf rfl rfl v2 ?_ | refine sf rfl rfl v3 ?_ | fail)
   all_goals clear v1 v2 v3
   all_goals first
    | (exfalso; simp at *; done)
    | (exfalso; simp at *; omega)
    | exact e_ret ⟨rfl, _, rfl, rfl⟩
theorem f_on (o : SOp) (c : List Int) (h1 : o.pre.length ≤ 1000000) (h2 : o.add.length ≤ 1000000) (h3 : o.del.length ≤ 1000000) (s1 : SS o.pre) (s2 : SS o.add) (s3 : SS o.del) (hc : c.length ≤ 1000000) :
  (Fc PG 60 [soV o, isV c] (.agg [.bool (openE o c), .int .i64 (preE o c), .fn 110 [.cptr .p (.int .i64 (valF c o.add)) 0]]) ∧ ∀ x, Fc PG 110 [i64V x, .cptr .p (.int .i64 (valF c o.add)) 0] (.int .i64 (postE o c x))) ∨
  (Fc PG 60 [soV o, isV c] (.agg [.bool (openE o c), .int .i64 (preE o c), .fn 111 [.cptr .p (isV c) 0, .cptr .p (soV o) 0]]) ∧ ∀ x, Fc PG 111 [i64V x, .cptr .p (isV c) 0, .cptr .p (soV o) 0] (.int .i64 (postE o c x))) := by
 by_cases hA : 0 < manyF c o.add
 · have e : openE o c = false := by
    unfold openE
    rw [decide_eq_false (by omega)]
    rfl
   refine .inl ⟨by rw [e]; exact f_on_fix o c h1 h2 h3 s1 s2 s3 hc hA, fun x => ?_⟩
   have e2 : postE o c x = valF c o.add := by unfold postE; rw [if_pos hA]
   rw [e2]
   exact f_on_1 _ x
 · refine .inr ⟨f_on_del o c h1 h2 h3 s1 s2 s3 hc (by omega), fun x => ?_⟩
   have e2 : postE o c x = if delAt o c x = true then (c.length : Int) else x := by unfold postE; rw [if_neg hA]
   rw [e2]
   exact f_on_2 o c h3 x
end Hm
end
section
namespace Hm
open Go
set_option maxRecDepth 100000
set_option maxHeartbeats 2000000
def ssV (s : List Int) : V := .sl .p (s.map i64V)
theorem set_le {t : STask} (hv : SV t) {l : List Int} (h : IsSet t.facts l) : l.length ≤ 24 := by
 have := isSet_len h hv.f0
 have := hv.f1
 omega
end Hm
end
section
namespace Hm
open Go
set_option maxRecDepth 100000
set_option maxHeartbeats 4000000
theorem updL_le (s add del : List Int) : (updL s add del).length ≤ s.length + add.length := by
 have h1 := ddK_len (srtL (s.filter (fun x => decide (x ∉ del)) ++ add)) (srtL (s.filter (fun x => decide (x ∉ del)) ++ add)).length
 have h2 := srtL_len (s.filter (fun x => decide (x ∉ del)) ++ add)
 have h3 := List.length_filter_le (fun x => decide (x ∉ del)) s
 rw [List.length_append] at h2
 unfold updL compL
 omega
def c_invariant_keeps : Cmd :=
 (qS [qx 2 3200132 4 0, qb 4 false]
 (qS [qf 7 0 2, ql 8 1 7, qm 9 1, qk 10 47 [8, 9], qf 11 1 2, ql 12 1 11, qm 13 1, qk 14 47 [12, 13], qm 5 10, qm 6 14]
 (qT (.block 0 (qS [qm 16 5, qn 17 16, qv 18 .gtr [] 17 1, qm 19 18, qg 20 19 false (.mov (.t 6)), qg 21 19 false (.len false (.t 20)), qg 22 19 false (.bin .eql false [.i] (.t 21) (.c (.int .i64 0))), qq 23 (.pick (.t 19) (.c (.bool true)) (.t 22)), qm 15 23]
 (.cond (.t 15) (.seq (.ops [qb 4 true]) .ret) (qS [qm 25 6, qn 26 25, qv 27 .gtr [] 26 1, qm 24 27]
 (.cond (.t 24) (.seq (.ops [qb 4 false]) .ret) (qS [qm 29 5, qn 30 29, qv 31 .eql [.i] 30 1, qm 28 31]
 (.cond (.t 28) (.seq (.ops [qm 32 5, qq 33 (.iaddr 1 (.t 32) (.c (.int .i64 0))), ql 34 1 33, qm 35 6, qq 36 (.iaddr 1 (.t 35) (.c (.int .i64 0))), ql 37 1 36, qu 38 .eql [.i] 34 37, qm 39 38, qg 40 39 false (.faddr 2 (.t 2)), qg 41 39 false (.load false 1 (.t 40)), qg 42 39 false (.mov (.t 5)), qg 43 39 false (.iaddr 1 (.t 42) (.c (.int .i64 0))), qg 44 39 false (.load false 1 (.t 43)), qg 45 39 false (.call .f (.c (.fn 92 [])) [.t 41, .t 44]), qq 46 (.pick (.t 39) (.c (.bool true)) (.t 45)), qm 4 46]) .ret) .skip)))))))
 (.seq (.ops [qf 47 2 2, ql 48 1 47, qm 49 6, qk 50 94 [48, 49], qm 51 1, qk 52 93 [50, 51], qm 4 52]) .ret))))
def r_invariant_keeps : List RVar := [.tmp 4]
def n_invariant_keeps : Nat := 53
theorem k_invariant_keeps : chkFn PG 50 n_invariant_keeps r_invariant_keeps c_invariant_keeps = true := by kernel_rfl
theorem f_keeps (o : SOp) (g : List Int) (h1 : o.pre.length ≤ 1000000) (h2 : o.add.length ≤ 1000000) (h3 : o.del.length ≤ 1000000) (hl : g.length ≤ 1000000) (hg : SS g) :
  Fc PG 50 [soV o, .sl .p (g.map i64V)] (.bool (keepB o g)) := by
 have hP := f_common o.pre g h1 hl hg
 have hA := f_common o.add g h2 hl hg
 have hAl := comL_len o.add g
 have hU := f_strips_Union o.del (comL o.add g) (by omega) (by omega)
 have hI := f_strips_Contains (updL o.del (comL o.add g) []) g (by have := updL_le o.del (comL o.add g) []; omega) (by omega) (updL_ss _ _ _) hg
 have hC := fun x => f_Contains_int o.del x (by omega)
 unfold keepB
 generalize comL o.pre g = P at *
 generalize comL o.add g = A at *
 rcases P with _ | ⟨p, _ | ⟨q, P⟩⟩ <;> rcases A with _ | ⟨a, _ | ⟨b, A⟩⟩
 all_goals
  refine Fn.step mixed k_invariant_keeps ?_
  repeat' (first | refine i_len rfl ?_ | refine i_s rfl ?_ | refine sw ?_ | refine i_gt rfl ?_ | refine i_gf rfl ?_ | refine c_t rfl ?_ | refine c_f rfl ?_ | refine i_box rfl rfl ?_ | (refine sp ?_ ?_ <;> try intro h) | refine sf rfl rfl hP ?_ | refine sf rfl rfl hA ?_ | refine sf rfl rfl hU ?_ | refine sf rfl rfl hI ?_ | refine sf rfl rfl (hC _) ?_ | refine i_ia rfl rfl (by decide) rfl rfl ?_)
  all_goals clear hP hA hU hI hC
  all_goals first
   | (exfalso; simp at *; done)
   | (exfalso; simp at *; omega)
   | (refine e_ret ⟨rfl, _, rfl, congrArg V.bool ?_⟩; simp; done)
   | (refine e_ret ⟨rfl, _, rfl, congrArg V.bool ?_⟩; simp at *; grind)
   | (refine e_ret ⟨rfl, _, rfl, congrArg V.bool ?_⟩; rename_i h; rw [Bool.eq_iff_iff]; simp at h ⊢; grind)
def c_invariant_Holds_1 : Cmd :=
 (qS [qx 2 3136132 4 0, qb 3 false]
 (.seq (.ops [qL 4 4 2, ql 5 1 1, qk 6 50 [4, 5], qq 7 (.not (.t 6)), qm 3 7]) .ret))
def r_invariant_Holds_1 : List RVar := [.tmp 3]
def n_invariant_Holds_1 : Nat := 8
theorem k_invariant_Holds_1 : chkFn PG 49 n_invariant_Holds_1 r_invariant_Holds_1 c_invariant_Holds_1 = true := by kernel_rfl
theorem f_Holds_1 (o : SOp) (g : List Int) (h1 : o.pre.length ≤ 1000000) (h2 : o.add.length ≤ 1000000) (h3 : o.del.length ≤ 1000000) (hl : g.length ≤ 1000000) (hg : SS g) :
  Fc PG 49 [soV o, .cptr .p (.sl .p (g.map i64V)) 0] (.bool (!keepB o g)) := by
 refine Fn.step mixed k_invariant_Holds_1 ?_
 repeat' (first | refine i_s rfl ?_ | refine sw ?_ | refine i_box rfl rfl ?_ | refine sf rfl rfl (f_keeps o g h1 h2 h3 hl hg) ?_ | fail)
 exact e_ret ⟨rfl, _, rfl, rfl⟩
def c_invariant_Holds : Cmd :=
 (qS [qx 2 1024132 4 0, qx 3 1024193 1 1, qb 4 false]
 (.seq (.ops [qf 5 1 2, ql 6 1 5, ql 7 1 3, qk 8 47 [6, 7], qn 9 8, qv 10 .leq [] 9 1, qm 11 10, qg 12 11 true (.faddr 3 (.t 2)), qg 13 11 true (.load false 1 (.t 12)), qg 14 11 true (.mkfn 49 [.t 3]), qg 15 11 true (.call .f (.c (.fn 48 [])) [.t 13, .t 14]), qg 16 11 true (.not (.t 15)), qq 17 (.pick (.t 11) (.t 16) (.c (.bool false))), qm 4 17]) .ret))
def r_invariant_Holds : List RVar := [.tmp 4]
def n_invariant_Holds : Nat := 18
theorem k_invariant_Holds : chkFn PG 16 n_invariant_Holds r_invariant_Holds c_invariant_Holds = true := by kernel_rfl
theorem f_Holds (t : STask) (hv : SV t) (g : List Int) (hl : g.length ≤ 1000000) (hg : SS g) :
  Fc PG 16 [skV t, .sl .p (g.map i64V)] (.bool (holdB t g)) := by
 have hs : ∀ {s : List Int}, IsSet t.facts s → s.length ≤ 1000000 := fun h => by have := set_le hv h; omega
 have hI := f_common t.init g (hs hv.init) hl hg
 have hC := f_ContainsFunc_Operator t.ops (fun o => !keepB o g) 49 [.cptr .p (.sl .p (g.map i64V)) 0] (by have := hv.opl; omega) (fun _ _ => rfl) rfl (fun o ho => by
  have := hv.op o ho
  exact f_Holds_1 o g (hs this.pre) (hs this.add) (hs this.del) hl hg)
 have hil := comL_len t.init g
 have hik := hs hv.init
 refine Fn.step mixed k_invariant_Holds ?_
 repeat' (first | refine i_len rfl ?_ | refine i_s rfl ?_ | refine sw ?_ | refine i_gt rfl ?_ | refine i_gf rfl ?_ | refine i_box rfl rfl ?_ | refine i_g rfl (fun h => ?_) (fun h => ?_) | refine sf rfl rfl hI ?_ | refine sf rfl rfl hC ?_ | fail)
 all_goals first
  | (refine e_ret ⟨rfl, _, rfl, congrArg V.bool ?_⟩; unfold holdB; simp at *; grind)
  | (exfalso; simp at *; omega)
theorem i_cs {G : Type} {P : Program} {H : HT G} {pn : List Nat} {Q : Exit → Env → Store → G → Prop} {fs : List (Frm G)} {r : List GItem} {ρ : Env} {σ : Store} {g : G} {dst : Option Nat} {f : Opd} {args : List Opd} {fid : Nat} {av : List V} {ns : List Nat} {L : List (Nat × Blk)}
  (hf : calv ρ f args = some (fid, av)) (hcl : closedL ns av = true) (hcs : closedSt ns σ ns = true) (hL : ns.map (fun nm => (nm, σ nm)) = L) {K : V → Store → G → Prop} (hc : Cc P H fid av ns (stOf L) g K)
  (h : ∀ v σ' g', K v σ' g' → WI P H pn Q fs r (put ρ dst v) (Hm.merge ns σ σ') g') : WI P H pn Q fs (.op dst none (.call (.s ns) f args) :: r) ρ σ g :=
 i_c hf hcl hcs (by rw [restr_stOf, hL]; exact hc) h
def usedL (n : Nat) (U : List Int) : List V := (List.range n).map fun (p : Nat) => V.bool (decide ((p : Int) ∈ U))
theorem usedL_nil (n : Nat) : List.replicate n (V.bool false) = usedL n [] := by
 unfold usedL
 refine List.ext_getElem (by simp) fun i h1 h2 => by simp
theorem usedL_get {n : Nat} {U : List Int} {x : Int} (h0 : 0 ≤ x) (h1 : x < n) : (usedL n U)[x.toNat]? = some (V.bool (decide (x ∈ U))) := by
 unfold usedL
 rw [List.getElem?_map, List.getElem?_range (by omega)]
 show some (V.bool (decide (((x.toNat : Nat) : Int) ∈ U))) = _
 rw [show ((x.toNat : Nat) : Int) = x by omega]
theorem usedL_set {n : Nat} {U : List Int} {x : Int} (h0 : 0 ≤ x) (h1 : x < n) : (usedL n U).set x.toNat (V.bool true) = usedL n (U ++ [x]) := by
 unfold usedL
 refine List.ext_getElem (by simp) fun i h1 h2 => ?_
 rw [List.getElem_set]
 simp only [List.getElem_map, List.getElem_range, List.mem_append, List.mem_singleton]
 split
 · rename_i e
   rw [decide_eq_true (by right; omega)]
 · rename_i e
   congr 1
   have : ¬ (i : Int) = x := by omega
   simp [this]
theorem newL_snoc {U l : List Int} {k : Nat} {x : Int} (h : l[k]? = some x) : newL U (l.take (k + 1)) = newL U (l.take k) ++ (if decide (x ∈ U) = true then [] else [x]) := by
 rw [take_succ_get h]
 unfold newL
 rw [List.filter_append]
 congr 1
 by_cases e : x ∈ U <;> simp [e]
theorem newL_fresh {U l : List Int} (hn : l.Nodup) {k : Nat} {x : Int} (h : l[k]? = some x) : (x ∈ U ++ newL U (l.take k)) ↔ x ∈ U := by
 rw [List.mem_append]
 constructor
 · rintro (h1 | h1)
   · exact h1
   · have h2 := (newL_mem.1 h1).1
     exfalso
     obtain ⟨i, hi, e⟩ := List.getElem_of_mem h2
     have hi' : i < k := by simp at hi; omega
     have h3 : l[i]? = some x := by
      rw [← e, List.getElem_take]
      exact List.getElem?_eq_getElem (by simp at hi; omega)
     have := (List.getElem?_inj (get_lt h3) hn).1 (h3.trans h.symm)
     omega
 · exact .inl
theorem newL_len (U l : List Int) : (newL U l).length ≤ l.length := List.length_filter_le _ _
theorem takeC_len (a : List (List Int) × List Int) (l : List Int) : (takeC a l).1.length ≤ a.1.length + 1 := by
 unfold takeC
 by_cases h : newL a.2 l = []
 · rw [if_pos h]; simp
 · rw [if_neg h]; simp
theorem foldC_len : ∀ (l : List (List Int)) (a : List (List Int) × List Int), (l.foldl takeC a).1.length ≤ a.1.length + l.length
 | [], a => by simp
 | g :: l, a => by
  have h1 := foldC_len l (takeC a g)
  have h2 := takeC_len a g
  simp only [List.foldl_cons, List.length_cons]
  omega
theorem foldC_snoc {l : List (List Int)} {k : Nat} {g : List Int} (h : l[k]? = some g) (a : List (List Int) × List Int) : (l.take (k + 1)).foldl takeC a = takeC ((l.take k).foldl takeC a) g := by
 rw [take_succ_get h, List.foldl_append]
 rfl
def c_encode_cover_1 : Cmd :=
 (qS [qq 4 (.newVec 3648257)]
 (.seq (qS [qm 7 0, qn 8 7, qc 9 0]
 (.block 0 (.loop (qS [qu 10 .lss [] 9 8]
 (qT (.cond (.t 10) .skip (.exit 0))
 (qT (.block 1 (qS [qi 11 1 7 9, ql 12 1 11, qm 6 12]
 (qS [ql 13 1 1, qm 14 6, qi 15 1 13 14, ql 16 1 15, qq 17 (.not (.t 16))]
 (.cond (.t 17) (qS [ql 18 1 1, qm 19 6, qi 20 1 18 19, .op none none (.store 1 (.t 20) (.c (.bool true)))]
 (.ops [qm 21 4, qm 22 6, qq 23 (.bsl 1 [.t 22]), qq 24 (.append 1 8 3 (.t 21) (.t 23)), qm 4 24])) .skip))))
 (.ops [qv 25 .add [] 9 1, qm 9 25]))))))) (qT (.frz 4)
 (qS [qm 26 4, qn 27 26, qv 28 .gtr [] 27 0]
 (.cond (.t 28) (.ops [ql 29 1 2, qm 30 4, qq 31 (.bsl 1 [.t 30]), qq 32 (.append 1 24 22 (.t 29) (.t 31)), qs 1 2 32]) .skip)))))
def r_encode_cover_1 : List RVar := []
def n_encode_cover_1 : Nat := 33
theorem k_encode_cover_1 : chkFn PG 57 n_encode_cover_1 r_encode_cover_1 c_encode_cover_1 = true := by kernel_rfl
abbrev cvS (n : Nat) (a : List (List Int) × List Int) : List (Nat × Blk) := [(1472385, .box (.msl 1472833 0 0 n)), (1472321, .box (.sl (.own 1475201) (a.1.map isV))), (1475201, .vec a.1.length), (1472833, .arr 0 (usedL n a.2))]
theorem ct_take {G : Type} {H : HT G} (n : Nat) (a : List (List Int) × List Int) (l : List Int) (hr : ∀ x ∈ l, 0 ≤ x ∧ x < n) (hn : l.Nodup) (hl : l.length ≤ 1000000) (ha : a.1.length ≤ 1000000) (g : G) :
  Cc PG H 57 [isV l, .bptr 1472385 0, .bptr 1472321 0] [1472385, 1472321, 1475201, 1472833] (stOf (cvS n a)) g fun r σ' g' => (r = .tup [] ∧ σ' = stOf (cvS n (takeC a l))) ∧ g' = g := by
 obtain ⟨out, U⟩ := a
 simp only at ha
 refine CT.step _ mixed k_encode_cover_1 (fun nm h => stOf_mem _ nm h) fun hM => ?_
 repeat (first | refine i_len rfl ?_ | refine i_s rfl ?_ | refine sw ?_ | refine i_nv rfl ?_)
 refine c_for l.length (fun k => [(1, .bptr 1472385 0), (2, .bptr 1472321 0), (4, .sl (.own 3648257) ((newL U (l.take k)).map i64V)), (7, isV l), (8, .int .i64 l.length), (9, .int .i64 k)])
  (fun k => [(1472385, .box (.msl 1472833 0 0 n)), (1472321, .box (.sl (.own 1475201) (out.map isV))), (1475201, .vec out.length), (1472833, .arr 0 (usedL n (U ++ newL U (l.take k)))), (3648257, .vec (newL U (l.take k)).length)]) (fun _ => True) trivial ?_ fun k hk _ => ?_
 · refine ⟨⟨rfl, rfl, rfl, rfl, rfl, rfl, trivial⟩, ⟨rfl, rfl, rfl, ?_, rfl, trivial⟩, rfl⟩
   show Blk.arr 0 (usedL n U) = Blk.arr 0 (usedL n (U ++ newL U (l.take 0)))
   rw [List.take_zero]
   show Blk.arr 0 (usedL n U) = Blk.arr 0 (usedL n (U ++ []))
   rw [List.append_nil]
 have hlen : (newL U (l.take k)).length ≤ k := Nat.le_trans (newL_len _ _) (by simp; omega)
 repeat (first | refine i_s rfl ?_ | refine sw ?_)
 refine c_cond rfl (fun h => ?_) (fun h => ?_)
 · have hlt : k < l.length := by simpa using h
   obtain ⟨x, hx⟩ := get_some hlt
   obtain ⟨x0, x1⟩ := hr x (mem_get hx)
   have ef := newL_snoc (U := U) hx
   have hfr := newL_fresh (U := U) hn hx
   have hg := usedL_get (U := U ++ newL U (l.take k)) x0 x1
   have hst := usedL_set (U := U ++ newL U (l.take k)) x0 x1
   rw [show decide (x ∈ U ++ newL U (l.take k)) = decide (x ∈ U) from by rw [decide_eq_decide]; exact hfr] at hg
   clear h hr hn hfr
   by_cases hu : x ∈ U
   · rw [decide_eq_true hu, if_pos rfl, List.append_nil] at ef
     rw [decide_eq_true hu] at hg
     repeat' (first | refine i_s rfl ?_ | refine sw ?_ | refine c_f rfl ?_ | refine ja rfl rfl ?_ | refine jd rfl rfl ?_ | refine i_ima rfl rfl rfl rfl x0 x1 rfl ?_ | refine i_ldp rfl rfl rfl (by rw [Nat.zero_add]; exact hg) rfl ?_)
     all_goals first
      | (exfalso; simp at *; done)
      | (refine e_for hlt trivial ⟨⟨rfl, rfl, ?_, rfl, rfl, rfl, trivial⟩, ⟨rfl, rfl, rfl, ?_, ?_, trivial⟩, rfl⟩
         · rw [ef]; rfl
         · rw [ef]; rfl
         · rw [ef]; rfl)
   · rw [decide_eq_false hu, if_neg (by decide)] at ef
     rw [decide_eq_false hu] at hg
     repeat' (first | refine i_s rfl ?_ | refine sw ?_ | refine c_t rfl ?_ | refine ja rfl rfl ?_ | refine jd rfl rfl ?_ | refine i_ima rfl rfl rfl rfl x0 x1 rfl ?_ | refine i_ldp rfl rfl rfl (by rw [Nat.zero_add]; exact hg) rfl ?_ | refine i_stp rfl rfl rfl (by rw [Nat.zero_add]; exact hg) rfl rfl ?_ | refine i_appM (c := x) rfl rfl rfl rfl rfl (by omega) (by omega) ?_)
     all_goals first
      | (exfalso; simp at *; done)
      | (refine e_for hlt trivial ⟨⟨rfl, rfl, ?_, rfl, rfl, rfl, trivial⟩, ⟨rfl, rfl, rfl, ?_, ?_, trivial⟩, rfl⟩
         · rw [ef]; rfl
         · rw [ef, ← List.append_assoc, ← hst]
           show Blk.arr 0 ((usedL n (U ++ newL U (l.take k))).set (0 + x.toNat) (V.bool true)) = _
           rw [Nat.zero_add]
         · rw [ef, List.length_append]; rfl)
 · have hge : k = l.length := by have : ¬ k < l.length := by simpa using h
                                 omega
   subst hge
   rw [List.take_length]
   clear h
   have hnl := newL_len U l
   by_cases hc : newL U l = []
   · have e : takeC (out, U) l = (out, U ++ []) := by unfold takeC; simp only [hc, if_pos]
     rw [e, hc]
     repeat' (first | refine i_len rfl ?_ | refine i_s rfl ?_ | refine sw ?_ | refine c_f rfl ?_ | refine c_frzv rfl rfl ?_)
     all_goals first
      | (exfalso; simp at *; done)
      | exact e_end ⟨rfl, _, rfl, rfl, rfl, ⟨rfl, restr_stOf _ _⟩, rfl⟩
   · have e : takeC (out, U) l = (out ++ [newL U l], U ++ newL U l) := by unfold takeC; simp only [if_neg hc]
     rw [e]
     have hp : 0 < (newL U l).length := List.length_pos_iff.2 hc
     repeat' (first | refine i_len rfl ?_ | refine i_s rfl ?_ | refine sw ?_ | refine i_stb rfl ?_ | refine c_cond rfl (fun h => ?_) (fun h => ?_) | refine c_frzv rfl rfl ?_ | refine i_appM (c := newL U l) rfl rfl rfl rfl rfl (by omega) (by omega) ?_)
     all_goals first
      | (exfalso; have := of_decide_eq_false h; omega)
      | (refine e_end ⟨rfl, _, rfl, rfl, rfl, ⟨rfl, ?_⟩, rfl⟩
         rw [restr_stOf]
         show _ = stOf [_, _, (1475201, .vec (out ++ [newL U l]).length), _]
         rw [List.length_append]
         rfl)
def c_encode_cover : Cmd :=
 (qS [qx 2 1472132 4 0, qq 4 (.mov (.c (.sl .nil [])))]
 (.seq (.ops [qq 5 (.alloc 1472321 (.sl .nil []))]) (.nvs 5 1475201 (.cut (qS [qf 11 0 2, ql 12 1 11, qq 13 (.mkSl 1472833 1 1 (.bool false) (.t 12) (.t 12)), qq 6 (.alloc 1472385 (.sl .nil [])), qs 1 6 13]
 (qS [qq 14 (.mkfn 57 [.t 6, .t 5]), qm 7 14]
 (qT (qS [qm 15 1, qn 16 15, qc 17 0]
 (.block 0 (.loop (qS [qu 18 .lss [] 17 16]
 (qT (.cond (.t 18) .skip (.exit 0))
 (qT (.block 1 (qS [qi 19 1 15 17, ql 20 1 19, qm 9 20]
 (.ops [qm 21 7, qm 22 9, qq 23 (.call (.s [1472385, 1472321, 1475201, 1472833]) (.t 21) [.t 22])])))
 (.ops [qv 24 .add [] 17 1, qm 17 24])))))))
 (qT (qS [qf 25 0 2, ql 26 1 25, qc 27 0]
 (.block 2 (.loop (qS [qu 28 .lss [] 27 26]
 (qT (.cond (.t 28) .skip (.exit 2))
 (qT (.block 3 (qS [qm 29 27, qm 10 29]
 (.ops [qm 30 7, qm 31 10, qq 32 (.bsl 1 [.t 31]), qq 33 (.call (.s [1472385, 1472321, 1475201, 1472833]) (.t 30) [.t 32])])))
 (.ops [qv 34 .add [] 27 1, qm 27 34])))))))
 (.seq (.ops [ql 35 1 5, qm 4 35]) .ret)))))))))
def r_encode_cover : List RVar := [.tmp 4]
def n_encode_cover : Nat := 36
theorem k_encode_cover : chkFn PG 23 n_encode_cover r_encode_cover c_encode_cover = true := by kernel_rfl
theorem f_cover (t : STask) (n : Nat) (hn : t.facts = n) (h24 : n ≤ 24) (gs : List (List Int)) (hgl : gs.length ≤ 1000) (hg : ∀ g ∈ gs, IsSet n g) : Fc PG 23 [skV t, .sl .p (gs.map isV)] (.sl .p ((covF n gs).map isV)) := by
 have hT : ∀ (G : Type) (H : HT G) (g : G) (a : List (List Int) × List Int) (l : List Int), IsSet n l → a.1.length ≤ 1000000 → Cc PG H 57 [isV l, .bptr 1472385 0, .bptr 1472321 0] [1472385, 1472321, 1475201, 1472833] (stOf (cvS n a)) g fun r σ' g' => (r = .tup [] ∧ σ' = stOf (cvS n (takeC a l))) ∧ g' = g :=
  fun G H g a l h ha => ct_take n a l h.rng (ss_nodup h.ss) (by have := isSet_len h (by omega); omega) ha g
 refine Fn.step mixed k_encode_cover ?_
 repeat (first | refine i_s rfl ?_ | refine sw ?_ | refine i_alloc rfl ?_ | refine i_box rfl rfl ?_)
 refine c_nvs rfl rfl rfl ?_
 repeat' (first | refine i_len rfl ?_ | refine i_s rfl ?_ | refine sw ?_ | refine i_stb rfl ?_ | refine i_alloc rfl ?_ | refine i_mks (m := (n : Int)) (n := (n : Int)) rfl (congrArg (V.int .i64) hn) (congrArg (V.int .i64) hn) (by omega) (by omega) (by omega) (by omega) rfl ?_)
 refine c_for gs.length (fun k => [(2, .bptr 1472132 0), (5, .bptr 1472321 0), (7, .fn 57 [.bptr 1472385 0, .bptr 1472321 0]), (15, .sl .p (gs.map isV)), (16, .int .i64 gs.length), (17, .int .i64 k)])
  (fun k => (1472132, .box (skV t)) :: cvS n ((gs.take k).foldl takeC ([], []))) (fun _ => True) trivial ?_ fun k hk _ => ?_
 · refine ⟨⟨rfl, rfl, rfl, rfl, rfl, rfl, trivial⟩, ⟨rfl, rfl, rfl, rfl, ?_, trivial⟩, rfl⟩
   show Blk.arr 0 (List.replicate n (V.bool false)) = Blk.arr 0 (usedL n [])
   rw [usedL_nil]
 have hfl := foldC_len (gs.take k) ([], [])
 have hfl2 : (gs.take k).length ≤ 1000 := by simp; omega
 simp only [List.length_nil] at hfl
 repeat (first | refine i_s rfl ?_ | refine sw ?_)
 refine c_cond rfl (fun h => ?_) (fun h => ?_)
 · have hlt : k < gs.length := by simpa using h
   obtain ⟨x, hx⟩ := get_some hlt
   have e := foldC_snoc hx ([], [])
   have hC := fun G H g => hT G H g ((gs.take k).foldl takeC ([], [])) x (hg x (mem_get hx)) (by omega)
   clear h hT
   repeat' (first | refine i_s rfl ?_ | refine sw ?_ | refine jd rfl rfl ?_ | fail)
   refine i_cs rfl rfl rfl rfl (hC _ _ _) ?_
   rintro _ _ _ ⟨⟨rfl, rfl⟩, rfl⟩
   rw [← e]
   repeat' (first | refine i_s rfl ?_ | refine sw ?_ | refine ja rfl rfl ?_ | fail)
   exact e_for hlt trivial ft
 · have hge : k = gs.length := by have : ¬ k < gs.length := by simpa using h
                                  omega
   subst hge
   rw [List.take_length] at hfl ⊢
   clear h hfl2
   generalize ha : gs.foldl takeC ([], []) = a at *
   have ecov : covF n gs = ((oneL n).foldl takeC a).1 := by unfold covF; rw [List.foldl_append, ha]
   have hol : (oneL n).length = n := by simp [oneL]
   rw [ecov]
   repeat' (first | refine i_s rfl ?_ | refine sw ?_ | fail)
   refine c_for n (fun k => [(5, .bptr 1472321 0), (7, .fn 57 [.bptr 1472385 0, .bptr 1472321 0]), (26, .int .i64 n), (27, .int .i64 k)])
    (fun k => cvS n (((oneL n).take k).foldl takeC a)) (fun _ => True) trivial ?_ fun k hk _ => ?_
   · exact ⟨⟨rfl, rfl, congrArg (V.int .i64) hn, rfl, trivial⟩, ⟨rfl, rfl, rfl, rfl, trivial⟩, rfl⟩
   have hfk := foldC_len ((oneL n).take k) a
   have hfk2 : ((oneL n).take k).length ≤ 24 := by simp [hol]; omega
   repeat (first | refine i_s rfl ?_ | refine sw ?_)
   refine c_cond rfl (fun h => ?_) (fun h => ?_)
   · have hlt : k < n := by have : (k : Int) < n := by simpa using h
                            omega
     have hx : (oneL n)[k]? = some [(k : Int)] := by unfold oneL; rw [List.getElem?_map, List.getElem?_range hlt]; rfl
     have e := foldC_snoc hx a
     have hC := fun G H g => hT G H g (((oneL n).take k).foldl takeC a) [(k : Int)] ⟨List.pairwise_singleton _ _, fun x hx => by rw [List.mem_singleton.1 hx]; omega⟩ (by omega)
     clear h hT
     repeat' (first | refine i_s rfl ?_ | refine sw ?_ | fail)
     refine i_cs rfl rfl rfl rfl (hC _ _ _) ?_
     rintro _ _ _ ⟨⟨rfl, rfl⟩, rfl⟩
     rw [← e]
     repeat' (first | refine i_s rfl ?_ | refine sw ?_ | refine ja rfl rfl ?_ | fail)
     exact e_for hlt trivial ft
   · have hge : k = n := by have : ¬ (k : Int) < n := by simpa using h
                            omega
     rw [hge, show (oneL n).take n = oneL n from List.take_of_length_le (by omega)]
     repeat' (first | refine i_s rfl ?_ | refine sw ?_ | fail)
     exact e_ret ⟨rfl, _, rfl, rfl⟩
def c_encode_check : Cmd :=
 (qS [qx 2 1408132 4 0, qq 4 (.alloc 1408258 (.agg [.int .i64 0, .int .i64 0]))]
 (qT (qS [qL 8 4 2, qk 9 13 [8], qq 5 (.alloc 1408322 (.agg [.int .i64 0, .int .i64 0])), qs 2 5 9]
 (qS [qL 10 2 5, qq 11 (.build [.int .i64 0, .int .i64 0] []), qq 12 (.bin .neq true [.i, .i] (.t 10) (.t 11))]
 (.cond (.t 12) (.seq (.ops [qL 13 2 5, qs 2 4 13]) .ret) .skip)))
 (qT (qS [qm 14 1, qn 15 14, qv 16 .gtr [] 15 24]
 (.cond (.t 16) (.seq (.ops [qq 17 (.build [.int .i64 0, .int .i64 0] [(0 , 1 , .c (.int .i64 2)), (1 , 1 , .c (.int .i64 (-8)))]), qs 2 4 17]) .ret) .skip))
 (qT (qS [qm 18 1, qn 19 18, qc 20 0]
 (.block 0 (.loop (qS [qu 21 .lss [] 20 19]
 (qT (.cond (.t 21) .skip (.exit 0))
 (qT (.block 1 (qS [qi 22 1 18 20, ql 23 1 22, qm 7 23]
 (qT (qS [qm 24 7, qf 25 0 2, ql 26 1 25, qk 27 45 [24, 26], qq 28 (.not (.t 27))]
 (.cond (.t 28) (.seq (.ops [qq 29 (.build [.int .i64 0, .int .i64 0] [(0 , 1 , .c (.int .i64 5)), (1 , 1 , .c (.int .i64 (-8)))]), qs 2 4 29]) .ret) .skip))
 (qS [qL 30 4 2, qm 31 7, qk 32 16 [30, 31], qq 33 (.not (.t 32))]
 (.cond (.t 33) (.seq (.ops [qq 34 (.build [.int .i64 0, .int .i64 0] [(0 , 1 , .c (.int .i64 16)), (1 , 1 , .c (.int .i64 (-8)))]), qs 2 4 34]) .ret) .skip)))))
 (.ops [qv 35 .add [] 20 1, qm 20 35])))))))
 (.seq (.ops [qq 36 (.build [.int .i64 0, .int .i64 0] []), qs 2 4 36]) .ret)))))
def r_encode_check : List RVar := [.cell true 2 4]
def n_encode_check : Nat := 37
theorem k_encode_check : chkFn PG 22 n_encode_check r_encode_check c_encode_check = true := by kernel_rfl
theorem f_check_ok (t : STask) (ho : SkOk t) (hb : sFault t = okF) (gs : List (List Int)) (hgl : gs.length ≤ 24) (hg : ∀ g ∈ gs, IsSet t.facts g ∧ holdB t g = true) : Fc PG 22 [skV t, .sl .p (gs.map isV)] (ftV okF) := by
 have hV := f_strips_Validate t ho
 rw [hb] at hV
 have hv := sFault_ok hb
 have hS : ∀ g ∈ gs, Fc PG 45 [isV g, .int .i64 t.facts] (.bool true) ∧ Fc PG 16 [skV t, isV g] (.bool true) := fun g h => by
  obtain ⟨h1, h2⟩ := hg g h
  have hl := isSet_len h1 hv.f0
  have h3 := hv.f1
  have q1 := f_strips_IsSet g t.facts (by omega)
  have q2 := f_Holds t hv g (by omega) h1.ss
  rw [isSet_to h1] at q1
  rw [h2] at q2
  exact ⟨q1, q2⟩
 refine Fn.step mixed k_encode_check ?_
 repeat' (first | refine i_len rfl ?_ | refine i_s rfl ?_ | refine sw ?_ | refine c_f rfl ?_ | refine i_stb rfl ?_ | refine i_alloc rfl ?_ | refine i_box rfl rfl ?_ | refine c_cond rfl (fun h => ?_) (fun h => ?_) | refine sf rfl rfl hV ?_ | fail)
 all_goals first
  | (exfalso; simp at *; done)
  | (exfalso; simp at *; omega)
  | skip
 refine c_for gs.length (fun k => [(2, .bptr 1408132 0), (4, .bptr 1408258 0), (18, .sl .p (gs.map isV)), (19, .int .i64 gs.length), (20, .int .i64 k)])
  (fun k => [(1408132, .box (skV t)), (1408258, .box (ftV okF))]) (fun _ => True) trivial ft fun k hk _ => ?_
 repeat (first | refine i_s rfl ?_ | refine sw ?_)
 refine c_cond rfl (fun h => ?_) (fun h => ?_)
 · have hlt : k < gs.length := by simpa using h
   obtain ⟨x, hx⟩ := get_some hlt
   obtain ⟨q1, q2⟩ := hS x (mem_get hx)
   clear h hS hV
   repeat' (first | refine i_s rfl ?_ | refine sw ?_ | refine c_f rfl ?_ | refine ja rfl rfl ?_ | refine jd rfl rfl ?_ | refine sf rfl rfl q1 ?_ | refine sf rfl rfl q2 ?_ | fail)
   all_goals first
    | (exfalso; simp at *; done)
    | exact e_for hlt trivial ft
 · clear hS hV
   repeat' (first | refine i_s rfl ?_ | refine sw ?_ | refine i_stb rfl ?_)
   exact e_ret ⟨rfl, _, rfl, rfl⟩
end Hm
end
section
namespace Hm
open Go
set_option maxRecDepth 100000
set_option maxHeartbeats 8000000
theorem nextE_len (o : SOp) (c : List Int) (v : Nat) : ∀ l : List MOp, (nextE o c v l).length = l.length * (valE o c).length
 | [] => by simp [nextE]
 | p :: l => by
  have := nextE_len o c v l
  unfold nextE at this ⊢
  rw [List.flatMap_cons, List.length_append, this, List.length_map, List.length_cons, Nat.succ_mul, Nat.add_comm]
theorem valE_len (o : SOp) (c : List Int) : (valE o c).length ≤ c.length + 1 := by
 unfold valE
 split <;> simp
theorem nextE_le {o : SOp} {c : List Int} {v : Nat} {l : List MOp} (hl : l.length ≤ 40) (hc : c.length ≤ 1000) : (nextE o c v l).length ≤ 40040 := by
 rw [nextE_len]
 have := valE_len o c
 exact Nat.le_trans (Nat.mul_le_mul hl (show (valE o c).length ≤ 1001 by omega)) (by decide)
theorem nextE_snoc {o : SOp} {c : List Int} {v : Nat} {l : List MOp} {i : Nat} {p : MOp} (h : l[i]? = some p) : nextE o c v (l.take (i + 1)) = nextE o c v (l.take i) ++ (valE o c).map (extE o c v p) := by
 rw [take_succ_get h]
 unfold nextE
 rw [List.flatMap_append]
 simp
theorem vers_step {o : SOp} {cs : List (List Int)} {k : Nat} (hk : k < cs.length) : verG o cs (cs.length - k) k = if (verR o cs (k + 1)).length > 40 then verR o cs (k + 1) else verG o cs (cs.length - (k + 1)) (k + 1) := by
 rw [show cs.length - k = (cs.length - (k + 1)) + 1 by omega, verG]
theorem i_cse {G : Type} {P : Program} {H : HT G} {pn : List Nat} {Q : Exit → Env → Store → G → Prop} {fs : List (Frm G)} {r : List GItem} {ρ : Env} {σ : Store} {g : G} {dst : Option Nat} {f : Opd} {args : List Opd} {fid : Nat} {av : List V} {ns : List Nat} {v : V} {L' : List (Nat × Blk)}
  (hf : calv ρ f args = some (fid, av)) (hcl : closedL ns av = true) (hcs : closedSt ns σ ns = true) (hc : Cc P H fid av ns (restr ns σ) g fun r σ' g' => (r = v ∧ σ' = stOf L') ∧ g' = g)
  (h : WI P H pn Q fs r (put ρ dst v) (Hm.merge ns σ (stOf L')) g) : WI P H pn Q fs (.op dst none (.call (.s ns) f args) :: r) ρ σ g :=
 i_c hf hcl hcs hc (by rintro _ _ _ ⟨⟨rfl, rfl⟩, rfl⟩; exact h)
def c_slices_Clone_Assign : Cmd :=
 (qS [qq 2 (.mov (.c (.sl .nil [])))]
 (qT (qS [qm 3 0, qq 4 (.isnil false (.t 3))]
 (.cond (.t 4) (.seq (.ops [qq 2 (.newVec 3904322)]) .ret) .skip))
 (.seq (.ops [qq 5 (.bslO 3904322 2 []), qm 6 0, qq 7 (.append 2 16 95 (.t 5) (.t 6)), qm 2 7]) .ret)))
def r_slices_Clone_Assign : List RVar := [.tmp 2]
def n_slices_Clone_Assign : Nat := 8
theorem k_slices_Clone_Assign : chkFn PG 61 n_slices_Clone_Assign r_slices_Clone_Assign c_slices_Clone_Assign = true := by kernel_rfl
theorem ct_CloneA {G : Type} {H : HT G} (s : List Asg) (hl : s.length ≤ 1000000) (σ : Store) (g : G) (h1 : σ 3904322 = .unused) (hp : ∀ nm, σ nm ≠ .unused → nm ∈ [3904322]) :
  Cc PG H 61 [.sl .p (s.map asV)] [3904322] σ g fun r σ' g' => (r = .sl (.own 3904322) (s.map asV) ∧ σ' = stOf [(3904322, .vec s.length)]) ∧ g' = g := by
 refine CT.step _ mixed k_slices_Clone_Assign hp fun hM => ?_
 repeat (first | refine i_s rfl ?_ | refine sw ?_)
 refine i_isnil rfl fun b hb => ?_
 repeat refine sw ?_
 refine c_cond rfl (fun h => ?_) (fun h => ?_)
 · have e : s = [] := by simpa using hb (by simpa using h)
   subst e
   repeat refine sw ?_
   refine i_nv h1 ?_
   repeat refine sw ?_
   exact e_ret ⟨rfl, _, rfl, rfl, rfl, ⟨rfl, restr_stOf _ _⟩, rfl⟩
 · repeat refine sw ?_
   refine i_bslo h1 rfl rfl rfl ?_
   repeat refine i_s rfl ?_
   refine i_app rfl rfl rfl rfl rfl (fun row hrow => ?_) (by rw [List.length_map]; simp; omega) (by rw [List.length_map]; simp; omega) ?_
   · obtain ⟨n, _, rfl⟩ := List.mem_map.1 hrow
     exact ⟨rfl, rfl⟩
   repeat (first | refine i_s rfl ?_ | refine sw ?_)
   refine e_ret ⟨rfl, _, rfl, rfl, rfl, ⟨rfl, ?_⟩, rfl⟩
   rw [restr_stOf, show s.length = 0 + (s.map asV).length by simp]; rfl
def c_CloneB : Cmd :=
 (qS [qq 2 (.mov (.c (.sl .nil [])))]
 (qT (qS [qm 3 0, qq 4 (.isnil false (.t 3))]
 (.cond (.t 4) (.seq (.ops [qq 2 (.newVec 3904450)]) .ret) .skip))
 (.seq (.ops [qq 5 (.bslO 3904450 2 []), qm 6 0, qq 7 (.append 2 16 95 (.t 5) (.t 6)), qm 2 7]) .ret)))
def r_CloneB : List RVar := [.tmp 2]
def n_CloneB : Nat := 8
theorem k_CloneB : chkFn PG 61 n_CloneB r_CloneB c_CloneB = true := by kernel_rfl
theorem ct_CloneB {G : Type} {H : HT G} (s : List Asg) (hl : s.length ≤ 1000000) (σ : Store) (g : G) (h1 : σ 3904450 = .unused) (hp : ∀ nm, σ nm ≠ .unused → nm ∈ [3904450]) :
  Cc PG H 61 [.sl .p (s.map asV)] [3904450] σ g fun r σ' g' => (r = .sl (.own 3904450) (s.map asV) ∧ σ' = stOf [(3904450, .vec s.length)]) ∧ g' = g := by
 refine CT.step _ mixed k_CloneB hp fun hM => ?_
 repeat (first | refine i_s rfl ?_ | refine sw ?_)
 refine i_isnil rfl fun b hb => ?_
 repeat refine sw ?_
 refine c_cond rfl (fun h => ?_) (fun h => ?_)
 · have e : s = [] := by simpa using hb (by simpa using h)
   subst e
   repeat refine sw ?_
   refine i_nv h1 ?_
   repeat refine sw ?_
   exact e_ret ⟨rfl, _, rfl, rfl, rfl, ⟨rfl, restr_stOf _ _⟩, rfl⟩
 · repeat refine sw ?_
   refine i_bslo h1 rfl rfl rfl ?_
   repeat refine i_s rfl ?_
   refine i_app rfl rfl rfl rfl rfl (fun row hrow => ?_) (by rw [List.length_map]; simp; omega) (by rw [List.length_map]; simp; omega) ?_
   · obtain ⟨n, _, rfl⟩ := List.mem_map.1 hrow
     exact ⟨rfl, rfl⟩
   repeat (first | refine i_s rfl ?_ | refine sw ?_)
   refine e_ret ⟨rfl, _, rfl, rfl, rfl, ⟨rfl, ?_⟩, rfl⟩
   rw [restr_stOf, show s.length = 0 + (s.map asV).length by simp]; rfl
def c_encode_versions : Cmd :=
 (qS [qx 2 1856132 4 0, qq 4 (.mov (.c (.sl .nil [])))]
 (qS [qf 18 3 2, ql 19 1 18, qq 20 (.build [.sl .p [], .sl .p [], .int .i64 0] [(2 , 1 , .t 19)]), qq 21 (.bsl 3 [.t 20]), qm 5 21]
 (qT (qS [qm 22 1, qn 23 22, qc 24 0]
 (.block 0 (.loop (qS [qu 25 .lss [] 24 23]
 (qT (.cond (.t 25) .skip (.exit 0))
 (qT (.block 1 (qS [qm 26 24, qi 27 1 22 24, ql 28 1 27, qm 6 26, qm 7 28]
 (qS [qL 29 4 2, qm 30 7, qk 31 60 [29, 30], qq 8 (.alloc 1856515 (.agg [.bool false, .int .i64 0, .nilfn])), qs 3 8 31]
 (qS [qf 32 1 8, ql 33 1 32, qq 34 (.bsl 1 [.t 33]), qm 9 34]
 (qT (qS [qf 35 0 8, ql 36 1 35]
 (.cond (.t 36) (qS [qq 9 (.newVec 1856577)]
 (qS [qm 37 7, qn 38 37, qv 39 .add [] 38 1, qc 40 0]
 (.seq (.block 2 (.loop (qS [qu 41 .lss [] 40 39]
 (qT (.cond (.t 41) .skip (.exit 2))
 (qT (.block 3 (qS [qm 42 40, qm 10 42]
 (.ops [qm 43 9, qm 44 10, qq 45 (.bsl 1 [.t 44]), qq 46 (.append 1 8 3 (.t 43) (.t 45)), qm 9 46])))
 (.ops [qv 47 .add [] 40 1, qm 40 47])))))) (.frz 9)))) .skip))
 (qS [qq 11 (.newVec 1856707)]
 (.seq (qS [qm 48 5, qn 49 48, qc 50 0]
 (.block 4 (.loop (qS [qu 51 .lss [] 50 49]
 (qT (.cond (.t 51) .skip (.exit 4))
 (qT (.block 5 (qS [qi 52 3 48 50, qL 53 3 52, qq 13 (.alloc 1856835 (.agg [.sl .nil [], .sl .nil [], .int .i64 0])), qs 3 13 53]
 (qS [qm 54 9, qn 55 54, qc 56 0]
 (.block 6 (.loop (qS [qu 57 .lss [] 56 55]
 (qT (.cond (.t 57) .skip (.exit 6))
 (qT (.block 7 (qS [qi 58 1 54 56, ql 59 1 58, qm 15 59]
 (qT (.opsT (.node 2 3 (.node 2 6 (.node 2 9 (.node 5 6 (.node 5 9 (.leaf [0, 1, 2, 3, 4, 5, 6, 7, 8, 9, 10]) (.leaf [0, 1, 2, 3, 4, 9, 5, 6, 7, 8, 10])) (.node 5 7 (.node 5 9 (.leaf [0, 1, 2, 3, 4, 6, 5, 7, 8, 9, 10]) (.leaf [0, 1, 2, 3, 4, 6, 9, 5, 7, 8, 10])) (.node 5 9 (.leaf [0, 1, 2, 3, 4, 6, 7, 5, 8, 9, 10]) (.leaf [0, 1, 2, 3, 4, 6, 7, 9, 5, 8, 10])))) (.node 5 6 (.leaf [0, 1, 9, 2, 3, 4, 5, 6, 7, 8, 10]) (.node 5 7 (.leaf [0, 1, 9, 2, 3, 4, 6, 5, 7, 8, 10]) (.leaf [0, 1, 9, 2, 3, 4, 6, 7, 5, 8, 10])))) (.node 2 7 (.node 2 9 (.node 5 7 (.node 5 9 (.leaf [0, 1, 6, 2, 3, 4, 5, 7, 8, 9, 10]) (.leaf [0, 1, 6, 2, 3, 4, 9, 5, 7, 8, 10])) (.node 5 9 (.leaf [0, 1, 6, 2, 3, 4, 7, 5, 8, 9, 10]) (.leaf [0, 1, 6, 2, 3, 4, 7, 9, 5, 8, 10]))) (.node 5 7 (.leaf [0, 1, 6, 9, 2, 3, 4, 5, 7, 8, 10]) (.leaf [0, 1, 6, 9, 2, 3, 4, 7, 5, 8, 10]))) (.node 2 9 (.node 5 9 (.leaf [0, 1, 6, 7, 2, 3, 4, 5, 8, 9, 10]) (.leaf [0, 1, 6, 7, 2, 3, 4, 9, 5, 8, 10])) (.leaf [0, 1, 6, 7, 9, 2, 3, 4, 5, 8, 10])))) (.node 2 4 (.node 2 6 (.node 2 9 (.node 5 6 (.node 5 9 (.leaf [0, 1, 3, 2, 4, 5, 6, 7, 8, 9, 10]) (.leaf [0, 1, 3, 2, 4, 9, 5, 6, 7, 8, 10])) (.node 5 7 (.node 5 9 (.leaf [0, 1, 3, 2, 4, 6, 5, 7, 8, 9, 10]) (.leaf [0, 1, 3, 2, 4, 6, 9, 5, 7, 8, 10])) (.node 5 9 (.leaf [0, 1, 3, 2, 4, 6, 7, 5, 8, 9, 10]) (.leaf [0, 1, 3, 2, 4, 6, 7, 9, 5, 8, 10])))) (.node 5 6 (.leaf [0, 1, 3, 9, 2, 4, 5, 6, 7, 8, 10]) (.node 5 7 (.leaf [0, 1, 3, 9, 2, 4, 6, 5, 7, 8, 10]) (.leaf [0, 1, 3, 9, 2, 4, 6, 7, 5, 8, 10])))) (.node 2 7 (.node 2 9 (.node 5 7 (.node 5 9 (.leaf [0, 1, 3, 6, 2, 4, 5, 7, 8, 9, 10]) (.leaf [0, 1, 3, 6, 2, 4, 9, 5, 7, 8, 10])) (.node 5 9 (.leaf [0, 1, 3, 6, 2, 4, 7, 5, 8, 9, 10]) (.leaf [0, 1, 3, 6, 2, 4, 7, 9, 5, 8, 10]))) (.node 5 7 (.leaf [0, 1, 3, 6, 9, 2, 4, 5, 7, 8, 10]) (.leaf [0, 1, 3, 6, 9, 2, 4, 7, 5, 8, 10]))) (.node 2 9 (.node 5 9 (.leaf [0, 1, 3, 6, 7, 2, 4, 5, 8, 9, 10]) (.leaf [0, 1, 3, 6, 7, 2, 4, 9, 5, 8, 10])) (.leaf [0, 1, 3, 6, 7, 9, 2, 4, 5, 8, 10])))) (.node 2 6 (.node 2 9 (.node 5 6 (.node 5 9 (.leaf [0, 1, 3, 4, 2, 5, 6, 7, 8, 9, 10]) (.leaf [0, 1, 3, 4, 2, 9, 5, 6, 7, 8, 10])) (.node 5 7 (.node 5 9 (.leaf [0, 1, 3, 4, 2, 6, 5, 7, 8, 9, 10]) (.leaf [0, 1, 3, 4, 2, 6, 9, 5, 7, 8, 10])) (.node 5 9 (.leaf [0, 1, 3, 4, 2, 6, 7, 5, 8, 9, 10]) (.leaf [0, 1, 3, 4, 2, 6, 7, 9, 5, 8, 10])))) (.node 5 6 (.leaf [0, 1, 3, 4, 9, 2, 5, 6, 7, 8, 10]) (.node 5 7 (.leaf [0, 1, 3, 4, 9, 2, 6, 5, 7, 8, 10]) (.leaf [0, 1, 3, 4, 9, 2, 6, 7, 5, 8, 10])))) (.node 2 7 (.node 2 9 (.node 5 7 (.node 5 9 (.leaf [0, 1, 3, 4, 6, 2, 5, 7, 8, 9, 10]) (.leaf [0, 1, 3, 4, 6, 2, 9, 5, 7, 8, 10])) (.node 5 9 (.leaf [0, 1, 3, 4, 6, 2, 7, 5, 8, 9, 10]) (.leaf [0, 1, 3, 4, 6, 2, 7, 9, 5, 8, 10]))) (.node 5 7 (.leaf [0, 1, 3, 4, 6, 9, 2, 5, 7, 8, 10]) (.leaf [0, 1, 3, 4, 6, 9, 2, 7, 5, 8, 10]))) (.node 2 9 (.node 5 9 (.leaf [0, 1, 3, 4, 6, 7, 2, 5, 8, 9, 10]) (.leaf [0, 1, 3, 4, 6, 7, 2, 9, 5, 8, 10])) (.leaf [0, 1, 3, 4, 6, 7, 9, 2, 5, 8, 10])))))) [qf 60 0 13, ql 61 1 60, qq 62 (.call (.s [3904322]) (.c (.fn 61 [])) [.t 61]), qf 63 1 13, ql 64 1 63, qq 65 (.call (.s [3904450]) (.c (.fn 61 [])) [.t 64]), qf 66 2 13, ql 67 1 66, qq 68 (.build [.sl .nil [], .sl .nil [], .int .i64 0] [(0 , 1 , .t 62), (1 , 1 , .t 65), (2 , 1 , .t 67)]), qq 16 (.alloc 1857027 (.agg [.sl .nil [], .sl .nil [], .int .i64 0])), qs 3 16 68])
 (qT (qS [qm 69 15, qv 70 .geq [] 69 0]
 (.cond (.t 70) (.ops [qf 71 0 16, ql 72 1 71, qm 73 6, qm 74 15, qq 75 (.build [.int .i64 0, .int .i64 0] [(0 , 1 , .t 73), (1 , 1 , .t 74)]), qq 76 (.bsl 2 [.t 75]), qq 77 (.append 2 16 95 (.t 72) (.t 76)), qf 78 0 16, qs 1 78 77]) .skip))
 (.seq (qS [qf 79 2 8, ql 80 1 79, qm 81 15, qq 82 (.call .f (.t 80) [.t 81]), qm 17 82]
 (qS [qm 83 17, qm 84 15, qu 85 .neq [.i] 83 84]
 (.cond (.t 85) (.ops [qf 86 1 16, ql 87 1 86, qm 88 6, qm 89 17, qq 90 (.build [.int .i64 0, .int .i64 0] [(0 , 1 , .t 88), (1 , 1 , .t 89)]), qq 91 (.bsl 2 [.t 90]), qq 92 (.append 2 16 95 (.t 87) (.t 91)), qf 93 1 16, qs 1 93 92]) .skip))) (.fzb 16 1 (.fzb 16 0 (.cut (.ops [qm 94 11, qL 95 3 16, qq 96 (.bsl 3 [.t 95]), qq 97 (.append 3 56 81 (.t 94) (.t 96)), qm 11 97])))))))))
 (.ops [qv 98 .add [] 56 1, qm 56 98])))))))))
 (.ops [qv 99 .add [] 50 1, qm 50 99]))))))) (qT (.frz 11)
 (qT (qS [qm 100 11, qn 101 100, qv 102 .gtr [] 101 40]
 (.cond (.t 102) (.seq (.ops [qm 103 11, qm 4 103]) .ret) .skip))
 (.ops [qm 104 11, qm 5 104]))))))))))
 (.ops [qv 105 .add [] 24 1, qm 24 105])))))))
 (.seq (.ops [qm 106 5, qm 4 106]) .ret))))
def r_encode_versions : List RVar := [.tmp 4]
def n_encode_versions : Nat := 107
theorem k_encode_versions : chkFn PG 29 n_encode_versions r_encode_versions c_encode_versions = true := by kernel_rfl
theorem f_versions (o : SOp) (cs : List (List Int)) (o1 : o.pre.length ≤ 1000) (o2 : o.add.length ≤ 1000) (o3 : o.del.length ≤ 1000) (s1 : SS o.pre) (s2 : SS o.add) (s3 : SS o.del) (hl : cs.length ≤ 1000) (hc : ∀ c ∈ cs, c.length ≤ 1000) :
  Fc PG 29 [soV o, .sl .p (cs.map isV)] (.sl .p ((verF o cs).map moV)) := by
 refine Fn.step mixed k_encode_versions ?_
 repeat (first | refine i_len rfl ?_ | refine i_s rfl ?_ | refine sw ?_ | refine i_box rfl rfl ?_)
 refine c_for cs.length (fun k => [(2, .bptr 1856132 0), (5, .sl .p ((verR o cs k).map moV)), (22, .sl .p (cs.map isV)), (23, .int .i64 cs.length), (24, .int .i64 k)]) (fun k => [(1856132, .box (soV o))]) (fun k => (verR o cs k).length ≤ 40 ∧ verG o cs (cs.length - k) k = verF o cs) ⟨by show 1 ≤ 40; decide, by rw [Nat.sub_zero]; rfl⟩ ft fun k hk hi => ?_
 obtain ⟨hi1, hi2⟩ := hi
 repeat (first | refine i_s rfl ?_ | refine sw ?_)
 refine c_cond rfl (fun h => ?_) (fun h => ?_)
 · have hlt : k < cs.length := by simpa using h
   obtain ⟨c, hg⟩ := get_some hlt
   have hcl := hc c (mem_get hg)
   have hR : verR o cs (k + 1) = nextE o c k (verR o cs k) := by rw [verR, hg]
   rw [vers_step hlt, hR] at hi2
   have hpr : ∀ p ∈ verR o cs k, p.pre.length ≤ 1000 ∧ p.post.length ≤ 1000 := fun p hp => by
    obtain ⟨h1, h2⟩ := verR_asB hp
    have h3 := asB_len h1
    have h4 := asB_len h2
    unfold sizesF at h3 h4
    rw [List.length_map] at h3 h4
    omega
   have hon := f_on o c (by omega) (by omega) (by omega) s1 s2 s3 (by omega)
   clear h hc
   generalize verR o cs k = out at *
   rcases hon with ⟨hO1, hP1⟩ | ⟨hO1, hP1⟩
   let w : V := .fn 110 [.cptr .p (.int .i64 (valF c o.add)) 0]
   rotate_left
   let w : V := .fn 111 [.cptr .p (isV c) 0, .cptr .p (soV o) 0]
   all_goals
    repeat (first | refine i_s rfl ?_ | refine sw ?_ | refine jd rfl rfl ?_ | refine i_stb rfl ?_ | refine i_alloc rfl ?_ | refine sf rfl rfl hO1 ?_)
    refine c_join noH_mono (fun e ρ' σ' g' => e = .normal ∧ Fits [] [(2, .bptr 1856132 0), (5, .sl .p (out.map moV)), (6, .int .i64 k), (8, .bptr 1856515 0), (9, .sl .p ((valE o c).map i64V)), (22, .sl .p (cs.map isV)), (23, .int .i64 cs.length), (24, .int .i64 k)]
     [(1856132, .box (soV o)), (1856515, .box (.agg [.bool (openE o c), .int .i64 (preE o c), w]))] ρ' σ') ?_ ?_
    · refine c_cond rfl (fun h => ?_) (fun h => ?_)
      · have ev_ : valE o c = (List.range (c.length + 1)).map fun (x : Nat) => (x : Int) := by unfold valE; rw [if_pos h]
        rw [ev_]
        repeat (first | refine i_len rfl ?_ | refine i_s rfl ?_ | refine sw ?_ | refine ja rfl rfl ?_ | refine i_nv rfl ?_)
        refine c_for (c.length + 1) (fun x => [(2, .bptr 1856132 0), (5, .sl .p (out.map moV)), (6, .int .i64 k), (8, .bptr 1856515 0), (9, .sl (.own 1856577) (((List.range x).map fun (x : Nat) => (x : Int)).map i64V)), (22, .sl .p (cs.map isV)), (23, .int .i64 cs.length), (24, .int .i64 k), (39, .int .i64 ((c.length : Int) + 1)), (40, .int .i64 x)])
         (fun x => [(1856132, .box (soV o)), (1856515, .box (.agg [.bool (openE o c), .int .i64 (preE o c), w])), (1856577, .vec x)]) (fun _ => True) trivial ft fun x hx _ => ?_
        repeat (first | refine i_s rfl ?_ | refine sw ?_)
        refine c_cond rfl (fun h => ?_) (fun h => ?_)
        · have hxl : x < c.length + 1 := by have : (x : Int) < (c.length : Int) + 1 := by simpa using h
                                            omega
          have e : (List.range (x + 1)).map (fun (x : Nat) => (x : Int)) = (List.range x).map (fun (x : Nat) => (x : Int)) ++ [(x : Int)] := by rw [List.range_succ, List.map_append]; rfl
          clear h
          repeat (first | refine i_s rfl ?_ | refine sw ?_ | refine ja rfl rfl ?_ | refine i_appM (c := (x : Int)) rfl rfl rfl (by simp) rfl (by omega) (by omega) ?_)
          refine e_for hxl trivial ⟨⟨rfl, rfl, rfl, rfl, ?_, rfl, rfl, rfl, rfl, rfl, trivial⟩, ⟨rfl, rfl, rfl, trivial⟩, rfl⟩
          rw [e]; rfl
        · have hxe : x = c.length + 1 := by have : ¬ (x : Int) < (c.length : Int) + 1 := by simpa using h
                                            omega
          subst hxe
          repeat (first | refine sw ?_ | refine c_frzv rfl rfl ?_)
          exact e_end ⟨rfl, ft⟩
      · have ev_ : valE o c = [preE o c] := by unfold valE; rw [h]; rfl
        rw [ev_]
        repeat refine sw ?_
        exact e_end ⟨rfl, ft⟩
    · rintro e ρ' σ' g' ⟨rfl, hf⟩
      refine e_seq ?_
      refine c_cut _ _ hf ?_
      clear hf ρ' σ' hO1
      have hvl := valE_len o c
      repeat (first | refine i_len rfl ?_ | refine i_s rfl ?_ | refine sw ?_ | refine i_nv rfl ?_)
      refine c_for out.length (fun i => [(2, .bptr 1856132 0), (6, .int .i64 k), (8, .bptr 1856515 0), (9, .sl .p ((valE o c).map i64V)), (11, .sl (.own 1856707) ((nextE o c k (out.take i)).map moV)), (22, .sl .p (cs.map isV)), (23, .int .i64 cs.length), (24, .int .i64 k), (48, .sl .p (out.map moV)), (49, .int .i64 out.length), (50, .int .i64 i)])
       (fun i => [(1856132, .box (soV o)), (1856515, .box (.agg [.bool (openE o c), .int .i64 (preE o c), w])), (1856707, .vec (nextE o c k (out.take i)).length)]) (fun _ => True) trivial ft fun i hi _ => ?_
      have hnb : (nextE o c k (out.take i)).length ≤ 40040 := nextE_le (by simp; omega) hcl
      repeat (first | refine i_s rfl ?_ | refine sw ?_)
      refine c_cond rfl (fun h => ?_) (fun h => ?_)
      · have hil : i < out.length := by simpa using h
        obtain ⟨p, hp⟩ := get_some hil
        obtain ⟨hp1, hp2⟩ := hpr p (mem_get hp)
        have eN := nextE_snoc (o := o) (c := c) (v := k) hp
        have e0 : nextE o c k (out.take i) ++ ((valE o c).take 0).map (extE o c k p) = nextE o c k (out.take i) := by simp
        clear h
        repeat (first | refine i_len rfl ?_ | refine i_s rfl ?_ | refine sw ?_ | refine jd rfl rfl ?_ | refine i_stb rfl ?_ | refine i_alloc rfl ?_)
        refine c_for (valE o c).length (fun j => [(2, .bptr 1856132 0), (6, .int .i64 k), (8, .bptr 1856515 0), (9, .sl .p ((valE o c).map i64V)), (11, .sl (.own 1856707) ((nextE o c k (out.take i) ++ ((valE o c).take j).map (extE o c k p)).map moV)), (13, .bptr 1856835 0), (22, .sl .p (cs.map isV)), (23, .int .i64 cs.length), (24, .int .i64 k), (48, .sl .p (out.map moV)), (49, .int .i64 out.length), (50, .int .i64 i), (54, .sl .p ((valE o c).map i64V)), (55, .int .i64 (valE o c).length), (56, .int .i64 j)])
         (fun j => [(1856132, .box (soV o)), (1856515, .box (.agg [.bool (openE o c), .int .i64 (preE o c), w])), (1856707, .vec (nextE o c k (out.take i) ++ ((valE o c).take j).map (extE o c k p)).length), (1856835, .box (moV p))]) (fun _ => True) trivial ?_ fun j hj _ => ?_
        · refine ⟨⟨rfl, rfl, rfl, rfl, ?_, rfl, rfl, rfl, rfl, rfl, rfl, rfl, rfl, rfl, rfl, trivial⟩, ⟨rfl, rfl, ?_, rfl, trivial⟩, rfl⟩
          · rw [e0]; rfl
          · rw [e0]; rfl
        repeat (first | refine i_s rfl ?_ | refine sw ?_)
        refine c_cond rfl (fun h => ?_) (fun h => ?_)
        · have hjl : j < (valE o c).length := by simpa using h
          obtain ⟨x, hx⟩ := get_some hjl
          have eJ : ((valE o c).take (j + 1)).map (extE o c k p) = ((valE o c).take j).map (extE o c k p) ++ [extE o c k p x] := by rw [take_succ_get hx, List.map_append]; rfl
          have hlen : (nextE o c k (out.take i) ++ ((valE o c).take j).map (extE o c k p)).length ≤ 50000 := by rw [List.length_append, List.length_map, List.length_take]; omega
          have hY := hP1 x
          clear h hP1 hpr
          generalize hnx : nextE o c k (out.take i) ++ ((valE o c).take j).map (extE o c k p) = nx at *
          have eK : nextE o c k (out.take i) ++ ((valE o c).take (j + 1)).map (extE o c k p) = nx ++ [extE o c k p x] := by rw [eJ, ← List.append_assoc, hnx]
          repeat (first | refine i_s rfl ?_ | refine sw ?_ | refine jd rfl rfl ?_)
          refine c_join noH_mono (fun e ρ' σ' g' => e = .normal ∧ Fits [] [(2, .bptr 1856132 0), (6, .int .i64 k), (8, .bptr 1856515 0), (9, .sl .p ((valE o c).map i64V)), (11, .sl (.own 1856707) (nx.map moV)), (13, .bptr 1856835 0), (15, .int .i64 x), (16, .bptr 1857027 0), (22, .sl .p (cs.map isV)), (23, .int .i64 cs.length), (24, .int .i64 k), (48, .sl .p (out.map moV)), (49, .int .i64 out.length), (50, .int .i64 i), (54, .sl .p ((valE o c).map i64V)), (55, .int .i64 (valE o c).length), (56, .int .i64 j)]
           [(1856132, .box (soV o)), (1856515, .box (.agg [.bool (openE o c), .int .i64 (preE o c), w])), (1856707, .vec nx.length), (1856835, .box (moV p)), (3904322, .vec p.pre.length), (3904450, .vec p.post.length), (1857027, .box (.agg [.sl (.own 3904322) (p.pre.map asV), .sl (.own 3904450) (p.post.map asV), .int .i64 p.cost]))] ρ' σ') ?_ ?_
          · repeat' (refine c_node ?_ ?_)
            all_goals
             repeat (first | refine i_s rfl ?_ | refine sw ?_ | refine i_stb rfl ?_ | refine i_alloc rfl ?_ | refine i_cse rfl rfl rfl (ct_CloneA p.pre (by omega) _ _ rfl fun nm h => restr_mem nm h) ?_ | refine i_cse rfl rfl rfl (ct_CloneB p.post (by omega) _ _ rfl fun nm h => restr_mem nm h) ?_)
            all_goals exact e_end ⟨rfl, ft⟩
          rintro e ρ' σ' g' ⟨rfl, hf⟩
          refine e_seq ?_
          refine c_cut _ _ hf ?_
          clear hf ρ' σ'
          repeat (first | refine i_s rfl ?_ | refine sw ?_)
          refine c_cond rfl (fun h => ?_) (fun h => ?_)
          · have x0 : 0 ≤ x := of_decide_eq_true h
            clear h
            repeat (first | refine i_s rfl ?_ | refine sw ?_ | refine i_stb rfl ?_ | refine sf rfl rfl hY ?_ | refine i_appM (c := (⟨k, x⟩ : Asg)) rfl rfl rfl rfl rfl (by omega) (by omega) ?_)
            refine c_cond rfl (fun h => ?_) (fun h => ?_)
            · have hE : extE o c k p x = ⟨p.pre ++ [⟨k, x⟩], p.post ++ [⟨k, postE o c x⟩], p.cost⟩ := by
               have : postE o c x ≠ x := by simpa using h
               unfold extE; rw [if_pos x0, if_neg this]
              clear h hY
              repeat (first | refine i_s rfl ?_ | refine sw ?_ | refine ja rfl rfl ?_ | refine i_stb rfl ?_ | refine i_appM (c := (⟨k, postE o c x⟩ : Asg)) rfl rfl rfl rfl rfl (by omega) (by omega) ?_ | refine c_fzb rfl rfl rfl rfl ?_ | refine i_appM (f := moV) (c := (⟨p.pre ++ [⟨k, x⟩], p.post ++ [⟨k, postE o c x⟩], p.cost⟩ : MOp)) rfl rfl rfl rfl rfl (by omega) (by omega) ?_)
              refine e_for hjl trivial ⟨⟨rfl, rfl, rfl, rfl, ?_, rfl, rfl, rfl, rfl, rfl, rfl, rfl, rfl, rfl, rfl, trivial⟩, ⟨rfl, rfl, ?_, rfl, trivial⟩, rfl⟩
              · rw [eK, hE]; rfl
              · rw [eK, hE, List.length_append]; rfl
            · have hE : extE o c k p x = ⟨p.pre ++ [⟨k, x⟩], p.post, p.cost⟩ := by
               have : postE o c x = x := by simpa using h
               unfold extE; rw [if_pos x0, if_pos this, List.append_nil]
              clear h hY
              repeat (first | refine i_s rfl ?_ | refine sw ?_ | refine ja rfl rfl ?_ | refine c_fzb rfl rfl rfl rfl ?_ | refine i_appM (f := moV) (c := (⟨p.pre ++ [⟨k, x⟩], p.post, p.cost⟩ : MOp)) rfl rfl rfl rfl rfl (by omega) (by omega) ?_)
              refine e_for hjl trivial ⟨⟨rfl, rfl, rfl, rfl, ?_, rfl, rfl, rfl, rfl, rfl, rfl, rfl, rfl, rfl, rfl, trivial⟩, ⟨rfl, rfl, ?_, rfl, trivial⟩, rfl⟩
              · rw [eK, hE]; rfl
              · rw [eK, hE, List.length_append]; rfl
          · have x0 : ¬ 0 ≤ x := of_decide_eq_false h
            clear h
            repeat (first | refine i_s rfl ?_ | refine sw ?_ | refine sf rfl rfl hY ?_)
            refine c_cond rfl (fun h => ?_) (fun h => ?_)
            · have hE : extE o c k p x = ⟨p.pre, p.post ++ [⟨k, postE o c x⟩], p.cost⟩ := by
               have : postE o c x ≠ x := by simpa using h
               unfold extE; rw [if_neg x0, if_neg this, List.append_nil]
              clear h hY
              repeat (first | refine i_s rfl ?_ | refine sw ?_ | refine ja rfl rfl ?_ | refine i_stb rfl ?_ | refine i_appM (c := (⟨k, postE o c x⟩ : Asg)) rfl rfl rfl rfl rfl (by omega) (by omega) ?_ | refine c_fzb rfl rfl rfl rfl ?_ | refine i_appM (f := moV) (c := (⟨p.pre, p.post ++ [⟨k, postE o c x⟩], p.cost⟩ : MOp)) rfl rfl rfl rfl rfl (by omega) (by omega) ?_)
              refine e_for hjl trivial ⟨⟨rfl, rfl, rfl, rfl, ?_, rfl, rfl, rfl, rfl, rfl, rfl, rfl, rfl, rfl, rfl, trivial⟩, ⟨rfl, rfl, ?_, rfl, trivial⟩, rfl⟩
              · rw [eK, hE]; rfl
              · rw [eK, hE, List.length_append]; rfl
            · have hE : extE o c k p x = ⟨p.pre, p.post, p.cost⟩ := by
               have : postE o c x = x := by simpa using h
               unfold extE; rw [if_neg x0, if_pos this, List.append_nil, List.append_nil]
              clear h hY
              repeat (first | refine i_s rfl ?_ | refine sw ?_ | refine ja rfl rfl ?_ | refine c_fzb rfl rfl rfl rfl ?_ | refine i_appM (f := moV) (c := (⟨p.pre, p.post, p.cost⟩ : MOp)) rfl rfl rfl rfl rfl (by omega) (by omega) ?_)
              refine e_for hjl trivial ⟨⟨rfl, rfl, rfl, rfl, ?_, rfl, rfl, rfl, rfl, rfl, rfl, rfl, rfl, rfl, rfl, trivial⟩, ⟨rfl, rfl, ?_, rfl, trivial⟩, rfl⟩
              · rw [eK, hE]; rfl
              · rw [eK, hE, List.length_append]; rfl
        · have hje : j = (valE o c).length := by have : ¬ j < (valE o c).length := by simpa using h
                                                 omega
          subst hje
          rw [List.take_length, ← eN]
          clear h
          repeat (first | refine i_s rfl ?_ | refine sw ?_ | refine ja rfl rfl ?_)
          exact e_for hil trivial ft
      · have hie : i = out.length := by have : ¬ i < out.length := by simpa using h
                                        omega
        subst hie
        rw [List.take_length] at hnb ⊢
        clear h
        repeat (first | refine i_len rfl ?_ | refine i_s rfl ?_ | refine sw ?_ | refine c_frzv rfl rfl ?_)
        refine c_cond rfl (fun h => ?_) (fun h => ?_)
        · have hgt : (nextE o c k out).length > 40 := by have := of_decide_eq_true h
                                                         omega
          rw [if_pos hgt] at hi2
          clear h
          repeat (first | refine i_s rfl ?_ | refine sw ?_)
          exact e_ret ⟨rfl, _, rfl, by rw [← hi2]; rfl⟩
        · have hgt : ¬ (nextE o c k out).length > 40 := by have := of_decide_eq_false h
                                                           omega
          rw [if_neg hgt] at hi2
          clear h
          repeat (first | refine i_s rfl ?_ | refine sw ?_ | refine ja rfl rfl ?_)
          refine e_for hlt ⟨by rw [hR]; omega, hi2⟩ ⟨⟨rfl, ?_, rfl, rfl, rfl, trivial⟩, ⟨rfl, trivial⟩, rfl⟩
          rw [hR]; rfl
 · have hge : k = cs.length := by have : ¬ k < cs.length := by simpa using h
                                  omega
   subst hge
   rw [Nat.sub_self] at hi2
   repeat (first | refine i_s rfl ?_ | refine sw ?_)
   exact e_ret ⟨rfl, _, rfl, by rw [← hi2]; rfl⟩
theorem f_assigned (cs : List (List Int)) (s : List Int) (hl : cs.length ≤ 1000) (hc : ∀ c ∈ cs, c.length ≤ 1000) (hs : s.length ≤ 1000) (hS : SS s) : Fc PG 28 [.sl .p (cs.map isV), .sl .p (s.map i64V)] (.tup [.sl .p ((bif asgOk cs s then asgK cs s cs.length else []).map asV), .bool (asgOk cs s)]) := by
 cases hb : asgOk cs s with
 | true => exact f_assigned_ok cs s (by omega) (fun c h => by have := hc c h; omega) (by omega) hS hb
 | false => exact f_assigned_bad cs s (by omega) (fun c h => by have := hc c h; omega) (by omega) hS hb
abbrev mt0 : V := .agg [.sl .p [], .sl .p [], .sl .p [], .sl .p []]
abbrev idxV (e : Nat × MOp) : V := .int .i64 e.1
abbrev mopV (e : Nat × MOp) : V := moV e.2
theorem opK_succ {cs : List (List Int)} {ops : List SOp} {k : Nat} {o : SOp} (h : ops[k]? = some o) : opK cs ops (k + 1) = opK cs ops k ++ (if useO cs o = true then (verF o cs).map fun p => (k, p) else []) := by rw [opK, h]
theorem sizesF_snoc {cs : List (List Int)} {k : Nat} {c : List Int} (h : cs[k]? = some c) : sizesF (cs.take (k + 1)) = sizesF (cs.take k) ++ [(c.length + 1 : Int)] := by
 rw [take_succ_get h]; simp [sizesF]
theorem valsC_snoc {cs : List (List Int)} {s : List Int} {k : Nat} {c : List Int} (h : cs[k]? = some c) : valsC (cs.take (k + 1)) s = valsC (cs.take k) s ++ [(valF c s : Int)] := by
 rw [take_succ_get h]; simp [valsC]
def c_encode_Multi : Cmd :=
 (qS [qx 2 448132 4 0, qq 4 (.alloc 448260 (.agg [.sl .nil [], .sl .nil [], .sl .nil [], .sl .nil []])), qq 5 (.mov (.c (.sl .nil []))), qq 6 (.alloc 448386 (.agg [.int .i64 0, .int .i64 0]))]
 (qT (qS [qL 26 4 2, qm 27 1, qk 28 22 [26, 27], qq 7 (.alloc 448450 (.agg [.int .i64 0, .int .i64 0])), qs 2 7 28]
 (qS [qL 29 2 7, qq 30 (.build [.int .i64 0, .int .i64 0] []), qq 31 (.bin .neq true [.i, .i] (.t 29) (.t 30))]
 (.cond (.t 31) (.seq (.opsT (.node 1 2 (.leaf [0, 1, 2, 3, 4]) (.leaf [0, 2, 1, 3, 4])) [qq 32 (.build [.sl .nil [], .sl .nil [], .sl .nil [], .sl .nil []] []), qL 33 2 7, qs 4 4 32, qq 5 (.mov (.c (.sl .nil []))), qs 2 6 33]) .ret) .skip)))
 (qS [qL 34 4 2, qm 35 1, qk 36 23 [34, 35], qm 8 36]
 (qS [qq 9 (.mov (.c (.fn 24 [])))]
 (qT (qS [qm 37 8, qn 38 37, qv 39 .eql [.i] 38 0, qm 40 39, qg 41 40 false (.mov (.t 8)), qg 42 40 false (.len false (.t 41)), qg 43 40 false (.bin .gtr false [] (.t 42) (.c (.int .i64 8))), qq 44 (.pick (.t 40) (.c (.bool true)) (.t 43)), qm 45 44, qg 46 45 false (.mov (.t 8)), qg 47 45 false (.mov (.t 9)), qg 48 45 false (.call .f (.c (.fn 25 [])) [.t 46, .t 47]), qq 49 (.pick (.t 45) (.c (.bool true)) (.t 48))]
 (.cond (.t 49) (.seq (.ops [qk 50 26 [], qq 51 (.extract (.t 50) 0), qq 52 (.extract (.t 50) 1), qq 53 (.extract (.t 50) 2), qs 4 4 51, qm 5 52, qs 2 6 53]) .ret) .skip))
 (.seq (.ops [qq 10 (.alloc 448644 (.agg [.sl .nil [], .sl .nil [], .sl .nil [], .sl .nil []]))]) (.nvb 10 1 454465 (.nvb 10 0 454401 (.cut (qT (qS [qm 54 8, qn 55 54, qc 56 0]
 (.block 0 (.loop (qS [qu 57 .lss [] 56 55]
 (qT (.cond (.t 57) .skip (.exit 0))
 (qT (.block 1 (qS [qi 58 1 54 56, ql 59 1 58, qm 12 59]
 (qS [qm 61 12, qf 62 1 2, ql 63 1 62, qk 64 27 [61, 63], qm 60 64, qq 65 (.extract (.t 60) 0), qq 66 (.extract (.t 60) 1), qm 13 65, qm 14 66]
 (.opsT (.node 6 7 (.node 11 12 (.leaf [0, 1, 2, 3, 4, 5, 6, 7, 8, 9, 10, 11, 12, 13, 14, 15]) (.leaf [0, 1, 2, 3, 4, 5, 6, 7, 8, 9, 10, 12, 11, 13, 14, 15])) (.node 6 8 (.node 11 12 (.leaf [0, 1, 2, 3, 4, 5, 7, 6, 8, 9, 10, 11, 12, 13, 14, 15]) (.leaf [0, 1, 2, 3, 4, 5, 7, 6, 8, 9, 10, 12, 11, 13, 14, 15])) (.node 11 12 (.leaf [0, 1, 2, 3, 4, 5, 7, 8, 6, 9, 10, 11, 12, 13, 14, 15]) (.leaf [0, 1, 2, 3, 4, 5, 7, 8, 6, 9, 10, 12, 11, 13, 14, 15])))) [qf 67 0 10, ql 68 1 67, qm 69 12, qn 70 69, qv 71 .add [] 70 1, qq 72 (.bsl 1 [.t 71]), qq 73 (.append 1 8 3 (.t 68) (.t 72)), qf 74 1 10, ql 75 1 74, qm 76 13, qq 77 (.bsl 1 [.t 76]), qq 78 (.append 1 8 3 (.t 75) (.t 77)), qf 79 0 10, qs 1 79 73, qf 80 1 10, qs 1 80 78]))))
 (.ops [qv 81 .add [] 56 1, qm 56 81])))))))
 (qS [qm 83 8, qf 84 2 2, ql 85 1 84, qk 86 28 [83, 85], qm 82 86, qq 87 (.extract (.t 82) 0), qq 88 (.extract (.t 82) 1), qm 15 87, qm 16 88]
 (qT (qS [qm 89 16, qq 90 (.not (.t 89))]
 (.cond (.t 90) (.seq (.ops [qq 91 (.build [.sl .nil [], .sl .nil [], .sl .nil [], .sl .nil []] []), qq 92 (.build [.int .i64 0, .int .i64 0] [(0 , 1 , .c (.int .i64 15)), (1 , 1 , .c (.int .i64 (-9)))]), qs 4 4 91, qq 5 (.mov (.c (.sl .nil []))), qs 2 6 92]) .ret) .skip))
 (qS [qm 93 15, qf 94 2 10, qs 1 94 93]
 (.seq (.ops [qq 17 (.newVec 449089)]) (.nvb 10 3 454595 (.cut (qT (qS [qf 95 3 2, ql 96 1 95, qn 97 96, qc 98 0]
 (.block 2 (.loop (qS [qu 99 .lss [] 98 97]
 (qT (.cond (.t 99) .skip (.exit 2))
 (qT (.block 3 (qS [qm 100 98, qi 101 4 96 98, qL 102 4 101, qq 19 (.alloc 449220 (.agg [.sl .nil [], .sl .nil [], .sl .nil [], .int .i64 0])), qm 18 100, qs 4 19 102]
 (qS [qm 104 8, qf 105 0 19, ql 106 1 105, qk 107 28 [104, 106], qm 103 107, qq 108 (.extract (.t 103) 0), qq 109 (.extract (.t 103) 1), qm 20 108, qm 21 109]
 (qT (qS [qm 111 8, qf 112 1 19, ql 113 1 112, qk 114 28 [111, 113], qm 110 114, qq 115 (.extract (.t 110) 0), qq 116 (.extract (.t 110) 1), qm 22 115, qm 23 116]
 (qS [qm 117 21, qq 118 (.not (.t 117)), qm 119 118, qg 120 119 false (.mov (.t 23)), qg 121 119 false (.not (.t 120)), qq 122 (.pick (.t 119) (.c (.bool true)) (.t 121))]
 (.cond (.t 122) (.exit 3) .skip)))
 (qS [qL 123 4 19, qm 124 8, qk 125 29 [123, 124], qn 126 125, qc 127 0]
 (.block 4 (.loop (qS [qu 128 .lss [] 127 126]
 (qT (.cond (.t 128) .skip (.exit 4))
 (qT (.block 5 (qS [qi 129 3 125 127, qL 130 3 129, qq 25 (.alloc 449603 (.agg [.sl .nil [], .sl .nil [], .int .i64 0])), qs 3 25 130]
 (qT (qS [qm 131 17, qn 132 131, qv 133 .eql [.i] 132 40]
 (.cond (.t 133) (.seq (.ops [qk 134 26 [], qq 135 (.extract (.t 134) 0), qq 136 (.extract (.t 134) 1), qq 137 (.extract (.t 134) 2), qs 4 4 135, qm 5 136, qs 2 6 137]) .ret) .skip))
 (.ops [qf 138 3 10, ql 139 1 138, qL 140 3 25, qq 141 (.bsl 3 [.t 140]), qq 142 (.append 3 56 81 (.t 139) (.t 141)), qm 143 17, qm 144 18, qq 145 (.bsl 1 [.t 144]), qq 146 (.append 1 8 3 (.t 143) (.t 145)), qf 147 3 10, qs 1 147 142, qm 17 146]))))
 (.ops [qv 148 .add [] 127 1, qm 127 148])))))))))))
 (.ops [qv 149 .add [] 98 1, qm 98 149])))))))
 (.seq (.ops [qL 150 4 10, qm 151 17, qq 152 (.build [.int .i64 0, .int .i64 0] []), qs 4 4 150, qm 5 151, qs 2 6 152]) .ret))))))))))))))))))
def r_encode_Multi : List RVar := [.cell true 4 4, .tmp 5, .cell true 2 6]
def n_encode_Multi : Nat := 153
theorem k_encode_Multi : chkFn PG 7 n_encode_Multi r_encode_Multi c_encode_Multi = true := by kernel_rfl
theorem f_Multi_big (t : STask) (gs cs : List (List Int)) (hck : Fc PG 22 [skV t, .sl .p (gs.map isV)] (ftV okF)) (hcov : Fc PG 23 [skV t, .sl .p (gs.map isV)] (.sl .p (cs.map isV))) (hl : cs.length ≤ 1000) (hc : ∀ c ∈ cs, c.length ≤ 1000) (hb : bigC cs = true) :
  Fc PG 7 [skV t, .sl .p (gs.map isV)] (.tup [mt0, .sl .p [], ftV ⟨10, -9⟩]) := by
 have hTL := f_tooLarge
 have hCF := f_ContainsFunc_sint cs wideC 24 [] (by omega) (fun _ _ => rfl) rfl (fun c h => f_Multi_1 c (by have := hc c h; omega))
 refine Fn.step mixed k_encode_Multi ?_
 repeat' (first | refine i_len rfl ?_ | refine i_s rfl ?_ | refine sw ?_ | refine i_gt rfl ?_ | refine i_gf rfl ?_ | refine c_t rfl ?_ | refine c_f rfl ?_ | refine i_stb rfl ?_ | refine i_alloc rfl ?_ | refine i_box rfl rfl ?_ | (refine sp ?_ ?_ <;> try intro h) | refine sf rfl rfl hck ?_ | refine sf rfl rfl hcov ?_ | refine sf rfl rfl hTL ?_ | refine sf rfl rfl hCF ?_ | fail)
 all_goals clear hck hcov hTL hCF hc
 all_goals first
  | exact e_ret ⟨rfl, _, rfl, rfl⟩
  | (exfalso; simp at *; done)
  | (exfalso
     unfold bigC at hb
     simp at *
     omega)
  | (exfalso
     unfold bigC at hb
     simp at *
     grind)
  | trace_state
theorem f_Multi (t : STask) (hv : SV t) (gs cs : List (List Int)) (hck : Fc PG 22 [skV t, .sl .p (gs.map isV)] (ftV okF)) (hcov : Fc PG 23 [skV t, .sl .p (gs.map isV)] (.sl .p (cs.map isV))) (hl : cs.length ≤ 1000) (hc : ∀ c ∈ cs, c.length ≤ 1000) (hb : bigC cs = false)
  (r : V) (h1 : asgOk cs t.goal = false → r = .tup [mt0, .sl .p [], ftV ⟨15, -9⟩]) (h2 : asgOk cs t.goal = true → 40 < (opA cs t).length → r = .tup [mt0, .sl .p [], ftV ⟨10, -9⟩])
  (h3 : asgOk cs t.goal = true → (opA cs t).length ≤ 40 → r = .tup [mtV (mOf t cs), .sl .p ((opA cs t).map idxV), ftV okF]) :
  Fc PG 7 [skV t, .sl .p (gs.map isV)] r := by
 have hTL := f_tooLarge
 have hopl := hv.opl
 have hs : ∀ {s : List Int}, IsSet t.facts s → s.length ≤ 1000 := fun h => by have := set_le hv h; omega
 have hCF := f_ContainsFunc_sint cs wideC 24 [] (by omega) (fun _ _ => rfl) rfl (fun c h => f_Multi_1 c (by have := hc c h; omega))
 have hVal : ∀ c ∈ cs, Fc PG 27 [isV c, .sl .p (t.init.map i64V)] (.tup [.int .i64 (valF c t.init), .int .i64 (manyF c t.init)]) := fun c h => f_value c t.init (by have := hc c h; omega) (by have := hs hv.init; omega) hv.init.ss
 have hAG := f_assigned cs t.goal hl hc (hs hv.goal) hv.goal.ss
 unfold bigC at hb
 simp only [Bool.or_eq_false_iff, decide_eq_false_iff_not] at hb
 obtain ⟨⟨b1, b2⟩, b3⟩ := hb
 rw [b3] at hCF
 refine Fn.step mixed k_encode_Multi ?_
 repeat' (first | refine i_len rfl ?_ | refine i_s rfl ?_ | refine sw ?_ | refine i_gt rfl ?_ | refine i_gf rfl ?_ | refine c_t rfl ?_ | refine c_f rfl ?_ | refine i_stb rfl ?_ | refine i_alloc rfl ?_ | refine i_box rfl rfl ?_ | refine i_g rfl (fun h => ?_) (fun h => ?_) | refine sf rfl rfl hck ?_ | refine sf rfl rfl hcov ?_ | refine sf rfl rfl hCF ?_ | fail)
 all_goals first
  | (exfalso; have q : (cs.length : Int) = 0 := by simpa using h
     omega)
  | (exfalso; have q := of_decide_eq_true h
     omega)
  | skip
 refine c_nvb rfl rfl rfl rfl ?_
 refine c_nvb rfl rfl rfl rfl ?_
 clear hck hcov hCF
 repeat (first | refine i_len rfl ?_ | refine i_s rfl ?_ | refine sw ?_)
 refine c_for cs.length (fun k => [(2, .bptr 448132 0), (4, .bptr 448260 0), (6, .bptr 448386 0), (8, .sl .p (cs.map isV)), (10, .bptr 448644 0), (54, .sl .p (cs.map isV)), (55, .int .i64 cs.length), (56, .int .i64 k)])
  (fun k => [(448132, .box (skV t)), (448260, .box (.agg [.sl .nil [], .sl .nil [], .sl .nil [], .sl .nil []])), (448386, .box (ftV okF)), (448644, .box (.agg [.sl (.own 454401) ((sizesF (cs.take k)).map i64V), .sl (.own 454465) ((valsC (cs.take k) t.init).map i64V), .sl .nil [], .sl .nil []])), (454401, .vec (sizesF (cs.take k)).length), (454465, .vec (valsC (cs.take k) t.init).length)]) (fun _ => True) trivial ft fun k hk _ => ?_
 repeat (first | refine i_s rfl ?_ | refine sw ?_)
 refine c_cond rfl (fun h => ?_) (fun h => ?_)
 · have hlt : k < cs.length := by simpa using h
   obtain ⟨c, hg⟩ := get_some hlt
   have hV := hVal c (mem_get hg)
   have e1 := sizesF_snoc hg
   have e2 := valsC_snoc (s := t.init) hg
   have hcl := hc c (mem_get hg)
   have l1 : (sizesF (cs.take k)).length = k := by rw [sizesF, List.length_map, List.length_take]; omega
   have l2 : (valsC (cs.take k) t.init).length = k := by rw [valsC, List.length_map, List.length_take]; omega
   clear h hVal hAG hTL h1 h2 h3 hs
   repeat (first | refine i_s rfl ?_ | refine sw ?_ | refine jd rfl rfl ?_ | refine sf rfl rfl hV ?_)
   repeat' (refine c_node ?_ ?_)
   all_goals
    repeat (first | refine i_len rfl ?_ | refine i_s rfl ?_ | refine sw ?_ | refine ja rfl rfl ?_ | refine i_stb rfl ?_ | refine i_appM (f := i64V) (l := sizesF (cs.take k)) (c := (c.length : Int) + 1) rfl rfl rfl rfl rfl (by omega) (by omega) ?_ | refine i_appM (f := i64V) (l := valsC (cs.take k) t.init) (c := (valF c t.init : Int)) rfl rfl rfl rfl rfl (by omega) (by omega) ?_)
    refine e_for hlt trivial ⟨⟨rfl, rfl, rfl, rfl, rfl, rfl, rfl, rfl, trivial⟩, ⟨rfl, rfl, rfl, ?_, ?_, ?_, trivial⟩, rfl⟩
    · rw [e1, e2]; rfl
    · rw [e1, List.length_append]; rfl
    · rw [e2, List.length_append]; rfl
 have hge : k = cs.length := by have : ¬ k < cs.length := by simpa using h
                                omega
 subst hge
 rw [List.take_length]
 clear h hVal hk
 cases hgo : asgOk cs t.goal with
 | false =>
  rw [hgo] at hAG
  repeat (first | refine i_s rfl ?_ | refine sw ?_ | refine c_t rfl ?_ | refine i_stb rfl ?_ | refine sf rfl rfl hAG ?_)
  exact e_ret ⟨rfl, _, rfl, by rw [h1 hgo]; rfl⟩
 | true =>
  have h2' := h2 hgo
  have h3' := h3 hgo
  rw [hgo] at hAG
  change Fc PG 28 [.sl .p (cs.map isV), .sl .p (t.goal.map i64V)] (.tup [.sl .p ((asgK cs t.goal cs.length).map asV), .bool true]) at hAG
  clear h1 h2 h3
  repeat (first | refine i_s rfl ?_ | refine sw ?_ | refine c_f rfl ?_ | refine i_stb rfl ?_ | refine i_nv rfl ?_ | refine sf rfl rfl hAG ?_)
  refine c_nvb rfl rfl rfl rfl ?_
  clear hAG
  repeat (first | refine i_len rfl ?_ | refine i_s rfl ?_ | refine sw ?_)
  refine c_for t.ops.length (fun k => [(2, .bptr 448132 0), (4, .bptr 448260 0), (6, .bptr 448386 0), (8, .sl .p (cs.map isV)), (10, .bptr 448644 0), (17, .sl (.own 449089) ((opK cs t.ops k).map idxV)), (96, .sl .p (t.ops.map soV)), (97, .int .i64 t.ops.length), (98, .int .i64 k)])
   (fun k => [(448132, .box (skV t)), (448260, .box (.agg [.sl .nil [], .sl .nil [], .sl .nil [], .sl .nil []])), (448386, .box (ftV okF)), (448644, .box (.agg [.sl (.own 454401) ((sizesF cs).map i64V), .sl (.own 454465) ((valsC cs t.init).map i64V), .sl .p ((asgK cs t.goal cs.length).map asV), .sl (.own 454595) ((opK cs t.ops k).map mopV)])), (454401, .vec (sizesF cs).length), (454465, .vec (valsC cs t.init).length), (454595, .vec (opK cs t.ops k).length), (449089, .vec (opK cs t.ops k).length)]) (fun k => (opK cs t.ops k).length ≤ 40) (by show 0 ≤ 40; decide) ft fun k hk hi => ?_
  repeat (first | refine i_s rfl ?_ | refine sw ?_)
  refine c_cond rfl (fun h => ?_) (fun h => ?_)
  · have hlt : k < t.ops.length := by simpa using h
    obtain ⟨o, hg⟩ := get_some hlt
    have hO := hv.op o (mem_get hg)
    have hA1 := f_assigned cs o.pre hl hc (hs hO.pre) hO.pre.ss
    have hA2 := f_assigned cs o.add hl hc (hs hO.add) hO.add.ss
    have hVr := f_versions o cs (hs hO.pre) (hs hO.add) (hs hO.del) hO.pre.ss hO.add.ss hO.del.ss hl hc
    have eK := opK_succ (cs := cs) hg
    have hmono := opK_mono cs t.ops (j := k + 1) (k := t.ops.length) hlt
    clear h
    cases u1 : asgOk cs o.pre with
    | false =>
     have hu : useO cs o = false := by unfold useO; rw [u1]; rfl
     rw [hu, if_neg (by decide), List.append_nil] at eK
     rw [u1] at hA1
     repeat (first | refine i_s rfl ?_ | refine sw ?_ | refine i_gf rfl ?_ | refine c_t rfl ?_ | refine ja rfl rfl ?_ | refine jd rfl rfl ?_ | refine i_stb rfl ?_ | refine i_alloc rfl ?_ | refine sf rfl rfl hA1 ?_ | refine sf rfl rfl hA2 ?_)
     refine e_for hlt (by rw [eK]; exact hi) ⟨⟨rfl, rfl, rfl, rfl, rfl, ?_, rfl, rfl, rfl, trivial⟩, ⟨rfl, rfl, rfl, ?_, rfl, rfl, ?_, ?_, trivial⟩, rfl⟩
     · rw [eK]; rfl
     · rw [eK]; rfl
     · rw [eK]; rfl
     · rw [eK]; rfl
    | true =>
     rw [u1] at hA1
     cases u2 : asgOk cs o.add with
     | false =>
      have hu : useO cs o = false := by unfold useO; rw [u1, u2]; rfl
      rw [hu, if_neg (by decide), List.append_nil] at eK
      rw [u2] at hA2
      repeat (first | refine i_s rfl ?_ | refine sw ?_ | refine i_gt rfl ?_ | refine c_t rfl ?_ | refine ja rfl rfl ?_ | refine jd rfl rfl ?_ | refine i_stb rfl ?_ | refine i_alloc rfl ?_ | refine sf rfl rfl hA1 ?_ | refine sf rfl rfl hA2 ?_)
      refine e_for hlt (by rw [eK]; exact hi) ⟨⟨rfl, rfl, rfl, rfl, rfl, ?_, rfl, rfl, rfl, trivial⟩, ⟨rfl, rfl, rfl, ?_, rfl, rfl, ?_, ?_, trivial⟩, rfl⟩
      · rw [eK]; rfl
      · rw [eK]; rfl
      · rw [eK]; rfl
      · rw [eK]; rfl
     | true =>
      have hu : useO cs o = true := by unfold useO; rw [u1, u2]; rfl
      rw [hu, if_pos rfl] at eK
      rw [u2] at hA2
      generalize hL : verF o cs = L at *
      have e0 : opK cs t.ops k ++ ((L.take 0).map fun p => (k, p)) = opK cs t.ops k := by simp
      repeat (first | refine i_len rfl ?_ | refine i_s rfl ?_ | refine sw ?_ | refine i_gt rfl ?_ | refine c_f rfl ?_ | refine jd rfl rfl ?_ | refine i_stb rfl ?_ | refine i_alloc rfl ?_ | refine sf rfl rfl hA1 ?_ | refine sf rfl rfl hA2 ?_ | refine sf rfl rfl hVr ?_)
      refine c_for L.length (fun j => [(2, .bptr 448132 0), (4, .bptr 448260 0), (6, .bptr 448386 0), (8, .sl .p (cs.map isV)), (10, .bptr 448644 0), (17, .sl (.own 449089) ((opK cs t.ops k ++ (L.take j).map fun p => (k, p)).map idxV)), (18, .int .i64 k), (96, .sl .p (t.ops.map soV)), (97, .int .i64 t.ops.length), (98, .int .i64 k), (125, .sl .p (L.map moV)), (126, .int .i64 L.length), (127, .int .i64 j)])
       (fun j => [(448132, .box (skV t)), (448260, .box (.agg [.sl .nil [], .sl .nil [], .sl .nil [], .sl .nil []])), (448386, .box (ftV okF)), (448644, .box (.agg [.sl (.own 454401) ((sizesF cs).map i64V), .sl (.own 454465) ((valsC cs t.init).map i64V), .sl .p ((asgK cs t.goal cs.length).map asV), .sl (.own 454595) ((opK cs t.ops k ++ (L.take j).map fun p => (k, p)).map mopV)])), (454401, .vec (sizesF cs).length), (454465, .vec (valsC cs t.init).length), (454595, .vec (opK cs t.ops k ++ (L.take j).map fun p => (k, p)).length), (449089, .vec (opK cs t.ops k ++ (L.take j).map fun p => (k, p)).length)]) (fun j => (opK cs t.ops k ++ (L.take j).map fun p => (k, p)).length ≤ 40) (by rw [e0]; exact hi) ?_ fun j hj hij => ?_
      · refine ⟨⟨rfl, rfl, rfl, rfl, rfl, ?_, rfl, rfl, rfl, rfl, rfl, rfl, rfl, trivial⟩, ⟨rfl, rfl, rfl, ?_, rfl, rfl, ?_, ?_, trivial⟩, rfl⟩
        · rw [e0]; rfl
        · rw [e0]; rfl
        · rw [e0]; rfl
        · rw [e0]; rfl
      clear hA1 hA2 hVr
      repeat (first | refine i_s rfl ?_ | refine sw ?_)
      refine c_cond rfl (fun h => ?_) (fun h => ?_)
      · have hjl : j < L.length := by simpa using h
        obtain ⟨p, hp⟩ := get_some hjl
        have eJ : opK cs t.ops k ++ ((L.take (j + 1)).map fun p => (k, p)) = (opK cs t.ops k ++ (L.take j).map fun p => (k, p)) ++ [(k, p)] := by rw [take_succ_get hp, List.map_append, ← List.append_assoc]; rfl
        have hlen2 : (opK cs t.ops k ++ (L.take j).map fun p => (k, p)).length = (opK cs t.ops k).length + j := by rw [List.length_append, List.length_map, List.length_take]; omega
        have hlen3 : (opK cs t.ops (k + 1)).length = (opK cs t.ops k).length + L.length := by rw [eK, List.length_append, List.length_map]
        clear h
        generalize hnx : (opK cs t.ops k ++ (L.take j).map fun p => (k, p)) = nx at *
        repeat (first | refine i_len rfl ?_ | refine i_s rfl ?_ | refine sw ?_ | refine jd rfl rfl ?_ | refine i_stb rfl ?_ | refine i_alloc rfl ?_)
        refine c_cond rfl (fun h => ?_) (fun h => ?_)
        · have h40 : nx.length = 40 := by have q : (nx.length : Int) = 40 := by simpa using h
                                          omega
          have hbig : 40 < (opA cs t).length := by unfold opA; omega
          repeat (first | refine i_s rfl ?_ | refine sw ?_ | refine i_stb rfl ?_ | refine sf rfl rfl hTL ?_)
          exact e_ret ⟨rfl, _, rfl, by rw [h2' hbig]; rfl⟩
        · have h40 : nx.length ≠ 40 := by intro q; simp [q] at h
          clear h
          repeat (first | refine i_s rfl ?_ | refine sw ?_ | refine ja rfl rfl ?_ | refine i_stb rfl ?_ | refine i_appM (f := mopV) (c := (k, p)) rfl rfl rfl rfl rfl (by omega) (by omega) ?_ | refine i_appM (f := idxV) (c := (k, p)) rfl rfl rfl rfl rfl (by omega) (by omega) ?_)
          refine e_for hjl (by rw [eJ, List.length_append]; simp; omega) ⟨⟨rfl, rfl, rfl, rfl, rfl, ?_, rfl, rfl, rfl, rfl, rfl, rfl, rfl, trivial⟩, ⟨rfl, rfl, rfl, ?_, rfl, rfl, ?_, ?_, trivial⟩, rfl⟩
          · rw [eJ]; rfl
          · rw [eJ]; rfl
          · rw [eJ, List.length_append]; rfl
          · rw [eJ, List.length_append]; rfl
      · have hje : j = L.length := by have : ¬ j < L.length := by simpa using h
                                      omega
        subst hje
        rw [List.take_length] at hij ⊢
        rw [← eK] at hij ⊢
        clear h
        repeat (first | refine i_s rfl ?_ | refine sw ?_ | refine ja rfl rfl ?_)
        exact e_for hlt hij ft
  · have hge : k = t.ops.length := by have : ¬ k < t.ops.length := by simpa using h
                                      omega
    subst hge
    clear h
    repeat (first | refine i_s rfl ?_ | refine sw ?_ | refine i_stb rfl ?_)
    refine e_ret ⟨rfl, _, rfl, ?_⟩
    rw [h3' hi]
    unfold mOf mtV opA
    simp only [List.map_map]
    rfl
end Hm
end
section
namespace Hm
open Go
set_option maxRecDepth 100000
set_option maxHeartbeats 4000000
theorem shr_bitN (w q : Nat) (hw : w < 1048576) (hq : q < 32) : IntKind.i64.wrap ((BitVec.ofInt IntKind.i64.bits (((w : Nat) : Int).fdiv (2 ^ (min q IntKind.i64.bits))) &&& BitVec.ofInt IntKind.i64.bits 1).toNat) = if w.testBit q = true then 1 else 0 := by
 have e1 : min q IntKind.i64.bits = q := by show min q 64 = q; omega
 rw [e1]
 have e2 : ((w : Nat) : Int).fdiv (2 ^ q) = ((w >>> q : Nat) : Int) := by
  rw [Int.fdiv_eq_ediv_of_nonneg _ (Int.le_of_lt (Int.pow_pos (by decide))), Nat.shiftRight_eq_div_pow, Int.natCast_ediv, Int.natCast_pow]
  rfl
 rw [e2]
 have e4 : (BitVec.ofInt 64 ((w >>> q : Nat) : Int) &&& BitVec.ofInt 64 1).toNat = if w.testBit q = true then 1 else 0 := by
  have h1 : w >>> q < 2 ^ 64 := Nat.lt_of_le_of_lt (by rw [Nat.shiftRight_eq_div_pow]; exact Nat.div_le_self _ _) (show w < 2 ^ 64 by omega)
  have h2 : BitVec.ofInt 64 ((w >>> q : Nat) : Int) = BitVec.ofNat 64 (w >>> q) := BitVec.ofInt_natCast ..
  have h3 : BitVec.ofInt 64 1 = BitVec.ofNat 64 1 := rfl
  rw [h2, h3, BitVec.toNat_and, BitVec.toNat_ofNat, BitVec.toNat_ofNat, Nat.mod_eq_of_lt h1, show (1 % 2 ^ 64 : Nat) = 1 from rfl, Nat.and_one_is_mod]
  simp only [Nat.testBit, Nat.and_comm 1, Nat.and_one_is_mod]
  have := Nat.mod_two_eq_zero_or_one (w >>> q)
  rcases this with h | h <;> simp [h]
 show IntKind.i64.wrap ((BitVec.ofInt 64 ((w >>> q : Nat) : Int) &&& BitVec.ofInt 64 1).toNat) = _
 rw [e4]
 split <;> rfl
def c_invariant_set : Cmd :=
 (qS [qq 4 (.mov (.c (.sl .nil [])))]
 (qS [qq 5 (.newVec 896321)]
 (qT (qS [qm 7 1, qc 8 0]
 (.block 0 (.loop (qS [qu 9 .lss [] 8 7]
 (qT (.cond (.t 9) .skip (.exit 0))
 (qT (.block 1 (qS [qm 10 8, qm 6 10]
 (qS [qm 11 0, qm 12 6, qu 13 .shr [] 11 12, qv 14 .and [] 13 1, qv 15 .eql [.i] 14 1]
 (.cond (.t 15) (.ops [qm 16 5, qm 17 6, qq 18 (.bsl 1 [.t 17]), qq 19 (.append 1 8 3 (.t 16) (.t 18)), qm 5 19]) .skip))))
 (.ops [qv 20 .add [] 8 1, qm 8 20])))))))
 (.seq (.ops [qm 21 5, qm 4 21]) .ret))))
def r_invariant_set : List RVar := [.tmp 4]
def n_invariant_set : Nat := 22
theorem k_invariant_set : chkFn PG 14 n_invariant_set r_invariant_set c_invariant_set = true := by kernel_rfl
theorem f_set (w n : Nat) (hw : w < 1048576) (hn : n ≤ 24) :
  Fc PG 14 [.int .i64 w, .int .i64 n] (.sl .p ((selK w.testBit n).map i64V)) := by
 refine Fn.step mixed k_invariant_set ?_
 repeat (first | refine i_s rfl ?_ | refine sw ?_ | refine i_nv rfl ?_)
 refine c_for n (fun k => [(0, .int .i64 w), (5, .sl (.own 896321) ((selK w.testBit k).map i64V)), (7, .int .i64 n), (8, .int .i64 k)])
  (fun k => [(896321, .vec (selK w.testBit k).length)]) (fun _ => True) trivial ft fun k hk _ => ?_
 have hlen : (selK w.testBit k).length ≤ k := by
  unfold selK; rw [List.length_map]; exact Nat.le_trans (List.length_filter_le _ _) (by simp)
 repeat (first | refine i_s rfl ?_ | refine sw ?_)
 refine c_cond rfl (fun h => ?_) (fun h => ?_)
 · have hlt : k < n := by have : (k : Int) < n := by simpa using h
                          omega
   clear h
   have hq := shr_bitN w k hw (by omega)
   have et := selK_succ w.testBit k
   cases hb : w.testBit k with
   | true =>
    rw [hb, if_pos rfl] at hq et
    repeat' (first | refine i_s rfl ?_ | refine sw ?_ | refine c_t rfl ?_ | refine ja rfl rfl ?_ | refine i_shr rfl rfl (by omega) rfl ?_ | refine i_and rfl rfl rfl hq ?_ | refine i_appM (c := (k : Int)) rfl rfl rfl rfl rfl (by omega) (by omega) ?_)
    all_goals first
     | (exfalso; simp at *; done)
     | (refine e_for hlt trivial ⟨⟨rfl, ?_, rfl, rfl, trivial⟩, ⟨?_, trivial⟩, rfl⟩
        · rw [et]; rfl
        · rw [et, List.length_append]; rfl)
   | false =>
    rw [hb, if_neg (by decide)] at hq et
    rw [List.append_nil] at et
    repeat' (first | refine i_s rfl ?_ | refine sw ?_ | refine c_f rfl ?_ | refine ja rfl rfl ?_ | refine i_shr rfl rfl (by omega) rfl ?_ | refine i_and rfl rfl rfl hq ?_)
    all_goals first
     | (exfalso; simp at *; done)
     | (refine e_for hlt trivial ⟨⟨rfl, ?_, rfl, rfl, trivial⟩, ⟨?_, trivial⟩, rfl⟩
        · rw [et]; rfl
        · rw [et]; rfl)
 · have hge : k = n := by have : ¬ (k : Int) < n := by simpa using h
                          omega
   subst hge
   repeat' (first | refine i_s rfl ?_ | refine sw ?_ | fail)
   exact e_ret ⟨rfl, _, rfl, rfl⟩
def c_invariant_Find_1 : Cmd :=
 (qS [qb 3 false]
 (.seq (.ops [qm 4 0, ql 5 1 1, qu 6 .and [] 4 5, ql 7 1 1, qu 8 .eql [.i] 6 7, qm 3 8]) .ret))
def r_invariant_Find_1 : List RVar := [.tmp 3]
def n_invariant_Find_1 : Nat := 9
theorem k_invariant_Find_1 : chkFn PG 15 n_invariant_Find_1 r_invariant_Find_1 c_invariant_Find_1 = true := by kernel_rfl
theorem f_Find_1 (w x : Int) : Fc PG 15 [i64V x, .cptr .p (.int .i64 w) 0] (.bool (inW w x)) := by
 refine Fn.step mixed k_invariant_Find_1 ?_
 repeat' (first | refine i_s rfl ?_ | refine sw ?_ | refine i_and rfl rfl rfl rfl ?_)
 exact e_ret ⟨rfl, _, rfl, rfl⟩
end Hm
end
section
namespace Hm
open Go
namespace W1
theorem ct_of_fn {G : Type} {P : Program} {H : HT G} {f : Nat} {args : List V} {r : V} {pn : List Nat} {σ : Store} {g : G} (h : Fn P f (args.map (er σ 6)) r) (hfl : flatB r = true) (hpn : ∀ nm, nm ∉ pn → σ nm = .unused) :
  CT P H f args pn σ g fun v σ' g' => v = r ∧ σ' = σ ∧ g' = g :=
 ⟨h.1, fun J l hst hM hH w S F θ xs hs hargs => by
  have hcall := h.2 w (All w) _ (fun b hb => hb) ((hst.1 _ _ _ _ hs.hJ).same (fun _ _ => rfl) hs.hS) (reps_map hargs (fun v x _ hr => hr.er hs 6))
  refine hcall.mono fun e w' he' => ?_
  obtain ⟨x', S', rfl, hr, hS1, hS2, hg⟩ := he'
  exact ⟨r, x', σ, g, _, F, θ, rfl, ⟨rfl, rfl, rfl⟩, St.grow hst hs hg (N := fun _ => False) (fun b hb => hb.elim) (fun b hb => hb.elim), .pure (hr.flat hfl), Fr.grow hs hg (fun b hb => hb.elim), hpn⟩⟩
theorem putRow_set {α : Type} [Inhabited α] (enc : α → Value) (w : World) (b : Nat) (c : Array Value) (e : TypeId) (fr : Nat × Nat) (d : Array α) (hb : w.heap[b]? = some (.cells c e fr)) :
  Sort.putRow enc w b 0 d = w.setRow b (Sort.putCells enc 0 d c) := by
 unfold Sort.putRow Sort.mapBlock World.setRow
 congr 1
 apply Array.ext_getElem?
 intro k
 simp only [Array.getElem?_modify]
 by_cases hk : b = k
 · subst hk
   simp [hb, Sort.onCells]
 · simp [hk]
theorem putCells_get {α : Type} [Inhabited α] (enc : α → Value) (d : Array α) (c : Array Value) (j : Nat) : (Sort.putCells enc 0 d c)[j]? = (c[j]?).map fun x => if j < d.size then enc d[j]! else x := by
 unfold Sort.putCells
 rw [Array.getElem?_mapIdx]
 simp
theorem ups_same {σ : Store} {nm : Nat} {b : Blk} (h : σ nm = b) : ups σ nm b = σ := by
 funext k
 unfold ups
 cases hb : Nat.beq k nm with
 | true => have := Nat.eq_of_beq_eq_true hb; subst this; exact h.symm
 | false => rfl
theorem grow_eq {w w' : World} (h : Grow w w') : ∃ q os', w' = Sort.grow (w.drewN q) os' := by
 refine ⟨w'.drawn - w.drawn, w'.heap.extract w.heap.size w'.heap.size, ?_⟩
 obtain ⟨heap', tape', drawn', os', output'⟩ := w'
 obtain ⟨hs, e1, e2, e3, hb⟩ := h
 have e1 : os' = w.os := e1
 have e2 : tape' = w.tape := e2
 obtain ⟨e3, e4⟩ := e3
 have e3 : output' = w.output := e3
 have e4 : w.drawn ≤ drawn' := e4 (by first | rfl | trivial)
 have hs : w.heap.size ≤ heap'.size := hs
 have hb : ∀ k, k < w.heap.size → heap'[k]? = w.heap[k]? := hb
 subst e1 e2 e3
 have eh : heap' = w.heap ++ heap'.extract w.heap.size heap'.size := by
  apply Array.ext_getElem?
  intro k
  by_cases hk : k < w.heap.size
  · rw [Array.getElem?_append_left hk]; exact hb k hk
  · rw [Array.getElem?_append_right (by omega), Array.getElem?_extract]
    by_cases hk2 : k < heap'.size
    · rw [if_pos (by omega)]; congr 1; omega
    · rw [if_neg (by omega), Array.getElem?_eq_none (by omega)]
 simp only [Sort.grow, World.drewN]
 congr 1
 omega
theorem rep_one {w : World} {S : Nat → Prop} {u : V} {v : Value} (h : RepP w S u v) (hl : leafB u = true) : v.oneCell' = true := by
 cases h <;> first
  | rfl
  | (exact absurd hl (by simp [leafB]))
structure E1 {α : Type} (f : α → V) (ok : α → Prop) (w : World) (S : Nat → Prop) where
 e : α
 v : Value
 h1 : v.oneCell' = true
 ok : ok e
 rep : RepP w S (f e) v
theorem ct_sort {G : Type} {P : Program} {H : HT G} {ρ : Shelf.Ren} (Ly : Go.Proofs.SlLaysF.n6 P ρ) {α : Type} (f : α → V) (ok : α → Prop) (hf : ∀ x, leafB (f x) = true ∧ (f x).cells = [f x])
  (cf : α → α → Int) (hO : Sort.SWO (Go.Proofs.ltOf cf)) (g0 : Nat) (eg : ∀ args w, (callFunc g0 args).run P w = .ok (.enter g0 args) w) (hcmp : ∀ a b, ok a → ok b → Fn P g0 [f a, f b] (.int .i64 (cf a b)))
  (nm gen : Nat) (l : List α) (hok : ∀ x ∈ l, ok x) {pn : List Nat} {σ : Store} {g : G} (hw : wd nm = 1) (hσ : σ nm = .arr gen (l.map f)) (hpn : ∀ nm', nm' ∉ pn → σ nm' = .unused)
  (h0 : Fn P (ρ.f 6) [.sl .p [], .fn g0 []] (.tup [])) (hsz : l.length < 4611686018427387904) :
  CT P H (ρ.f 6) [.msl nm gen 0 l.length, .fn g0 []] pn σ g fun v σ' g' => v = .tup [] ∧ (∃ l' : List α, l'.Perm l ∧ (l'.Pairwise fun x y => ¬ cf y x < 0) ∧ σ' = ups σ nm (.arr gen (l'.map f))) ∧ g' = g := by
 by_cases hl : l = []
 · subst hl
   have := ct_of_fn (G := G) (H := H) (P := P) (f := ρ.f 6) (args := [.msl nm gen 0 0, .fn g0 []]) (r := .tup []) (pn := pn) (σ := σ) (g := g) (by simpa [er, hσ] using h0) rfl hpn
   refine CT_mono (fun v σ' g' h => ?_) this
   refine ⟨h.1, ⟨[], List.Perm.refl _, List.Pairwise.nil, ?_⟩, h.2.2⟩
   rw [h.2.1]
   exact (ups_same (by simpa using hσ)).symm
 refine ⟨h0.1, fun J lc hst hM hH w S F θ xs hs hargs => ?_⟩
 obtain ⟨hlen, hrep⟩ := hargs
 match xs, hlen with
 | [x, y], _ =>
 have hx := hrep 0 _ x rfl rfl
 have hy := hrep 1 _ y rfl rfl
 have hy0 : y = .func (.func g0) #[] #[] := by
  cases hy with
  | pure h =>
   cases h with
   | fn _ _ xs hl _ => match xs, hl with
     | [], _ => rfl
  | fn _ _ xs hl _ => match xs, hl with
    | [], _ => rfl
 subst hy0
 have hlen0 : 0 < l.length := List.length_pos_iff.2 hl
 obtain ⟨b, m, cap, hθ, hcap, rfl, hck, hle⟩ : ∃ b m cap, θ nm = some (b, m) ∧ l.length ≤ cap ∧ x = .slice (some ⟨b, 0 * m, none⟩) l.length cap ∧ CapOk w b ((0 + cap) * m) ∧ 0 + l.length ≤ (l.map f).length := by
  cases hx with
  | pure h => cases h
  | msl _ _ _ _ _ _ _ _ h =>
   rcases h _ hσ with h | ⟨h, _⟩
   · exact h
   · omega
 have hlv : (σ nm).live := live_arr hσ
 have hblk := hs.hblk nm
 rw [hσ] at hblk
 simp only [BlkOk] at hblk
 rcases hblk with ⟨hn, _⟩ | ⟨b', m', c, e, hθ', hb, hrows, ⟨hm, hsz'⟩, hcells⟩
 · rw [hθ] at hn; cases hn
 rw [hθ] at hθ'
 injection hθ' with hθ'
 injection hθ' with e1 e2
 subst e1 e2
 rw [hw] at hm
 subst hm
 have hgl : b < w.heap.size := (Array.getElem?_eq_some_iff.1 hb).1
 have hcs : l.length ≤ c.size := by simpa using hsz'
 have hnS : ∀ b', S b' → b' ≠ b := fun b' hb' e => hs.hliveS b' ⟨nm, 1, hlv, by rw [e]; exact hθ⟩ hb'
 have hex : ∀ i (hi : i < l.length), ∃ E : E1 f ok w S, E.e = l[i] ∧ c[i]? = some E.v := fun i hi => by
  obtain ⟨q1, q2⟩ := hf l[i]
  obtain ⟨y, h1, h2⟩ := hcells i 0 (f l[i]) (f l[i]) (by rw [List.getElem?_map, List.getElem?_eq_getElem hi]; rfl) (by rw [q2]; rfl)
  rw [Nat.mul_one, Nat.add_zero] at h1
  exact ⟨⟨l[i], y, rep_one h2 q1, hok _ (List.getElem_mem hi), h2⟩, rfl, h1⟩
 obtain ⟨el, hel⟩ : ∃ el : Fin l.length → E1 f ok w S, ∀ i, (el i).e = l[i.1] ∧ c[i.1]? = some (el i).v :=
  ⟨fun i => (hex i.1 i.2).choose, fun i => (hex i.1 i.2).choose_spec⟩
 haveI : Inhabited (E1 f ok w S) := ⟨el ⟨0, hlen0⟩⟩
 obtain ⟨d, hd⟩ : ∃ d : Array (E1 f ok w S), d = Array.ofFn el := ⟨_, rfl⟩
 have hds : d.size = l.length := by rw [hd]; simp
 have hdg : ∀ i (hi : i < l.length), d[i]! = el ⟨i, hi⟩ := fun i hi => by
  rw [getElem!_pos d i (by omega)]
  simp [hd]
 have hH : Sort.Holds (fun E : E1 f ok w S => E.v) w b 0 d := by
  intro t ht
  rw [hds] at ht
  refine ⟨?_, ?_⟩
  · rw [Nat.zero_add, cell_of_row w b t c e (0, 0) hb, hdg t ht]
    exact (hel ⟨t, ht⟩).2
  · simp [World.frozen?, hb]
 have hheap : ∀ (mm : Nat) (dk : Array (E1 f ok w S)) (os : Array Go.Obj) (b' : Nat), b' ≠ b → b' < w.heap.size → (Go.Proofs.sortWorld (fun E : E1 f ok w S => E.v) w b 0 mm dk os).heap[b']? = w.heap[b']? := fun mm dk os b' hne hlt => by
  unfold Go.Proofs.sortWorld
  rw [putRow_set _ (Sort.ahead w mm) b c e (0, 0) _ hb]
  show ((World.setRow _ b _).heap ++ os)[b']? = _
  rw [Array.getElem?_append_left (by rw [setRow_size]; exact hlt), setRow_old _ _ _ hne]
  rfl
 have hcmp' : Go.Proofs.CmpLays1 P g0 #[] (fun E : E1 f ok w S => E.v) (fun x y => cf x.e y.e) b 0 d.size w := by
  intro mm os dk hdk x y
  have hc := (hcmp x.e y.e x.ok y.ok).2 (Go.Proofs.sortWorld (fun E : E1 f ok w S => E.v) w b 0 mm dk os) S [x.v, y.v] (fun b' hb' => by
    have h1 := hs.hS b' hb'
    unfold Go.Proofs.sortWorld
    rw [putRow_set _ (Sort.ahead w mm) b c e (0, 0) _ hb]
    show b' < ((World.setRow _ b _).heap ++ os).size
    rw [Array.size_append, setRow_size]
    show b' < w.heap.size + _
    omega)
   ((hst.1 _ _ _ _ hs.hJ).same (fun b' hb' => hheap mm dk os b' (hnS b' hb') (hs.hS b' hb')) fun _ h => h)
   ⟨rfl, fun i v z h1 h2 => by
    match i with
    | 0 => cases h1; cases h2; exact x.rep.mono (fun b' hb' => hheap mm dk os b' (hnS b' hb') (hs.hS b' hb')) fun _ h => h
    | 1 => cases h1; cases h2; exact y.rep.mono (fun b' hb' => hheap mm dk os b' (hnS b' hb') (hs.hS b' hb')) fun _ h => h
    | i + 2 => cases h1⟩
  refine ((callsIn_wide (n := 0)).1 hc).mono fun en w' he' => ?_
  obtain ⟨x', S', rfl, hr, _, _, hgw⟩ := he'
  cases hr
  exact ⟨rfl, grow_eq hgw⟩
 have hO' : Sort.SWO (Go.Proofs.ltOf fun x y : E1 f ok w S => cf x.e y.e) := ⟨fun x => hO.irrefl x.e, fun x y z => hO.trans x.e y.e z.e, fun x y z => hO.ntrans x.e y.e z.e⟩
 have hcall := (callsIn_wide (n := 0)).2 (Go.Proofs.Any.slices_SortFunc Ly (fun E : E1 f ok w S => E.v) (fun x => x.h1) (fun x y => cf x.e y.e) hO' g0 #[] b 0 cap d w eg hcmp' hH hgl (by rw [hds]; exact hsz))
 rw [hds] at hcall
 simp only [Nat.zero_mul]
 refine hcall.mono fun en w' he' => ?_
 obtain ⟨rfl, d', n, os, hperm, hsorted, rfl⟩ := he'
 have hd's : d'.size = l.length := hperm.1.trans hds
 obtain ⟨l', hl'⟩ : ∃ l' : List α, l' = d'.toList.map E1.e := ⟨_, rfl⟩
 have hll : l'.length = l.length := by rw [hl']; simp [hd's]
 have hpl : l'.Perm l := by
  have h1 := hperm.2.2
  rw [← hds] at h1
  rw [show d'.extract 0 d.size = d' from by rw [show d.size = d'.size by omega]; simp, show d.extract 0 d.size = d by simp] at h1
  have h2 := h1.map E1.e
  rw [hl']
  refine h2.trans ?_
  have : d.toList.map E1.e = l := by
   apply List.ext_getElem
   · simp [hds]
   · intro i h3 h4
     simp only [List.getElem_map, Array.getElem_toList]
     have := hdg i h4
     rw [getElem!_pos d i (by omega)] at this
     rw [this]
     exact (hel ⟨i, h4⟩).1
  rw [this]
 have hsl : l'.Pairwise fun x y => ¬ cf y x < 0 := by
  rw [hl', List.pairwise_iff_getElem]
  intro i j hi hj hij
  have hi' : i < d'.size := by simpa using hi
  have hj' : j < d'.size := by simpa using hj
  have := hsorted i j (Nat.zero_le _) hij (by omega)
  rw [getElem!_pos d' i hi', getElem!_pos d' j hj'] at this
  simp only [List.getElem_map, Array.getElem_toList]
  simpa [Go.Proofs.ltOf] using this
 have hg1 : Grow w (Sort.ahead w n) := ⟨Nat.le_refl _, rfl, rfl, ⟨rfl, by simp⟩, fun _ _ => rfl⟩
 have hs1 := St.grow hst hs hg1 (N := fun _ => False) (fun b hb => hb.elim) (fun b hb => hb.elim)
 have hf1 := Fr.grow hs hg1 (N := fun _ => False) (fun b hb => hb.elim)
 have hb1 : (Sort.ahead w n).heap[b]? = some (.cells c e (0, 0)) := hb
 unfold Go.Proofs.sortWorld
 rw [putRow_set _ _ b c e (0, 0) _ hb1]
 obtain ⟨c', hc'⟩ : ∃ c', c' = Sort.putCells (fun E : E1 f ok w S => E.v) 0 d' c := ⟨_, rfl⟩
 rw [← hc']
 have hcz : c'.size = c.size := by rw [hc']; simp [Sort.putCells]
 have hf2 : Fr (Sort.ahead w n) (fun b => S b ∨ False) F θ σ ((Sort.ahead w n).setRow b c') (fun b => S b ∨ False) F θ (ups σ nm (.arr gen (l'.map f))) := by
  refine Fr.write hs1 nm b 1 c c' e _ hlv hθ hb1 hcz ?_
  rw [hσ]
  exact ⟨l'.map f, .inl ⟨rfl, by simp [hll]⟩⟩
 have hk : BlkOk ((Sort.ahead w n).setRow b c') (fun b => S b ∨ False) θ (ups σ nm (.arr gen (l'.map f))) lc nm (.arr gen (l'.map f)) := by
  refine .inr ⟨b, 1, c', e, hθ, setRow_heap _ b c c' _ _ hb1, fun row hrow => ?_, ⟨hw.symm, by simp [hll, hcz]; exact hcs⟩, fun i j row v h1 h2 => ?_⟩
  · obtain ⟨z, _, rfl⟩ := List.mem_map.1 hrow
    rw [(hf z).2]
    rfl
  · rw [List.getElem?_map] at h1
    cases h3 : l'[i]? with
    | none => rw [h3] at h1; cases h1
    | some z =>
     rw [h3] at h1
     cases h1
     have hi : i < l'.length := (List.getElem?_eq_some_iff.1 h3).1
     have hid : i < d'.size := by omega
     obtain ⟨q1, q2⟩ := hf z
     rw [q2] at h2
     have hj0 : j = 0 := by have := (List.getElem?_eq_some_iff.1 h2).1; simpa using this
     subst hj0
     cases h2
     have hez : (d'[i]!).e = z := by
      have := (List.getElem?_eq_some_iff.1 h3).2
      simp only [hl', List.getElem_map, Array.getElem_toList] at this
      rw [getElem!_pos d' i hid]
      exact this
     have hrp := (d'[i]!).rep
     rw [hez] at hrp
     refine ⟨(d'[i]!).v, ?_, hrp.mono (fun b' hb' => ?_) fun _ h => .inl h⟩
     · rw [Nat.mul_one, Nat.add_zero, hc', putCells_get, Array.getElem?_eq_getElem (show i < c.size by omega)]
       simp only [Option.map_some, if_pos hid]
     · rw [setRow_old _ _ _ (hnS b' hb')]
       rfl
 have hs2 := St.write hst hs1 nm b 1 c' _ hlv hθ hf2 hk
 have hg3 : Grow ((Sort.ahead w n).setRow b c') (Sort.grow ((Sort.ahead w n).setRow b c') os) :=
  ⟨by simp [Sort.grow], rfl, rfl, Out.refl _, fun b' hb' => by simp [Sort.grow, Array.getElem?_append_left hb']⟩
 have hs3 := St.grow hst hs2 hg3 (N := fun _ => False) (fun b hb => hb.elim) (fun b hb => hb.elim)
 have hf3 := Fr.grow hs2 hg3 (N := fun _ => False) (fun b hb => hb.elim)
 refine ⟨.tup [], _, _, g, _, F, θ, rfl, ⟨rfl, ⟨l', hpl, hsl, rfl⟩, rfl⟩, hs3, .pure (.tup [] [] rfl fun i v x h1 h2 => by simp at h1), (hf1.trans hs1 hf2).trans hs2 hf3, fun nm' hnm => ?_⟩
 have h5 : nm' ≠ nm := fun h => by rw [h] at hnm; have := hpn nm hnm; rw [this] at hσ; cases hσ
 rw [upt_ne σ _ h5]
 exact hpn nm' hnm
end W1
end Hm
end
section
namespace Go.Proofs
open Go.Shelf
def Tryz.sortS_ren : Go.Shelf.Ren := ⟨fun | 6 => 18 | 14 => 52 | 15 => 53 | 20 => 95 | 21 => 96 | 22 => 97 | 23 => 98 | 24 => 99 | 25 => 100 | 26 => 101 | 27 => 102 | 28 => 103 | 29 => 104 | 46 => 136 | 47 => 137 | 48 => 138 | 49 => 139 | 50 => 140 | 57 => 167 | n => n, fun | 0 => 0 | 3 => 3 | 4 => 4 | 5 => 5 | 9 => 9 | 22 => 26 | 25 => 64 | 39 => 126 | 45 => 196 | 46 => 197 | 50 => 132 | 53 => 88 | 55 => 204 | 66 => 247 | 70 => 251 | 76 => 279 | 77 => 73 | 24 => 22 | n => n, fun n => n⟩
theorem Tryz.sortS_lays : SlLaysF.n6 Tryz.prog Tryz.sortS_ren :=
 {
  mixed := by kernel_rfl,
  f6 := ⟨Tryz.f18.name, by kernel_rfl, Tryz.func18.trans (congrArg some (by kernel_rfl))⟩,
  f14 := ⟨Tryz.f52.name, by kernel_rfl, Tryz.func52.trans (congrArg some (by kernel_rfl))⟩,
  f15 := Tryz.func53.trans (congrArg some (by kernel_rfl)),
  f20 := ⟨Tryz.f95.name, by kernel_rfl, Tryz.func95.trans (congrArg some (by kernel_rfl))⟩,
  f21 := ⟨Tryz.f96.name, by kernel_rfl, Tryz.func96.trans (congrArg some (by kernel_rfl))⟩,
  f22 := ⟨Tryz.f97.name, by kernel_rfl, Tryz.func97.trans (congrArg some (by kernel_rfl))⟩,
  f23 := ⟨Tryz.f98.name, by kernel_rfl, Tryz.func98.trans (congrArg some (by kernel_rfl))⟩,
  f24 := ⟨Tryz.f99.name, by kernel_rfl, Tryz.func99.trans (congrArg some (by kernel_rfl))⟩,
  f25 := ⟨Tryz.f100.name, by kernel_rfl, Tryz.func100.trans (congrArg some (by kernel_rfl))⟩,
  f26 := ⟨Tryz.f101.name, by kernel_rfl, Tryz.func101.trans (congrArg some (by kernel_rfl))⟩,
  f27 := ⟨Tryz.f102.name, by kernel_rfl, Tryz.func102.trans (congrArg some (by kernel_rfl))⟩,
  f28 := Tryz.func103.trans (congrArg some (by kernel_rfl)),
  f29 := Tryz.func104.trans (congrArg some (by kernel_rfl)),
  f46 := ⟨Tryz.f136.name, by kernel_rfl, Tryz.func136.trans (congrArg some (by kernel_rfl))⟩,
  f47 := Tryz.func137.trans (congrArg some (by kernel_rfl)),
  f48 := Tryz.func138.trans (congrArg some (by kernel_rfl)),
  f49 := ⟨Tryz.f139.name, by kernel_rfl, Tryz.func139.trans (congrArg some (by kernel_rfl))⟩,
  f50 := ⟨Tryz.f140.name, by kernel_rfl, Tryz.func140.trans (congrArg some (by kernel_rfl))⟩,
  f57 := ⟨Tryz.f167.name, by kernel_rfl, Tryz.func167.trans (congrArg some (by kernel_rfl))⟩,
  t0 := Tryz.underlying0,
  a0 := Tryz.isAgg0,
  z0 := Tryz.sizeOf0,
  v0 := Tryz.zeroValue0,
  t3 := Tryz.underlying3,
  a3 := Tryz.isAgg3,
  z3 := Tryz.sizeOf3,
  v3 := Tryz.zeroValue3,
  t4 := Tryz.underlying4,
  a4 := Tryz.isAgg4,
  z4 := Tryz.sizeOf4,
  v4 := Tryz.zeroValue4,
  t5 := Tryz.underlying5,
  a5 := Tryz.isAgg5,
  z5 := Tryz.sizeOf5,
  v5 := Tryz.zeroValue5,
  t9 := Tryz.underlying9,
  a9 := Tryz.isAgg9,
  z9 := Tryz.sizeOf9,
  v9 := Tryz.zeroValue9,
  t22 := Tryz.underlying26,
  a22 := Tryz.isAgg26,
  z22 := Tryz.sizeOf26,
  v22 := Tryz.zeroValue26,
  t25 := Tryz.underlying64,
  a25 := Tryz.isAgg64,
  z25 := Tryz.sizeOf64,
  v25 := Tryz.zeroValue64,
  t39 := Tryz.underlying126,
  a39 := Tryz.isAgg126,
  z39 := Tryz.sizeOf126,
  v39 := Tryz.zeroValue126,
  t45 := Tryz.underlying196,
  a45 := Tryz.isAgg196,
  z45 := Tryz.sizeOf196,
  v45 := Tryz.zeroValue196,
  t46 := Tryz.underlying197,
  a46 := Tryz.isAgg197,
  z46 := Tryz.sizeOf197,
  v46 := Tryz.zeroValue197,
  t50 := Tryz.underlying132,
  a50 := Tryz.isAgg132,
  z50 := Tryz.sizeOf132,
  v50 := Tryz.zeroValue132,
  t53 := Tryz.underlying88,
  a53 := Tryz.isAgg88,
  z53 := Tryz.sizeOf88,
  v53 := Tryz.zeroValue88,
  t55 := Tryz.underlying204,
  a55 := Tryz.isAgg204,
  z55 := Tryz.sizeOf204,
  v55 := Tryz.zeroValue204,
  t66 := Tryz.underlying247,
  a66 := Tryz.isAgg247,
  z66 := Tryz.sizeOf247,
  v66 := Tryz.zeroValue247,
  t70 := Tryz.underlying251,
  a70 := Tryz.isAgg251,
  z70 := Tryz.sizeOf251,
  v70 := Tryz.zeroValue251,
  t76 := Tryz.underlying279,
  a76 := Tryz.isAgg279,
  z76 := Tryz.sizeOf279,
  v76 := Tryz.zeroValue279,
  t77 := Tryz.underlying73,
  a77 := Tryz.isAgg73,
  z77 := Tryz.sizeOf73,
  v77 := Tryz.zeroValue73,
  a24 := Tryz.isAgg22,
  z24 := Tryz.sizeOf22 }
end Go.Proofs
end
section
namespace Hm
open Go
set_option maxRecDepth 100000
set_option maxHeartbeats 4000000
def c_slices_insertionSortCmpFunc_sint : Cmd :=
 (qS [qm 10 1, qv 11 .add [] 10 1, qm 8 11]
 (.block 0 (.loop (qT (qS [qm 12 8, qm 13 2, qu 14 .lss [] 12 13]
 (.cond (.t 14) .skip (.exit 0)))
 (qT (.block 1 (qS [qm 17 8, qm 9 17]
 (.block 2 (.loop (qT (qS [qm 18 9, qm 19 1, qu 20 .gtr [] 18 19, qm 21 20, qg 22 21 true (.mov (.t 3)), qg 23 21 true (.mov (.t 0)), qg 24 21 true (.mov (.t 9)), qg 25 21 true (.iaddr 1 (.t 23) (.t 24)), qg 26 21 true (.load false 1 (.t 25)), qg 27 21 true (.mov (.t 0)), qg 28 21 true (.mov (.t 9)), qg 29 21 true (.bin .sub false [] (.t 28) (.c (.int .i64 1))), qg 30 21 true (.iaddr 1 (.t 27) (.t 29)), qg 31 21 true (.load false 1 (.t 30)), qg 32 21 true (.call .f (.t 22) [.t 26, .t 31]), qg 33 21 true (.bin .lss false [] (.t 32) (.c (.int .i64 0))), qq 34 (.pick (.t 21) (.t 33) (.c (.bool false)))]
 (.cond (.t 34) .skip (.exit 2)))
 (qT (.block 3 (.ops [qm 37 0, qm 38 9, qm 39 0, qm 40 9, qv 41 .sub [] 40 1, qm 42 0, qm 43 9, qv 44 .sub [] 43 1, qi 45 1 42 44, ql 46 1 45, qm 47 0, qm 48 9, qi 49 1 47 48, ql 50 1 49, qi 51 1 37 38, qs 1 51 46, qi 52 1 39 41, qs 1 52 50]))
 (.ops [qm 35 9, qv 36 .sub [] 35 1, qm 9 36])))))))
 (.ops [qm 15 8, qv 16 .add [] 15 1, qm 8 16]))))))
def r_slices_insertionSortCmpFunc_sint : List RVar := []
def n_slices_insertionSortCmpFunc_sint : Nat := 53
theorem k_slices_insertionSortCmpFunc_sint : chkFn PG 95 n_slices_insertionSortCmpFunc_sint r_slices_insertionSortCmpFunc_sint c_slices_insertionSortCmpFunc_sint = true := by kernel_rfl
theorem f_insertionSortS_0 (v : V) (hv : closedB [] v = true) : Fc PG 95 [.sl .p [], .int .i64 0, .int .i64 0, v] (.tup []) := by
 refine Fn.step mixed k_slices_insertionSortCmpFunc_sint ?_
 repeat' (first | refine i_s rfl ?_ | refine sw ?_ | refine ja rfl rfl ?_ | fail)
 refine c_lp (ι := Unit) (fun _ => [(0, .sl .p []), (1, .int .i64 0), (2, .int .i64 0), (8, .int .i64 1)]) (fun _ => []) (fun _ => True) (fun _ => 0) () trivial ft fun _ _ => ?_
 repeat' (first | refine i_s rfl ?_ | refine sw ?_ | refine c_f rfl ?_)
 refine e_end ⟨rfl, _, rfl, rfl⟩
def c_slices_pdqsortCmpFunc_sint : Cmd :=
 (qS [qb 10 true]
 (qS [qb 11 true]
 (.block 0 (.loop (.block 1 (qS [qm 21 2, qm 22 1, qu 23 .sub [] 21 22, qm 12 23]
 (qT (qS [qm 24 12, qv 25 .leq [] 24 12]
 (.cond (.t 25) (.seq (.ops [qm 26 0, qm 27 1, qm 28 2, qm 29 4, qk 30 95 [26, 27, 28, 29]]) .ret) .skip))
 (qT (qS [qm 31 3, qv 32 .eql [.i] 31 0]
 (.cond (.t 32) (.seq (.ops [qm 33 0, qm 34 1, qm 35 2, qm 36 4, qk 37 96 [33, 34, 35, 36]]) .ret) .skip))
 (qT (qS [qm 38 10, qq 39 (.not (.t 38))]
 (.cond (.t 39) (qS [qm 40 0, qm 41 1, qm 42 2, qm 43 4, qk 44 97 [40, 41, 42, 43]]
 (.ops [qm 45 3, qv 46 .sub [] 45 1, qm 3 46])) .skip))
 (qS [qm 48 0, qm 49 1, qm 50 2, qm 51 4, qk 52 98 [48, 49, 50, 51], qm 47 52, qq 53 (.extract (.t 47) 0), qq 54 (.extract (.t 47) 1), qm 13 53, qm 14 54]
 (qT (qS [qm 55 14, qv 56 .eql [.i] 55 2]
 (.cond (.t 56) (qS [qm 57 0, qm 58 1, qm 59 2, qm 60 4, qk 61 99 [57, 58, 59, 60]]
 (qS [qm 62 2, qv 63 .sub [] 62 1, qm 64 13, qm 65 1, qu 66 .sub [] 64 65, qu 67 .sub [] 63 66, qm 13 67]
 (.ops [qc 14 1]))) .skip))
 (qT (qS [qm 68 10, qm 69 68, qg 70 69 true (.mov (.t 11)), qq 71 (.pick (.t 69) (.t 70) (.c (.bool false))), qm 72 71, qg 73 72 true (.mov (.t 14)), qg 74 72 true (.bin .eql false [.i] (.t 73) (.c (.int .i64 1))), qq 75 (.pick (.t 72) (.t 74) (.c (.bool false)))]
 (.cond (.t 75) (qS [qm 76 0, qm 77 1, qm 78 2, qm 79 4, qk 80 100 [76, 77, 78, 79]]
 (.cond (.t 80) .ret .skip)) .skip))
 (qT (qS [qm 81 1, qv 82 .gtr [] 81 0, qm 83 82, qg 84 83 true (.mov (.t 4)), qg 85 83 true (.mov (.t 0)), qg 86 83 true (.mov (.t 1)), qg 87 83 true (.bin .sub false [] (.t 86) (.c (.int .i64 1))), qg 88 83 true (.iaddr 1 (.t 85) (.t 87)), qg 89 83 true (.load false 1 (.t 88)), qg 90 83 true (.mov (.t 0)), qg 91 83 true (.mov (.t 13)), qg 92 83 true (.iaddr 1 (.t 90) (.t 91)), qg 93 83 true (.load false 1 (.t 92)), qg 94 83 true (.call .f (.t 84) [.t 89, .t 93]), qg 95 83 true (.bin .lss false [] (.t 94) (.c (.int .i64 0))), qg 96 83 true (.not (.t 95)), qq 97 (.pick (.t 83) (.t 96) (.c (.bool false)))]
 (.cond (.t 97) (qS [qm 98 0, qm 99 1, qm 100 2, qm 101 13, qm 102 4, qk 103 101 [98, 99, 100, 101, 102], qm 15 103]
 (qS [qm 104 15, qm 1 104]
 (.exit 1))) .skip))
 (qS [qm 106 0, qm 107 1, qm 108 2, qm 109 13, qm 110 4, qk 111 102 [106, 107, 108, 109, 110], qm 105 111, qq 112 (.extract (.t 105) 0), qq 113 (.extract (.t 105) 1), qm 16 112, qm 17 113]
 (qS [qm 114 17, qm 11 114]
 (qS [qm 115 16, qm 116 1, qu 117 .sub [] 115 116, qm 118 2, qm 119 16, qu 120 .sub [] 118 119, qm 18 117, qm 19 120]
 (qS [qm 121 12, qv 122 .quo [] 121 8, qm 20 122]
 (qS [qm 123 18, qm 124 19, qu 125 .lss [] 123 124]
 (.cond (.t 125) (qS [qm 126 18, qm 127 20, qu 128 .geq [] 126 127, qm 10 128]
 (qS [qm 129 0, qm 130 1, qm 131 16, qm 132 3, qm 133 4, qk 134 52 [129, 130, 131, 132, 133]]
 (.ops [qm 135 16, qv 136 .add [] 135 1, qm 1 136]))) (qS [qm 137 19, qm 138 20, qu 139 .geq [] 137 138, qm 10 139]
 (qS [qm 140 0, qm 141 16, qv 142 .add [] 141 1, qm 143 2, qm 144 3, qm 145 4, qk 146 52 [140, 142, 143, 144, 145]]
 (.ops [qm 147 16, qm 2 147]))))))))))))))))))))))
def r_slices_pdqsortCmpFunc_sint : List RVar := []
def n_slices_pdqsortCmpFunc_sint : Nat := 148
theorem k_slices_pdqsortCmpFunc_sint : chkFn PG 52 n_slices_pdqsortCmpFunc_sint r_slices_pdqsortCmpFunc_sint c_slices_pdqsortCmpFunc_sint = true := by kernel_rfl
theorem f_pdqsortS_0 : Fc PG 52 [.sl .p [], .int .i64 0, .int .i64 0, .int .i64 0, .fn 19 []] (.tup []) := by
 refine Fn.step mixed k_slices_pdqsortCmpFunc_sint ?_
 repeat' (first | refine i_s rfl ?_ | refine sw ?_ | fail)
 refine c_lp (ι := Unit) (fun _ => [(0, .sl .p []), (1, .int .i64 0), (2, .int .i64 0), (3, .int .i64 0), (4, .fn 19 [])]) (fun _ => []) (fun _ => True) (fun _ => 0) () trivial ft fun _ _ => ?_
 repeat' (first | refine i_s rfl ?_ | refine sw ?_ | refine c_t rfl ?_ | refine jb rfl rfl ?_ | refine sf rfl rfl (f_insertionSortS_0 _ rfl) ?_ | fail)
 exact e_ret ⟨rfl, _, rfl, rfl⟩
def c_slices_SortFunc_sint : Cmd :=
 (qS [qm 5 0, qn 6 5, qm 4 6]
 (.ops [qm 7 0, qm 8 4, qm 9 4, qq 10 (.conv .u64 (.t 9)), qk 11 53 [10], qm 12 1, qq 13 (.call .f (.c (.fn 52 [])) [.t 7, .c (.int .i64 0), .t 8, .t 11, .t 12])]))
def r_slices_SortFunc_sint : List RVar := []
def n_slices_SortFunc_sint : Nat := 14
theorem k_slices_SortFunc_sint : chkFn PG 18 n_slices_SortFunc_sint r_slices_SortFunc_sint c_slices_SortFunc_sint = true := by kernel_rfl
theorem f_SortS_0 : Fc PG 18 [.sl .p [], .fn 19 []] (.tup []) := by
 refine Fn.step mixed k_slices_SortFunc_sint ?_
 repeat' (first | refine i_s rfl ?_ | refine sw ?_ | fail)
 refine i_conv (n := 0) rfl ⟨by decide, by decide⟩ ?_
 repeat' (first | refine i_s rfl ?_ | refine sw ?_ | refine sf rfl rfl f_bits_Len_0 ?_ | refine sf rfl rfl f_pdqsortS_0 ?_ | fail)
 refine e_end ⟨rfl, _, rfl, rfl⟩
theorem sSWO : Go.Sort.SWO (Go.Proofs.ltOf cmpL) := ⟨fun x => by
  unfold Go.Proofs.ltOf
  rw [cmpL_zero.2 rfl]
  rfl, fun x y z h1 h2 => by
  unfold Go.Proofs.ltOf at *
  simp only [decide_eq_true_eq] at *
  exact cmpL_trans h1 h2, fun x y z h1 h2 => by
  unfold Go.Proofs.ltOf at *
  simp only [decide_eq_false_iff_not] at *
  intro h3
  have e1 := cmpL_neg x y
  have e2 := cmpL_neg y z
  rcases Int.lt_or_eq_of_le (show cmpL y x ≤ 0 by omega) with a | a
  · exact h2 (cmpL_trans a h3)
  · have := cmpL_zero.1 a
    subst this
    exact h2 h3⟩
theorem c_SortS0 {G : Type} {H : HT G} (nm gen : Nat) (l : List (List Int)) (hb : ∀ x ∈ l, x.length ≤ 1000000) {pn : List Nat} {σ : Store} {g : G} (hw : wd nm = 1) (hσ : σ nm = .arr gen (l.map isV)) (hpn : ∀ nm', σ nm' ≠ .unused → nm' ∈ pn) (hsz : l.length < 4611686018427387904) :
  Cc PG H 18 [.msl nm gen 0 l.length, .fn 19 []] pn σ g fun v σ' g' => v = .tup [] ∧ (∃ l' : List (List Int), l'.Perm l ∧ (l'.Pairwise fun x y => ¬ cmpL y x < 0) ∧ σ' = ups σ nm (.arr gen (l'.map isV))) ∧ g' = g :=
 ⟨W1.ct_sort (ρ := Go.Proofs.Tryz.sortS_ren) Go.Proofs.Tryz.sortS_lays isV (fun x => x.length ≤ 1000000) (fun x => ⟨rfl, rfl⟩) cmpL sSWO 19
  (Go.Proofs.enters_of Go.Proofs.Tryz.func19 (by kernel_rfl) rfl) (fun a b ha hb => (f_slices_Compare a b (by omega) (by omega)).out) nm gen l hb hw hσ (fun nm' h => Classical.byContradiction fun h' => h (hpn nm' h')) f_SortS_0.out hsz⟩
theorem c_SortS {G : Type} {H : HT G} (nm gen : Nat) (l : List (List Int)) (hb : ∀ x ∈ l, x.length ≤ 1000000) {pn : List Nat} {σ : Store} {g : G} (hw : wd nm = 1) (hσ : σ nm = .arr gen (l.map isV)) (hpn : ∀ nm', σ nm' ≠ .unused → nm' ∈ pn) (hsz : l.length < 4611686018427387904) :
  Cc PG H 18 [.msl nm gen 0 l.length, .fn 19 []] pn σ g fun v σ' g' => v = .tup [] ∧ σ' = ups σ nm (.arr gen ((srtS l).map isV)) ∧ g' = g := by
 refine Cc_mono ?_ (c_SortS0 nm gen l hb hw hσ hpn hsz)
 rintro v σ' g' ⟨h1, ⟨l', hp, hs, rfl⟩, h3⟩
 have : l' = srtS l := s_sorted (hp.trans (srtS_perm l).symm) hs (srtS_pw l)
 exact ⟨h1, by rw [this], h3⟩
end Hm
end
section
namespace Hm
open Go
set_option maxRecDepth 100000
set_option maxHeartbeats 8000000
structure StopP (p : Prop) : Prop where
 out : p
theorem stopW {p : Prop} (h : StopP p) : p := h.out
theorem goW {p : Prop} (h : p) : StopP p := ⟨h⟩
theorem c_frzall2 {G : Type} {P : Program} {H : HT G} {pn : List Nat} {Q : Exit → Env → Store → G → Prop} {fs : List (Frm G)} {ρ : Env} {σ : Store} {g : G} {t nm gen gen' len : Nat} {rows : List V} (ht : ρ t = .msl nm gen 0 len) (hs : σ nm = .arr gen' rows) (hg : gen = gen') (hl : rows.length = len)
  (h : WE P H pn Q fs .normal (upd ρ t (.sl .p rows)) (ups σ nm .dead) g) : WC P H pn Q fs (.frz t) ρ σ g :=
 c_frza ht hs hg (by rw [List.drop_zero, List.take_of_length_le (by omega)]; exact h)
def c_invariant_Find : Cmd :=
 (qS [qx 1 320068 4 0, qq 2 (.mov (.c (.sl .nil []))), qq 3 (.alloc 320194 (.agg [.int .i64 0, .int .i64 0]))]
 (qT (qS [qL 12 4 1, qk 13 13 [12], qq 4 (.alloc 320258 (.agg [.int .i64 0, .int .i64 0])), qs 2 4 13]
 (qS [qL 14 2 4, qq 15 (.build [.int .i64 0, .int .i64 0] []), qq 16 (.bin .neq true [.i, .i] (.t 14) (.t 15))]
 (.cond (.t 16) (.seq (.ops [qL 17 2 4, qq 2 (.mov (.c (.sl .nil []))), qs 2 3 17]) .ret) .skip)))
 (qT (qS [qf 18 0 1, ql 19 1 18, qv 20 .gtr [] 19 10]
 (.cond (.t 20) (.seq (.ops [qq 21 (.build [.int .i64 0, .int .i64 0] [(0 , 1 , .c (.int .i64 10)), (1 , 1 , .c (.int .i64 (-8)))]), qq 2 (.mov (.c (.sl .nil []))), qs 2 3 21]) .ret) .skip))
 (qS [qq 5 (.newVec 320321)]
 (qT (qS [qf 22 0 1, ql 23 1 22, qq 24 (.bin .shl false [] (.c (.int .i64 1)) (.t 23)), qv 25 .sub [] 24 1, qq 6 (.alloc 320385 (.int .i64 0)), qs 1 6 25]
 (.block 0 (.loop (qT (qS [ql 26 1 6, qv 27 .gtr [] 26 0]
 (.cond (.t 27) .skip (.exit 0)))
 (qT (.block 1 (qS [ql 30 1 6, qf 31 0 1, ql 32 1 31, qk 33 14 [30, 32], qm 7 33]
 (qS [qq 34 (.mkfn 15 [.t 6]), qm 8 34]
 (qS [qm 35 7, qn 36 35, qv 37 .geq [] 36 2, qm 38 37, qg 39 38 true (.load true 4 (.t 1)), qg 40 38 true (.mov (.t 7)), qg 41 38 true (.call .f (.c (.fn 16 [])) [.t 39, .t 40]), qq 42 (.pick (.t 38) (.t 41) (.c (.bool false))), qm 43 42, qg 44 43 true (.mov (.t 5)), qg 45 43 true (.mov (.t 8)), qg 46 43 true (.call .f (.c (.fn 17 [])) [.t 44, .t 45]), qg 47 43 true (.not (.t 46)), qq 48 (.pick (.t 43) (.t 47) (.c (.bool false)))]
 (.cond (.t 48) (.ops [qm 49 5, ql 50 1 6, qq 51 (.bsl 1 [.t 50]), qq 52 (.append 1 8 3 (.t 49) (.t 51)), qm 5 52]) .skip)))))
 (qT (qS [ql 53 1 6]
 (.ops [qq 6 (.alloc 320385 (.int .i64 0)), qs 1 6 53]))
 (.ops [ql 28 1 6, qv 29 .sub [] 28 1, qs 1 6 29])))))))
 (qS [qq 9 (.newArr 320577)]
 (qT (qS [qm 54 5, qn 55 54, qc 56 0]
 (.block 2 (.loop (qS [qu 57 .lss [] 56 55]
 (qT (.cond (.t 57) .skip (.exit 2))
 (qT (.block 3 (qS [qi 58 1 54 56, ql 59 1 58, qm 11 59]
 (.ops [qm 60 9, qm 61 11, qf 62 0 1, ql 63 1 62, qk 64 14 [61, 63], qq 65 (.bsl 1 [.t 64]), qq 66 (.append 1 24 22 (.t 60) (.t 65)), qm 9 66])))
 (.ops [qv 67 .add [] 56 1, qm 56 67])))))))
 (.seq (.ops [qm 68 9, qq 69 (.call .d (.c (.fn 18 [])) [.t 68, .c (.fn 19 [])])]) (qT (.frz 9)
 (.seq (.ops [qm 70 9, qq 71 (.build [.int .i64 0, .int .i64 0] []), qm 2 70, qs 2 3 71]) .ret))))))))))
def r_invariant_Find : List RVar := [.tmp 2, .cell true 2 3]
def n_invariant_Find : Nat := 72
theorem k_invariant_Find : chkFn PG 5 n_invariant_Find r_invariant_Find c_invariant_Find = true := by kernel_rfl
theorem f_Find_bad (t : STask) (ho : SkOk t) (hb : sFault t ≠ okF) : Fc PG 5 [skV t] (.tup [.sl .p [], ftV (sFault t)]) := by
 have hV := f_strips_Validate t ho
 refine Fn.step mixed k_invariant_Find ?_
 repeat' (first | refine i_s rfl ?_ | refine sw ?_ | refine i_stb rfl ?_ | refine i_alloc rfl ?_ | refine i_box rfl rfl ?_ | refine i_nv rfl ?_ | refine c_cond rfl (fun h => ?_) (fun h => ?_) | refine sf rfl rfl hV ?_ | fail)
 · exact e_ret ⟨rfl, _, rfl, rfl⟩
 all_goals exact absurd (eq_ok (by assumption)) hb
theorem f_Find_big (t : STask) (ho : SkOk t) (hb : sFault t = okF) (hw : 10 < t.facts) : Fc PG 5 [skV t] (.tup [.sl .p [], ftV ⟨10, -8⟩]) := by
 have hV := f_strips_Validate t ho
 rw [hb] at hV
 refine Fn.step mixed k_invariant_Find ?_
 repeat' (first | refine i_s rfl ?_ | refine sw ?_ | refine c_f rfl ?_ | refine i_stb rfl ?_ | refine i_alloc rfl ?_ | refine i_box rfl rfl ?_ | refine i_nv rfl ?_ | refine c_cond rfl (fun h => ?_) (fun h => ?_) | refine sf rfl rfl hV ?_ | fail)
 · exact e_ret ⟨rfl, _, rfl, rfl⟩
 all_goals (exfalso; simp at *; omega)
theorem f_Find_ok (t : STask) (ho : SkOk t) (hb : sFault t = okF) (hw : t.facts ≤ 10) : Fc PG 5 [skV t] (.tup [.sl .p ((groupsF t).map isV), ftV okF]) := by
 have hV := f_strips_Validate t ho
 rw [hb] at hV
 have hv := sFault_ok hb
 have h0 := hv.f0
 obtain ⟨n, hn⟩ : ∃ n : Nat, t.facts = n := ⟨t.facts.toNat, (Int.toNat_of_nonneg h0).symm⟩
 have hn10 : n ≤ 10 := by omega
 unfold groupsF
 have ent : t.facts.toNat = n := by omega
 rw [ent]
 have hp : 2 ^ n ≤ 1024 := Nat.le_trans (Nat.pow_le_pow_right (by decide) hn10) (by decide)
 have hp1 : 0 < 2 ^ n := Nat.pos_of_ne_zero (by simp)
 obtain ⟨m, hm⟩ : ∃ m, 2 ^ n = m + 1 := ⟨2 ^ n - 1, by omega⟩
 have hshl : IntKind.i64.wrap (1 * 2 ^ (min t.facts.toNat IntKind.i64.bits)) = ((m + 1 : Nat) : Int) := by
  rw [ent, show min n IntKind.i64.bits = n by show min n 64 = n; omega, ← hm]
  have e : (1 : Int) * 2 ^ n = ((2 ^ n : Nat) : Int) := by rw [Int.one_mul, Int.natCast_pow]; rfl
  rw [e]
  generalize 2 ^ n = q at *
  exact wrap_id (by constructor <;> omega)
 have em : 2 ^ n - 1 = m := by omega
 rw [em]
 have hnm : ∀ k, wsW t n (k + 1) = if okW t n (wsW t n k) (m - k) = true then wsW t n k ++ [m - k] else wsW t n k := fun k => by rw [wsW, em]
 refine Fn.step mixed k_invariant_Find ?_
 repeat' (first | refine i_s rfl ?_ | refine sw ?_ | refine c_f rfl ?_ | refine jb rfl rfl ?_ | refine i_stb rfl ?_ | refine i_alloc rfl ?_ | refine i_box rfl rfl ?_ | refine i_nv rfl ?_ | refine c_cond rfl (fun h => ?_) (fun h => ?_) | refine sf rfl rfl hV ?_ | refine i_shl rfl rfl (by omega) hshl ?_)
 all_goals first
  | (exfalso; have := of_decide_eq_true h; omega)
  | skip
 clear hshl
 refine c_lp (ι := Nat) (fun k => [(1, .bptr 320068 0), (3, .bptr 320194 0), (5, .sl (.own 320321) (((wsW t n k).map Int.ofNat).map i64V)), (6, .bptr 320385 0)])
  (fun k => [(320068, .box (skV t)), (320194, .box (ftV okF)), (320321, .vec ((wsW t n k).map Int.ofNat).length), (320385, .box (.int .i64 ((m - k : Nat) : Int)))]) (fun k => k ≤ m) (fun k => m - k) 0 (Nat.zero_le _) ?_ fun k hk => ?_
 · refine ⟨⟨rfl, rfl, rfl, rfl, trivial⟩, ⟨rfl, rfl, rfl, ?_, trivial⟩, rfl⟩
   show Blk.box (.int .i64 _) = _
   congr 2
   omega
 have hwl := wsW_len t n k
 have hS : Fc PG 14 [.int .i64 (m - k : Nat), .int .i64 n] (.sl .p ((gset (m - k) n).map i64V)) := f_set (m - k) n (by omega) (by omega)
 rw [← hn] at hS
 have hH := f_Holds t hv (gset (m - k) n) (by have := isSet_len (gset_set (m - k) n) (by omega); omega) (gset_set (m - k) n).ss
 have hC := f_ContainsFunc_int ((wsW t n k).map Int.ofNat) (inW (m - k : Nat)) 15 [.cptr .p (.int .i64 (m - k : Nat)) 0] (by rw [List.length_map]; omega) (fun _ _ => rfl) rfl (fun x _ => f_Find_1 _ x)
 have hany : ((wsW t n k).map Int.ofNat).any (inW (m - k : Nat)) = (wsW t n k).any (fun x => inW (m - k : Nat) x) := by rw [List.any_map]; rfl
 rw [hany] at hC
 repeat (first | refine i_s rfl ?_ | refine sw ?_)
 refine c_cond rfl (fun h => ?_) (fun h => ?_)
 · have hlt : k < m := by have : (0 : Int) < ((m - k : Nat) : Int) := by simpa using h
                          omega
   clear h
   repeat' (first | (refine c_cut [(1, .bptr 320068 0), (3, .bptr 320194 0), (5, .sl (.own 320321) (((wsW t n k).map Int.ofNat).map i64V)), (53, .int .i64 ((m - k : Nat) : Int))] [(320068, .box (skV t)), (320194, .box (ftV okF)), (320321, .vec (((wsW t n k).map Int.ofNat).length))] ⟨⟨rfl, rfl, rfl, rfl, trivial⟩, ⟨rfl, rfl, rfl, trivial⟩, rfl⟩ ?_; refine stopW ?_) | (refine c_cut [(1, .bptr 320068 0), (3, .bptr 320194 0), (5, .sl (.own 320321) (((wsW t n k).map Int.ofNat ++ [((m - k : Nat) : Int)]).map i64V)), (53, .int .i64 ((m - k : Nat) : Int))] [(320068, .box (skV t)), (320194, .box (ftV okF)), (320321, .vec (((wsW t n k).map Int.ofNat).length + 1))] ⟨⟨rfl, rfl, rfl, rfl, trivial⟩, ⟨rfl, rfl, rfl, trivial⟩, rfl⟩ ?_; refine stopW ?_) | refine i_len rfl ?_ | refine i_s rfl ?_ | refine sw ?_ | refine i_gt rfl ?_ | refine i_gf rfl ?_ | refine c_f rfl ?_ | (refine sp ?_ ?_ <;> try intro h) | refine sf rfl rfl hS ?_ | refine sf rfl rfl hH ?_ | refine sf rfl rfl hC ?_ | refine i_appM (c := ((m - k : Nat) : Int)) rfl rfl rfl rfl rfl (by rw [List.length_map]; omega) (by rw [List.length_map]; omega) ?_)
   all_goals
    refine goW ?_
    repeat' (first | refine i_s rfl ?_ | refine sw ?_ | refine jb rfl rfl ?_ | refine i_stb rfl ?_ | refine i_alloc rfl ?_)
   all_goals clear hS hH hC
   all_goals first
    | (have e1 : wsW t n (k + 1) = wsW t n k ++ [m - k] := by
        rw [hnm, if_pos]
        unfold okW
        simp at *
        grind
       have e2 : (wsW t n (k + 1)).map Int.ofNat = (wsW t n k).map Int.ofNat ++ [((m - k : Nat) : Int)] := by rw [e1, List.map_append]; rfl
       refine e_lp (k + 1) (by omega) (by omega) ⟨⟨rfl, rfl, ?_, rfl, trivial⟩, ⟨rfl, rfl, ?_, ?_, trivial⟩, rfl⟩
       · rw [e2]; rfl
       · rw [e2, List.length_append]; rfl
       · show Blk.box (.int .i64 _) = _
         congr 2
         omega)
    | (have e1 : wsW t n (k + 1) = wsW t n k := by
        rw [hnm, if_neg]
        unfold okW
        simp at *
        grind
       refine e_lp (k + 1) (by omega) (by omega) ⟨⟨rfl, rfl, ?_, rfl, trivial⟩, ⟨rfl, rfl, ?_, ?_, trivial⟩, rfl⟩
       · rw [e1]; rfl
       · rw [e1]; rfl
       · show Blk.box (.int .i64 _) = _
         congr 2
         omega)
    | (have e1 : wsW t n (k + 1) = wsW t n k ++ [m - k] := by
        rw [hnm, if_pos]
        unfold okW
        rename_i g1 g2
        rw [g2, h]
        simp at g1 ⊢
        omega
       have e2 : (wsW t n (k + 1)).map Int.ofNat = (wsW t n k).map Int.ofNat ++ [((m - k : Nat) : Int)] := by rw [e1, List.map_append]; rfl
       refine e_lp (k + 1) (by omega) (by omega) ⟨⟨rfl, rfl, ?_, rfl, trivial⟩, ⟨rfl, rfl, ?_, ?_, trivial⟩, rfl⟩
       · rw [e2]; rfl
       · rw [e2, List.length_append]; rfl
       · show Blk.box (.int .i64 _) = _
         congr 2
         omega)
 · have hge : k = m := by have : ¬ (0 : Int) < ((m - k : Nat) : Int) := by simpa using h
                          omega
   subst hge
   clear h hS hH hC
   generalize hW : wsW t n k = W at *
   repeat' (first | refine sw ?_ | fail)
   refine i_na rfl ?_
   repeat' (first | refine i_len rfl ?_ | refine i_s rfl ?_ | refine sw ?_ | fail)
   refine c_for W.length (fun j => [(1, .bptr 320068 0), (3, .bptr 320194 0), (9, .msl 320577 j 0 ((W.take j).map fun w => gset w n).length), (54, .sl (.own 320321) ((W.map Int.ofNat).map i64V)), (55, .int .i64 W.length), (56, .int .i64 j)])
    (fun j => [(320068, .box (skV t)), (320194, .box (ftV okF)), (320321, .vec (W.map Int.ofNat).length), (320577, .arr j (((W.take j).map fun w => gset w n).map isV))]) (fun _ => True) trivial ?_ fun j hj _ => ?_
   · refine ⟨⟨rfl, rfl, rfl, rfl, ?_, rfl, trivial⟩, ⟨rfl, rfl, rfl, rfl, trivial⟩, rfl⟩
     rw [List.length_map]; rfl
   repeat (first | refine i_s rfl ?_ | refine sw ?_)
   refine c_cond rfl (fun h => ?_) (fun h => ?_)
   · have hlt : j < W.length := by simpa using h
     obtain ⟨w, hw⟩ := get_some hlt
     clear h
     have hwx : (W.map Int.ofNat)[j]? = some (w : Int) := by rw [List.getElem?_map, hw]; rfl
     have hwo := wsW_ok t n k w (by rw [hW]; exact mem_get hw)
     have hS := f_set w n (by omega) (by omega)
     rw [← hn] at hS
     have et : (W.take (j + 1)).map (fun w => gset w n) = (W.take j).map (fun w => gset w n) ++ [gset w n] := by rw [List.take_add_one, hw]; simp
     repeat' (first | refine i_s rfl ?_ | refine sw ?_ | refine ja rfl rfl ?_ | refine jd rfl rfl ?_ | refine sf rfl rfl hS ?_ | refine i_appmM (f := isV) [gset w n] rfl rfl rfl rfl rfl (fun c hc => ⟨rfl, rfl⟩) (by simp <;> omega) (by simp <;> omega) ?_)
     refine e_for hlt trivial ⟨⟨rfl, rfl, ?_, rfl, rfl, rfl, trivial⟩, ⟨rfl, rfl, rfl, ?_, trivial⟩, rfl⟩
     · rw [et]; rfl
     · rw [et]; rfl
   · have hge : j = W.length := by have : ¬ j < W.length := by simpa using h
                                   omega
     subst hge
     rw [List.take_length]
     clear h
     repeat (first | refine i_s rfl ?_ | refine sw ?_)
     have hGl : (W.map fun w => gset w n).length = W.length := List.length_map ..
     have hGb : ∀ x ∈ (W.map fun w => gset w n), x.length ≤ 1000000 := fun x hx => by
      obtain ⟨w, _, rfl⟩ := List.mem_map.1 hx
      have := isSet_len (gset_set w n) (by omega)
      omega
     generalize (W.map fun w => gset w n) = G at *
     refine i_cd [320577] rfl rfl rfl (c_SortS 320577 W.length G hGb rfl rfl (fun nm h => restr_mem nm h) (by omega)) ?_
     rintro _ σ' g' ⟨rfl, rfl, rfl⟩
     repeat (first | refine i_s rfl ?_ | refine sw ?_ | refine i_stb rfl ?_ | refine c_frzall2 (rows := (srtS G).map isV) rfl rfl rfl (by rw [List.length_map]; exact (srtS_perm G).length_eq) ?_)
     exact e_ret ⟨rfl, _, rfl, rfl⟩
end Hm
end
section
namespace Hm
open Go
set_option maxRecDepth 100000
set_option maxHeartbeats 1000000
def c_multi_Base : Cmd :=
 (qS [qq 2 (.mov (.c (.sl .nil []))), qc 3 0]
 (qS [qq 4 (.newVec 2176257)]
 (qS [qc 5 0]
 (qT (qS [qm 8 0, qn 9 8, qc 10 0]
 (.block 0 (.loop (qS [qu 11 .lss [] 10 9]
 (qT (.cond (.t 11) .skip (.exit 0))
 (qT (.block 1 (qS [qi 12 1 8 10, ql 13 1 12, qm 7 13]
 (qS [qm 14 4, qm 15 5, qq 16 (.bsl 1 [.t 15]), qq 17 (.append 1 8 3 (.t 14) (.t 16)), qm 4 17]
 (.ops [qm 18 5, qm 19 7, qu 20 .add [] 18 19, qm 5 20]))))
 (.ops [qv 21 .add [] 10 1, qm 10 21])))))))
 (.seq (.ops [qm 22 4, qm 23 5, qm 2 22, qm 3 23]) .ret)))))
def r_multi_Base : List RVar := [.tmp 2, .tmp 3]
def n_multi_Base : Nat := 24
theorem k_multi_Base : chkFn PG 34 n_multi_Base r_multi_Base c_multi_Base = true := by kernel_rfl
theorem f_multi_Base (l : List Int) (h8 : l.length ≤ 8) (hz : ∀ z ∈ l, 1 ≤ z ∧ z ≤ 6) : Fc PG 34 [.sl .p (l.map i64V)] (.tup [.sl .p ((baseFrom 0 l).map i64V), .int .i64 (sumL l)]) := by
 refine Fn.step mixed k_multi_Base ?_
 repeat' (first | refine i_len rfl ?_ | refine i_s rfl ?_ | refine sw ?_ | refine i_nv rfl ?_)
 refine c_for l.length (fun k => [(4, .sl (.own 2176257) ((baseFrom 0 (l.take k)).map i64V)), (5, .int .i64 (sumL (l.take k))), (8, .sl .p (l.map i64V)), (9, .int .i64 l.length), (10, .int .i64 k)]) (fun k => [(2176257, .vec (baseFrom 0 (l.take k)).length)]) (fun _ => True) trivial ft fun k hk _ => ?_
 repeat (first | refine i_s rfl ?_ | refine sw ?_)
 refine c_cond rfl (fun h => ?_) (fun h => ?_)
 · have hlt : k < l.length := by simpa using h
   obtain ⟨z, hx⟩ := get_some hlt
   have hzb := hz z (mem_get hx)
   have hr := sumL_range (l.take k) fun z h => hz z (List.mem_of_mem_take h)
   have htl : (l.take k).length ≤ 8 := by simp; omega
   have hbl := baseFrom_len (l.take k) 0
   clear h
   repeat (first | refine i_s rfl ?_ | refine sw ?_ | refine jd rfl rfl ?_)
   refine i_appM rfl rfl rfl rfl rfl (by omega) (by omega) ?_
   repeat (first | refine i_s rfl ?_ | refine sw ?_ | refine ja rfl rfl ?_)
   refine e_for hlt trivial ⟨⟨?_, ?_, rfl, rfl, rfl, trivial⟩, ⟨?_, trivial⟩, rfl⟩
   · rw [take_succ_get hx, baseFrom_snoc, Int.zero_add]; rfl
   · rw [take_succ_get hx, sumL_snoc]; rfl
   · rw [take_succ_get hx, baseFrom_snoc]; simp; rfl
 · have hge : ¬ k < l.length := by simpa using h
   rw [List.take_of_length_le (by omega)]
   repeat' (first | refine i_s rfl ?_ | refine sw ?_ | fail)
   exact e_ret ⟨rfl, _, rfl, rfl⟩
def c_multi_facts : Cmd :=
 (qS [qq 4 (.mov (.c (.sl .nil [])))]
 (qS [qq 5 (.newVec 2240321)]
 (qT (qS [qm 8 1, qn 9 8, qc 10 0]
 (.block 0 (.loop (qS [qu 11 .lss [] 10 9]
 (qT (.cond (.t 11) .skip (.exit 0))
 (qT (.block 1 (qS [qi 12 2 8 10, qL 13 2 12, qq 7 (.alloc 2240450 (.agg [.int .i64 0, .int .i64 0])), qs 2 7 13]
 (.ops [qm 14 5, qm 15 0, qf 16 0 7, ql 17 1 16, qi 18 1 15 17, ql 19 1 18, qf 20 1 7, ql 21 1 20, qu 22 .add [] 19 21, qq 23 (.bsl 1 [.t 22]), qq 24 (.append 1 8 3 (.t 14) (.t 23)), qm 5 24])))
 (.ops [qv 25 .add [] 10 1, qm 10 25])))))))
 (.seq (.ops [qm 26 5, qm 4 26]) .ret))))
def r_multi_facts : List RVar := [.tmp 4]
def n_multi_facts : Nat := 27
theorem k_multi_facts : chkFn PG 35 n_multi_facts r_multi_facts c_multi_facts = true := by kernel_rfl
theorem f_multi_facts (b : List Int) (l : List Asg) (hl : l.length ≤ 8) (hv : asIn b.length l) (hb : ∀ x ∈ b, 0 ≤ x ∧ x ≤ 100) (hx : ∀ a ∈ l, 0 ≤ a.value ∧ a.value ≤ 6) : Fc PG 35 [.sl .p (b.map i64V), .sl .p (l.map asV)] (.sl .p ((l.map (factAt b)).map i64V)) := by
 refine Fn.step mixed k_multi_facts ?_
 repeat' (first | refine i_len rfl ?_ | refine i_s rfl ?_ | refine sw ?_ | refine i_nv rfl ?_)
 refine c_for l.length (fun k => [(0, .sl .p (b.map i64V)), (5, .sl (.own 2240321) (((l.take k).map (factAt b)).map i64V)), (8, .sl .p (l.map asV)), (9, .int .i64 l.length), (10, .int .i64 k)]) (fun k => [(2240321, .vec ((l.take k).map (factAt b)).length)]) (fun _ => True) trivial ft fun k hk _ => ?_
 repeat (first | refine i_s rfl ?_ | refine sw ?_)
 refine c_cond rfl (fun h => ?_) (fun h => ?_)
 · have hlt : k < l.length := by simpa using h
   obtain ⟨a, ha⟩ := get_some hlt
   obtain ⟨v0, v1⟩ := hv a (mem_get ha)
   obtain ⟨x0, x1⟩ := hx a (mem_get ha)
   obtain ⟨y, hy⟩ := get_some (l := b) (k := a.var.toNat) (by omega)
   obtain ⟨y0, y1⟩ := hb y (mem_get hy)
   have hfa : factAt b a = y + a.value := by simp [factAt, bAt, hy]
   have htl : ((l.take k).map (factAt b)).length ≤ 8 := by simp; omega
   have e : (l.take (k + 1)).map (factAt b) = (l.take k).map (factAt b) ++ [y + a.value] := by rw [take_succ_get ha, List.map_append, ← hfa]; rfl
   clear h
   repeat (first | refine i_s rfl ?_ | refine sw ?_ | refine ja rfl rfl ?_ | refine jd rfl rfl ?_ | refine i_stb rfl ?_ | refine i_alloc rfl ?_)
   refine i_appM rfl rfl rfl rfl rfl (by omega) (by omega) ?_
   repeat (first | refine i_s rfl ?_ | refine sw ?_ | refine ja rfl rfl ?_)
   refine e_for hlt trivial ⟨⟨rfl, ?_, rfl, rfl, rfl, trivial⟩, ⟨?_, trivial⟩, rfl⟩
   · rw [e]; rfl
   · rw [e]; simp; rfl
 · have hge : ¬ k < l.length := by simpa using h
   rw [List.take_of_length_le (by omega)]
   repeat' (first | refine i_s rfl ?_ | refine sw ?_ | fail)
   exact e_ret ⟨rfl, _, rfl, rfl⟩
def c_multi_Strips : Cmd :=
 (qS [qx 1 640068 4 0, qq 2 (.alloc 640132 (.agg [.int .i64 0, .sl .nil [], .sl .nil [], .sl .nil []])), qq 3 (.alloc 640194 (.agg [.int .i64 0, .int .i64 0]))]
 (qT (qS [qL 16 4 1, qk 17 33 [16], qq 4 (.alloc 640258 (.agg [.int .i64 0, .int .i64 0])), qs 2 4 17]
 (qS [qL 18 2 4, qq 19 (.build [.int .i64 0, .int .i64 0] []), qq 20 (.bin .neq true [.i, .i] (.t 18) (.t 19))]
 (.cond (.t 20) (.seq (.opsT (.node 1 2 (.leaf [0, 1, 2, 3]) (.leaf [0, 2, 1, 3])) [qq 21 (.build [.int .i64 0, .sl .nil [], .sl .nil [], .sl .nil []] []), qL 22 2 4, qs 4 2 21, qs 2 3 22]) .ret) .skip)))
 (qS [qf 24 0 1, ql 25 1 24, qk 26 34 [25], qm 23 26, qq 27 (.extract (.t 23) 0), qq 28 (.extract (.t 23) 1), qm 5 27, qm 6 28]
 (qT (qS [qm 29 6, qv 30 .gtr [] 29 24]
 (.cond (.t 30) (.seq (.ops [qq 31 (.build [.int .i64 0, .sl .nil [], .sl .nil [], .sl .nil []] []), qq 32 (.build [.int .i64 0, .int .i64 0] [(0 , 1 , .c (.int .i64 10)), (1 , 1 , .c (.int .i64 (-8)))]), qs 4 2 31, qs 2 3 32]) .ret) .skip))
 (qS [qm 33 6, qm 34 5, qf 35 2 1, ql 36 1 35, qk 37 35 [34, 36], qq 38 (.build [.int .i64 0, .sl .nil [], .sl .nil [], .sl .nil []] [(0 , 1 , .t 33), (2 , 1 , .t 37)]), qq 7 (.alloc 640452 (.agg [.int .i64 0, .sl .nil [], .sl .nil [], .sl .nil []])), qs 4 7 38]
 (qT (.seq (.ops [qf 39 1 1, ql 40 1 39, qn 41 40, qc 42 0]) (.nvb 7 1 644545 (.cut (.block 0 (.loop (qS [qu 43 .lss [] 42 41]
 (qT (.cond (.t 43) .skip (.exit 0))
 (qT (.block 1 (qS [qm 44 42, qi 45 1 40 42, ql 46 1 45, qm 8 44, qm 9 46]
 (.ops [qf 47 1 7, ql 48 1 47, qm 49 5, qm 50 8, qi 51 1 49 50, ql 52 1 51, qm 53 9, qu 54 .add [] 52 53, qq 55 (.bsl 1 [.t 54]), qq 56 (.append 1 8 3 (.t 48) (.t 55)), qf 57 1 7, qs 1 57 56])))
 (.ops [qv 58 .add [] 42 1, qm 42 58])))))))))
 (qT (.seq (.ops [qf 59 3 1, ql 60 1 59, qn 61 60, qc 62 0]) (.nvb 7 3 644676 (.cut (.block 2 (.loop (qS [qu 63 .lss [] 62 61]
 (qT (.cond (.t 63) .skip (.exit 2))
 (qT (.block 3 (qS [qi 64 3 60 62, qL 65 3 64, qq 11 (.alloc 640707 (.agg [.sl .nil [], .sl .nil [], .int .i64 0])), qs 3 11 65]
 (qS [qm 66 5, qf 67 0 11, ql 68 1 67, qk 69 35 [66, 68], qm 70 5, qf 71 1 11, ql 72 1 71, qk 73 35 [70, 72], qf 74 2 11, ql 75 1 74, qq 76 (.build [.sl .nil [], .sl .nil [], .sl .nil [], .int .i64 0] [(0 , 1 , .t 69), (1 , 1 , .t 73), (3 , 1 , .t 75)]), qq 12 (.alloc 640772 (.agg [.sl .nil [], .sl .nil [], .sl .nil [], .int .i64 0])), qs 4 12 76]
 (.seq (.seq (.ops [qf 77 1 11, ql 78 1 77, qn 79 78, qc 80 0]) (.nvb 12 2 647809 (.cut (.block 4 (.loop (qS [qu 81 .lss [] 80 79]
 (qT (.cond (.t 81) .skip (.exit 4))
 (qT (.block 5 (qS [qi 82 2 78 80, qL 83 2 82, qq 14 (.alloc 640898 (.agg [.int .i64 0, .int .i64 0])), qs 2 14 83]
 (qS [qf 84 0 1, ql 85 1 84, qf 86 0 14, ql 87 1 86, qi 88 1 85 87, ql 89 1 88, qc 90 0]
 (.block 6 (.loop (qS [qu 91 .lss [] 90 89]
 (qT (.cond (.t 91) .skip (.exit 6))
 (qT (.block 7 (qS [qm 92 90, qm 15 92]
 (qS [qm 93 15, qf 94 1 14, ql 95 1 94, qu 96 .neq [.i] 93 95]
 (.cond (.t 96) (.ops [qf 97 2 12, ql 98 1 97, qm 99 5, qf 100 0 14, ql 101 1 100, qi 102 1 99 101, ql 103 1 102, qm 104 15, qu 105 .add [] 103 104, qq 106 (.bsl 1 [.t 105]), qq 107 (.append 1 8 3 (.t 98) (.t 106)), qf 108 2 12, qs 1 108 107]) .skip))))
 (.ops [qv 109 .add [] 90 1, qm 90 109])))))))))
 (.ops [qv 110 .add [] 80 1, qm 80 110]))))))))) (.fzb 12 2 (.cut (.ops [qf 111 3 7, ql 112 1 111, qL 113 4 12, qq 114 (.bsl 4 [.t 113]), qq 115 (.append 4 80 78 (.t 112) (.t 114)), qf 116 3 7, qs 1 116 115])))))))
 (.ops [qv 117 .add [] 62 1, qm 62 117])))))))))
 (.seq (.ops [qL 118 4 7, qq 119 (.build [.int .i64 0, .int .i64 0] []), qs 4 2 118, qs 2 3 119]) .ret))))))))
def r_multi_Strips : List RVar := [.cell true 4 2, .cell true 2 3]
def n_multi_Strips : Nat := 120
theorem k_multi_Strips : chkFn PG 10 n_multi_Strips r_multi_Strips c_multi_Strips = true := by kernel_rfl
theorem f_multi_Strips_big (m : MTask) (ho : MOk m) (hb : mFault m = okF) (hbig : sumL m.sizes > 24) : Fc PG 10 [mtV m] (.tup [skV skZ, ftV ⟨10, -8⟩]) := by
 have hV := f_multi_Validate m ho
 rw [hb] at hV
 have hv := mFault_ok hb
 have hB := f_multi_Base m.sizes hv.len hv.rng
 refine Fn.step mixed k_multi_Strips ?_
 repeat (first | refine i_s rfl ?_ | refine sw ?_ | refine c_f rfl ?_ | refine i_stb rfl ?_ | refine i_alloc rfl ?_ | refine i_box rfl rfl ?_ | refine sf rfl rfl hV ?_ | refine sf rfl rfl hB ?_)
 refine c_cond rfl (fun h => ?_) (fun h => ?_)
 · repeat (first | refine i_s rfl ?_ | refine sw ?_ | refine i_stb rfl ?_)
   exact e_ret ⟨rfl, _, rfl, rfl⟩
 · exact absurd (of_decide_eq_false h) (by omega)
end Hm
end
section
namespace Hm
open Go
set_option maxRecDepth 100000
set_option maxHeartbeats 4000000
theorem initK_succ (b init : List Int) (k : Nat) {y x : Int} (hy : b[k]? = some y) (hx : init[k]? = some x) : initK b init (k + 1) = initK b init k ++ [y + x] := by
 unfold initK
 rw [List.range_succ, List.map_append]
 simp [bAt, hy, hx]
theorem initK_len (b init : List Int) (k : Nat) : (initK b init k).length = k := by simp [initK]
theorem st_range {m : MTask} (hv : MV m) {k : Nat} {x : Int} (hx : m.init[k]? = some x) : 0 ≤ x ∧ x ≤ 6 := by
 have h := hv.init
 unfold stB at h
 simp only [Bool.and_eq_true] at h
 have := allN_get h.2 (get_lt hx)
 unfold stAt at this
 rw [hx] at this
 split at this
 · rename_i x' z h1 h2
   cases h1
   have := hv.rng z (mem_get h2)
   simp at *
   omega
 · cases this
theorem as_range {m : MTask} (hv : MV m) {l : List Asg} (h : asB m.sizes l = true) : ∀ a ∈ l, 0 ≤ a.value ∧ a.value ≤ 6 := by
 intro a ha
 obtain ⟨i, hi, e⟩ := List.getElem_of_mem ha
 obtain ⟨_, z, hz, h0, h1⟩ := asB_idx h i a (by rw [← e]; exact List.getElem?_eq_getElem hi)
 have := hv.rng z (mem_get hz)
 omega
theorem dels_succ (b sizes : List Int) (l : List Asg) {k : Nat} {a : Asg} {z : Int} (ha : l[k]? = some a) (hz : sizes[a.var.toNat]? = some z) : dels b sizes (l.take (k + 1)) = dels b sizes (l.take k) ++ delK b a z.toNat := by
 rw [take_succ_get ha]
 simp [dels, delA, hz]
theorem f_multi_Strips_ok (m : MTask) (ho : MOk m) (hb : mFault m = okF) (hsm : sumL m.sizes ≤ 24) : Fc PG 10 [mtV m] (.tup [skV (mStrips m), ftV okF]) := by
 have hV := f_multi_Validate m ho
 rw [hb] at hV
 have hv := mFault_ok hb
 have hB := f_multi_Base m.sizes hv.len hv.rng
 have h8 := hv.len
 have hbl := baseFrom_len m.sizes 0
 have hbr := baseFrom_range m.sizes 0 hv.rng
 have hil : m.init.length = m.sizes.length := stB_len hv.init
 have hol := hv.opl
 have hfa : ∀ l, asB m.sizes l = true → Fc PG 35 [.sl .p ((baseFrom 0 m.sizes).map i64V), .sl .p (l.map asV)] (.sl .p ((l.map (factAt (baseFrom 0 m.sizes))).map i64V)) := fun l h =>
  f_multi_facts (baseFrom 0 m.sizes) l (by have := asB_len h; omega) (hbl ▸ asB_in h) (fun x hx => by have := hbr x hx; omega) (as_range hv h)
 have hG := hfa m.goal hv.goal
 have e1 : mStrips m = ⟨sumL m.sizes, initK (baseFrom 0 m.sizes) m.init m.init.length, m.goal.map (factAt (baseFrom 0 m.sizes)), m.ops.map (opT (baseFrom 0 m.sizes) m.sizes)⟩ := rfl
 rw [e1]
 generalize hs : sumL m.sizes = sz at *
 generalize hbb : baseFrom 0 m.sizes = b at *
 clear e1
 refine Fn.step mixed k_multi_Strips ?_
 repeat (first | refine i_s rfl ?_ | refine sw ?_ | refine c_f rfl ?_ | refine i_stb rfl ?_ | refine i_alloc rfl ?_ | refine i_box rfl rfl ?_ | refine sf rfl rfl hV ?_ | refine sf rfl rfl hB ?_)
 refine c_cond rfl (fun h => ?_) (fun h => ?_)
 · exact absurd (of_decide_eq_true h) (by omega)
 clear h
 repeat (first | refine i_len rfl ?_ | refine i_s rfl ?_ | refine sw ?_ | refine i_stb rfl ?_ | refine i_alloc rfl ?_ | refine sf rfl rfl hG ?_)
 refine c_nvb rfl rfl rfl rfl ?_
 repeat refine sw ?_
 refine c_for m.init.length (fun k => [(1, .bptr 640068 0), (2, .bptr 640132 0), (3, .bptr 640194 0), (5, .sl .p (b.map i64V)), (7, .bptr 640452 0), (40, .sl .p (m.init.map i64V)), (41, .int .i64 m.init.length), (42, .int .i64 k)])
  (fun k => [(640068, .box (mtV m)), (640132, .box (.agg [.int .i64 0, .sl .nil [], .sl .nil [], .sl .nil []])), (640194, .box (ftV okF)),
    (640452, .box (.agg [.int .i64 sz, .sl (.own 644545) ((initK b m.init k).map i64V), .sl .p ((m.goal.map (factAt b)).map i64V), .sl .nil []])), (644545, .vec (initK b m.init k).length)]) (fun _ => True) trivial ft fun k hk _ => ?_
 repeat (first | refine i_s rfl ?_ | refine sw ?_)
 refine c_cond rfl (fun h => ?_) (fun h => ?_)
 · have hlt : k < m.init.length := by simpa using h
   obtain ⟨x, hx⟩ := get_some hlt
   obtain ⟨x0, x1⟩ := st_range hv hx
   obtain ⟨y, hy⟩ := get_some (l := b) (k := k) (by omega)
   obtain ⟨y0, y1⟩ := hbr y (mem_get hy)
   have htl := initK_len b m.init k
   have e := initK_succ b m.init k hy hx
   clear h hV hB hG hfa ho hbr hv
   repeat (first | refine i_s rfl ?_ | refine sw ?_ | refine ja rfl rfl ?_ | refine jd rfl rfl ?_)
   refine i_appM rfl rfl rfl rfl rfl (by omega) (by omega) ?_
   repeat (first | refine i_s rfl ?_ | refine sw ?_ | refine ja rfl rfl ?_ | refine i_stb rfl ?_)
   refine e_for hlt trivial ⟨⟨rfl, rfl, rfl, rfl, rfl, rfl, rfl, rfl, trivial⟩, ⟨rfl, rfl, rfl, ?_, ?_, trivial⟩, rfl⟩
   · rw [e]; rfl
   · rw [e]; simp; rfl
 have hge : k = m.init.length := by have : ¬ k < m.init.length := by simpa using h
                                    omega
 subst hge
 clear h hk
 repeat (first | refine i_len rfl ?_ | refine i_s rfl ?_ | refine sw ?_)
 refine c_nvb rfl rfl rfl rfl ?_
 repeat refine sw ?_
 refine c_for m.ops.length (fun k => [(1, .bptr 640068 0), (2, .bptr 640132 0), (3, .bptr 640194 0), (5, .sl .p (b.map i64V)), (7, .bptr 640452 0), (60, .sl .p (m.ops.map moV)), (61, .int .i64 m.ops.length), (62, .int .i64 k)])
  (fun k => [(640068, .box (mtV m)), (640132, .box (.agg [.int .i64 0, .sl .nil [], .sl .nil [], .sl .nil []])), (640194, .box (ftV okF)),
    (640452, .box (.agg [.int .i64 sz, .sl (.own 644545) ((initK b m.init m.init.length).map i64V), .sl .p ((m.goal.map (factAt b)).map i64V), .sl (.own 644676) (((m.ops.take k).map (opT b m.sizes)).map soV)])), (644545, .vec (initK b m.init m.init.length).length),
    (644676, .vec ((m.ops.take k).map (opT b m.sizes)).length)]) (fun _ => True) trivial ft fun k hk _ => ?_
 repeat (first | refine i_s rfl ?_ | refine sw ?_)
 refine c_cond rfl (fun h => ?_) (fun h => ?_)
 · have hlt : k < m.ops.length := by simpa using h
   obtain ⟨o, hx⟩ := get_some hlt
   obtain ⟨p1, p2, p3, p4⟩ := hv.op o (mem_get hx)
   have hF1 := hfa o.pre p1
   have hF2 := hfa o.post p2
   clear h hV hB hG hfa ho
   repeat (first | refine i_len rfl ?_ | refine i_s rfl ?_ | refine sw ?_ | refine jd rfl rfl ?_ | refine i_stb rfl ?_ | refine i_alloc rfl ?_ | refine sf rfl rfl hF1 ?_ | refine sf rfl rfl hF2 ?_)
   · clear hF1 hF2
     have hpl := asB_len p2
     have hin := asB_in p2
     have hav := as_range hv p2
     skip
     refine c_nvb rfl rfl rfl rfl ?_
     repeat refine sw ?_
     refine c_for o.post.length (fun j => [(1, .bptr 640068 0), (2, .bptr 640132 0), (3, .bptr 640194 0), (5, .sl .p (b.map i64V)), (7, .bptr 640452 0), (11, .bptr 640707 0), (12, .bptr 640772 0), (60, .sl .p (m.ops.map moV)), (61, .int .i64 m.ops.length), (62, .int .i64 k), (78, .sl .p (o.post.map asV)), (79, .int .i64 o.post.length), (80, .int .i64 j)])
      (fun j => [(640068, .box (mtV m)), (640132, .box (.agg [.int .i64 0, .sl .nil [], .sl .nil [], .sl .nil []])), (640194, .box (ftV okF)),
     (640452, .box (.agg [.int .i64 sz, .sl (.own 644545) ((initK b m.init m.init.length).map i64V), .sl .p ((m.goal.map (factAt b)).map i64V), .sl (.own 644676) (((m.ops.take k).map (opT b m.sizes)).map soV)])), (644545, .vec (initK b m.init m.init.length).length),
     (644676, .vec ((m.ops.take k).map (opT b m.sizes)).length), (640707, .box (moV o)), (640772, .box (.agg [.sl .p ((o.pre.map (factAt b)).map i64V), .sl .p ((o.post.map (factAt b)).map i64V), .sl (.own 647809) ((dels b m.sizes (o.post.take j)).map i64V), .int .i64 o.cost])), (647809, .vec (dels b m.sizes (o.post.take j)).length)]) (fun _ => True) trivial ft fun j hj _ => ?_
     repeat (first | refine i_s rfl ?_ | refine sw ?_)
     refine c_cond rfl (fun h => ?_) (fun h => ?_)
     · have hjl : j < o.post.length := by simpa using h
       obtain ⟨a, ha⟩ := get_some hjl
       obtain ⟨v0, v1⟩ := hin a (mem_get ha)
       obtain ⟨w0, w1⟩ := hav a (mem_get ha)
       obtain ⟨z, hz⟩ := get_some (l := m.sizes) (k := a.var.toNat) (by omega)
       have hzr := hv.rng z (mem_get hz)
       obtain ⟨y, hy⟩ := get_some (l := b) (k := a.var.toNat) (by omega)
       obtain ⟨y0, y1⟩ := hbr y (mem_get hy)
       have hdl := dels_len (b := b) hv.rng (o.post.take j)
       have htj : (o.post.take j).length ≤ 8 := by simp; omega
       have eD := dels_succ b m.sizes o.post ha hz
       have hya : bAt b a.var = y := by simp [bAt, hy]
       have eD0 : dels b m.sizes (o.post.take j) ++ delK b a 0 = dels b m.sizes (o.post.take j) := by simp [delK]
       clear h hbr hv hin hav
       repeat (first | refine i_s rfl ?_ | refine sw ?_ | refine jd rfl rfl ?_ | refine i_stb rfl ?_ | refine i_alloc rfl ?_)
       refine c_for z.toNat (fun x => [(1, .bptr 640068 0), (2, .bptr 640132 0), (3, .bptr 640194 0), (5, .sl .p (b.map i64V)), (7, .bptr 640452 0), (11, .bptr 640707 0), (12, .bptr 640772 0), (60, .sl .p (m.ops.map moV)), (61, .int .i64 m.ops.length), (62, .int .i64 k), (78, .sl .p (o.post.map asV)), (79, .int .i64 o.post.length), (80, .int .i64 j), (14, .bptr 640898 0), (89, .int .i64 z), (90, .int .i64 x)])
        (fun x => [(640068, .box (mtV m)), (640132, .box (.agg [.int .i64 0, .sl .nil [], .sl .nil [], .sl .nil []])), (640194, .box (ftV okF)),
     (640452, .box (.agg [.int .i64 sz, .sl (.own 644545) ((initK b m.init m.init.length).map i64V), .sl .p ((m.goal.map (factAt b)).map i64V), .sl (.own 644676) (((m.ops.take k).map (opT b m.sizes)).map soV)])), (644545, .vec (initK b m.init m.init.length).length),
     (644676, .vec ((m.ops.take k).map (opT b m.sizes)).length), (640707, .box (moV o)), (640772, .box (.agg [.sl .p ((o.pre.map (factAt b)).map i64V), .sl .p ((o.post.map (factAt b)).map i64V), .sl (.own 647809) ((dels b m.sizes (o.post.take j) ++ delK b a x).map i64V), .int .i64 o.cost])), (647809, .vec (dels b m.sizes (o.post.take j) ++ delK b a x).length), (640898, .box (asV a))]) (fun _ => True) trivial ⟨by repeat (first | exact trivial | refine ⟨rfl, ?_⟩), ⟨rfl, rfl, rfl, rfl, rfl, rfl, rfl, ?_, ?_, rfl, trivial⟩, rfl⟩ fun x hx2 _ => ?_
       · rw [eD0]; rfl
       · rw [eD0]; rfl
       repeat (first | refine i_s rfl ?_ | refine sw ?_)
       refine c_cond rfl (fun h => ?_) (fun h => ?_)
       · have hxl : (x : Int) < z := by simpa using h
         have hxn : x < z.toNat := by omega
         have hdk := delK_len b a x
         have eS := delK_succ b a x
         rw [hya] at eS
         have eS2 : dels b m.sizes (o.post.take j) ++ delK b a (x + 1) = dels b m.sizes (o.post.take j) ++ (delK b a x ++ (if (x : Int) ≠ a.value then [y + x] else [])) := by rw [eS]
         have hln : (dels b m.sizes (o.post.take j) ++ delK b a x).length ≤ 60 := by simp only [List.length_append]; omega
         clear h
         repeat (first | refine i_s rfl ?_ | refine sw ?_)
         refine c_cond rfl (fun h => ?_) (fun h => ?_)
         · have hne : (x : Int) ≠ a.value := by simpa using h
           rw [if_pos hne, ← List.append_assoc] at eS2
           clear h
           repeat (first | refine i_s rfl ?_ | refine sw ?_ | refine ja rfl rfl ?_ | refine jd rfl rfl ?_)
           refine i_appM rfl rfl rfl rfl rfl (by omega) (by omega) ?_
           repeat (first | refine i_s rfl ?_ | refine sw ?_ | refine ja rfl rfl ?_ | refine i_stb rfl ?_)
           refine e_for hxn trivial ⟨by repeat (first | exact trivial | refine ⟨rfl, ?_⟩), ⟨rfl, rfl, rfl, rfl, rfl, rfl, rfl, ?_, ?_, rfl, trivial⟩, rfl⟩
           · rw [eS2]; rfl
           · rw [eS2]; simp; rfl
         · have hne : ¬ (x : Int) ≠ a.value := by simpa using h
           rw [if_neg hne, List.append_nil] at eS2
           clear h
           repeat (first | refine i_s rfl ?_ | refine sw ?_ | refine ja rfl rfl ?_)
           refine e_for hxn trivial ⟨by repeat (first | exact trivial | refine ⟨rfl, ?_⟩), ⟨rfl, rfl, rfl, rfl, rfl, rfl, rfl, ?_, ?_, rfl, trivial⟩, rfl⟩
           · rw [eS2]; rfl
           · rw [eS2]; rfl
       have hge : x = z.toNat := by have : ¬ (x : Int) < z := by simpa using h
                                    omega
       subst hge
       rw [← eD]
       clear h hx2
       repeat (first | refine i_s rfl ?_ | refine sw ?_ | refine ja rfl rfl ?_)
       exact e_for hjl trivial ft
     have hge : j = o.post.length := by have : ¬ j < o.post.length := by simpa using h
                                        omega
     subst hge
     rw [List.take_length]
     clear h hj
     repeat refine sw ?_
     refine c_fzb rfl rfl rfl rfl ?_
     have hkl : ((m.ops.take k).map (opT b m.sizes)).length ≤ 40 := by simp; omega
     have e : (m.ops.take (k + 1)).map (opT b m.sizes) = (m.ops.take k).map (opT b m.sizes) ++ [opT b m.sizes o] := by rw [take_succ_get hx]; simp
     repeat (first | refine i_s rfl ?_ | refine sw ?_)
     refine i_appM (c := opT b m.sizes o) rfl rfl rfl rfl rfl (by omega) (by omega) ?_
     repeat (first | refine i_s rfl ?_ | refine sw ?_ | refine ja rfl rfl ?_ | refine i_stb rfl ?_)
     refine e_for hlt trivial ⟨⟨rfl, rfl, rfl, rfl, rfl, rfl, rfl, rfl, trivial⟩, ⟨rfl, rfl, rfl, ?_, rfl, ?_, trivial⟩, rfl⟩
     · rw [e]; rfl
     · rw [e]; simp; rfl
 have hge : k = m.ops.length := by have : ¬ k < m.ops.length := by simpa using h
                                   omega
 subst hge
 rw [List.take_length]
 clear h hk
 repeat (first | refine i_s rfl ?_ | refine sw ?_ | refine i_stb rfl ?_)
 exact e_ret ⟨rfl, _, rfl, rfl⟩
end Hm
end
section
namespace Go.Proofs
open Go.Shelf
def Tryz.sortW_ren : Go.Shelf.Ren := ⟨fun | 6 => 64 | 14 => 113 | 15 => 53 | 20 => 143 | 21 => 144 | 22 => 145 | 23 => 146 | 24 => 147 | 25 => 148 | 26 => 149 | 27 => 150 | 28 => 103 | 29 => 104 | 46 => 168 | 47 => 137 | 48 => 138 | 49 => 169 | 50 => 170 | 57 => 187 | n => n, fun | 0 => 0 | 3 => 3 | 4 => 4 | 5 => 5 | 9 => 9 | 22 => 83 | 25 => 144 | 39 => 126 | 45 => 196 | 46 => 197 | 50 => 132 | 53 => 88 | 55 => 204 | 66 => 247 | 70 => 251 | 76 => 279 | 77 => 73 | 24 => 88 | n => n, fun n => n⟩
theorem Tryz.sortW_lays : SlLaysF.n6 Tryz.prog Tryz.sortW_ren :=
 {
  mixed := by kernel_rfl,
  f6 := ⟨Tryz.f64.name, by kernel_rfl, Tryz.func64.trans (congrArg some (by kernel_rfl))⟩,
  f14 := ⟨Tryz.f113.name, by kernel_rfl, Tryz.func113.trans (congrArg some (by kernel_rfl))⟩,
  f15 := Tryz.func53.trans (congrArg some (by kernel_rfl)),
  f20 := ⟨Tryz.f143.name, by kernel_rfl, Tryz.func143.trans (congrArg some (by kernel_rfl))⟩,
  f21 := ⟨Tryz.f144.name, by kernel_rfl, Tryz.func144.trans (congrArg some (by kernel_rfl))⟩,
  f22 := ⟨Tryz.f145.name, by kernel_rfl, Tryz.func145.trans (congrArg some (by kernel_rfl))⟩,
  f23 := ⟨Tryz.f146.name, by kernel_rfl, Tryz.func146.trans (congrArg some (by kernel_rfl))⟩,
  f24 := ⟨Tryz.f147.name, by kernel_rfl, Tryz.func147.trans (congrArg some (by kernel_rfl))⟩,
  f25 := ⟨Tryz.f148.name, by kernel_rfl, Tryz.func148.trans (congrArg some (by kernel_rfl))⟩,
  f26 := ⟨Tryz.f149.name, by kernel_rfl, Tryz.func149.trans (congrArg some (by kernel_rfl))⟩,
  f27 := ⟨Tryz.f150.name, by kernel_rfl, Tryz.func150.trans (congrArg some (by kernel_rfl))⟩,
  f28 := Tryz.func103.trans (congrArg some (by kernel_rfl)),
  f29 := Tryz.func104.trans (congrArg some (by kernel_rfl)),
  f46 := ⟨Tryz.f168.name, by kernel_rfl, Tryz.func168.trans (congrArg some (by kernel_rfl))⟩,
  f47 := Tryz.func137.trans (congrArg some (by kernel_rfl)),
  f48 := Tryz.func138.trans (congrArg some (by kernel_rfl)),
  f49 := ⟨Tryz.f169.name, by kernel_rfl, Tryz.func169.trans (congrArg some (by kernel_rfl))⟩,
  f50 := ⟨Tryz.f170.name, by kernel_rfl, Tryz.func170.trans (congrArg some (by kernel_rfl))⟩,
  f57 := ⟨Tryz.f187.name, by kernel_rfl, Tryz.func187.trans (congrArg some (by kernel_rfl))⟩,
  t0 := Tryz.underlying0,
  a0 := Tryz.isAgg0,
  z0 := Tryz.sizeOf0,
  v0 := Tryz.zeroValue0,
  t3 := Tryz.underlying3,
  a3 := Tryz.isAgg3,
  z3 := Tryz.sizeOf3,
  v3 := Tryz.zeroValue3,
  t4 := Tryz.underlying4,
  a4 := Tryz.isAgg4,
  z4 := Tryz.sizeOf4,
  v4 := Tryz.zeroValue4,
  t5 := Tryz.underlying5,
  a5 := Tryz.isAgg5,
  z5 := Tryz.sizeOf5,
  v5 := Tryz.zeroValue5,
  t9 := Tryz.underlying9,
  a9 := Tryz.isAgg9,
  z9 := Tryz.sizeOf9,
  v9 := Tryz.zeroValue9,
  t22 := Tryz.underlying83,
  a22 := Tryz.isAgg83,
  z22 := Tryz.sizeOf83,
  v22 := Tryz.zeroValue83,
  t25 := Tryz.underlying144,
  a25 := Tryz.isAgg144,
  z25 := Tryz.sizeOf144,
  v25 := Tryz.zeroValue144,
  t39 := Tryz.underlying126,
  a39 := Tryz.isAgg126,
  z39 := Tryz.sizeOf126,
  v39 := Tryz.zeroValue126,
  t45 := Tryz.underlying196,
  a45 := Tryz.isAgg196,
  z45 := Tryz.sizeOf196,
  v45 := Tryz.zeroValue196,
  t46 := Tryz.underlying197,
  a46 := Tryz.isAgg197,
  z46 := Tryz.sizeOf197,
  v46 := Tryz.zeroValue197,
  t50 := Tryz.underlying132,
  a50 := Tryz.isAgg132,
  z50 := Tryz.sizeOf132,
  v50 := Tryz.zeroValue132,
  t53 := Tryz.underlying88,
  a53 := Tryz.isAgg88,
  z53 := Tryz.sizeOf88,
  v53 := Tryz.zeroValue88,
  t55 := Tryz.underlying204,
  a55 := Tryz.isAgg204,
  z55 := Tryz.sizeOf204,
  v55 := Tryz.zeroValue204,
  t66 := Tryz.underlying247,
  a66 := Tryz.isAgg247,
  z66 := Tryz.sizeOf247,
  v66 := Tryz.zeroValue247,
  t70 := Tryz.underlying251,
  a70 := Tryz.isAgg251,
  z70 := Tryz.sizeOf251,
  v70 := Tryz.zeroValue251,
  t76 := Tryz.underlying279,
  a76 := Tryz.isAgg279,
  z76 := Tryz.sizeOf279,
  v76 := Tryz.zeroValue279,
  t77 := Tryz.underlying73,
  a77 := Tryz.isAgg73,
  z77 := Tryz.sizeOf73,
  v77 := Tryz.zeroValue73,
  a24 := Tryz.isAgg88,
  z24 := Tryz.sizeOf88 }
end Go.Proofs
end
section
namespace Hm
open Go
set_option maxRecDepth 100000
set_option maxHeartbeats 4000000
def c_slices_insertionSortCmpFunc_uint32 : Cmd :=
 (qS [qm 10 1, qv 11 .add [] 10 1, qm 8 11]
 (.block 0 (.loop (qT (qS [qm 12 8, qm 13 2, qu 14 .lss [] 12 13]
 (.cond (.t 14) .skip (.exit 0)))
 (qT (.block 1 (qS [qm 17 8, qm 9 17]
 (.block 2 (.loop (qT (qS [qm 18 9, qm 19 1, qu 20 .gtr [] 18 19, qm 21 20, qg 22 21 true (.mov (.t 3)), qg 23 21 true (.mov (.t 0)), qg 24 21 true (.mov (.t 9)), qg 25 21 true (.iaddr 1 (.t 23) (.t 24)), qg 26 21 true (.load false 1 (.t 25)), qg 27 21 true (.mov (.t 0)), qg 28 21 true (.mov (.t 9)), qg 29 21 true (.bin .sub false [] (.t 28) (.c (.int .i64 1))), qg 30 21 true (.iaddr 1 (.t 27) (.t 29)), qg 31 21 true (.load false 1 (.t 30)), qg 32 21 true (.call .f (.t 22) [.t 26, .t 31]), qg 33 21 true (.bin .lss false [] (.t 32) (.c (.int .i64 0))), qq 34 (.pick (.t 21) (.t 33) (.c (.bool false)))]
 (.cond (.t 34) .skip (.exit 2)))
 (qT (.block 3 (.ops [qm 37 0, qm 38 9, qm 39 0, qm 40 9, qv 41 .sub [] 40 1, qm 42 0, qm 43 9, qv 44 .sub [] 43 1, qi 45 1 42 44, ql 46 1 45, qm 47 0, qm 48 9, qi 49 1 47 48, ql 50 1 49, qi 51 1 37 38, qs 1 51 46, qi 52 1 39 41, qs 1 52 50]))
 (.ops [qm 35 9, qv 36 .sub [] 35 1, qm 9 36])))))))
 (.ops [qm 15 8, qv 16 .add [] 15 1, qm 8 16]))))))
def r_slices_insertionSortCmpFunc_uint32 : List RVar := []
def n_slices_insertionSortCmpFunc_uint32 : Nat := 53
theorem k_slices_insertionSortCmpFunc_uint32 : chkFn PG 143 n_slices_insertionSortCmpFunc_uint32 r_slices_insertionSortCmpFunc_uint32 c_slices_insertionSortCmpFunc_uint32 = true := by kernel_rfl
theorem f_insertionSortW_0 (v : V) (hv : closedB [] v = true) : Fc PG 143 [.sl .p [], .int .i64 0, .int .i64 0, v] (.tup []) := by
 refine Fn.step mixed k_slices_insertionSortCmpFunc_uint32 ?_
 repeat' (first | refine i_s rfl ?_ | refine sw ?_ | refine ja rfl rfl ?_ | fail)
 refine c_lp (ι := Unit) (fun _ => [(0, .sl .p []), (1, .int .i64 0), (2, .int .i64 0), (8, .int .i64 1)]) (fun _ => []) (fun _ => True) (fun _ => 0) () trivial ft fun _ _ => ?_
 repeat' (first | refine i_s rfl ?_ | refine sw ?_ | refine c_f rfl ?_)
 refine e_end ⟨rfl, _, rfl, rfl⟩
def c_slices_pdqsortCmpFunc_uint32 : Cmd :=
 (qS [qb 10 true]
 (qS [qb 11 true]
 (.block 0 (.loop (.block 1 (qS [qm 21 2, qm 22 1, qu 23 .sub [] 21 22, qm 12 23]
 (qT (qS [qm 24 12, qv 25 .leq [] 24 12]
 (.cond (.t 25) (.seq (.ops [qm 26 0, qm 27 1, qm 28 2, qm 29 4, qk 30 143 [26, 27, 28, 29]]) .ret) .skip))
 (qT (qS [qm 31 3, qv 32 .eql [.i] 31 0]
 (.cond (.t 32) (.seq (.ops [qm 33 0, qm 34 1, qm 35 2, qm 36 4, qk 37 144 [33, 34, 35, 36]]) .ret) .skip))
 (qT (qS [qm 38 10, qq 39 (.not (.t 38))]
 (.cond (.t 39) (qS [qm 40 0, qm 41 1, qm 42 2, qm 43 4, qk 44 145 [40, 41, 42, 43]]
 (.ops [qm 45 3, qv 46 .sub [] 45 1, qm 3 46])) .skip))
 (qS [qm 48 0, qm 49 1, qm 50 2, qm 51 4, qk 52 146 [48, 49, 50, 51], qm 47 52, qq 53 (.extract (.t 47) 0), qq 54 (.extract (.t 47) 1), qm 13 53, qm 14 54]
 (qT (qS [qm 55 14, qv 56 .eql [.i] 55 2]
 (.cond (.t 56) (qS [qm 57 0, qm 58 1, qm 59 2, qm 60 4, qk 61 147 [57, 58, 59, 60]]
 (qS [qm 62 2, qv 63 .sub [] 62 1, qm 64 13, qm 65 1, qu 66 .sub [] 64 65, qu 67 .sub [] 63 66, qm 13 67]
 (.ops [qc 14 1]))) .skip))
 (qT (qS [qm 68 10, qm 69 68, qg 70 69 true (.mov (.t 11)), qq 71 (.pick (.t 69) (.t 70) (.c (.bool false))), qm 72 71, qg 73 72 true (.mov (.t 14)), qg 74 72 true (.bin .eql false [.i] (.t 73) (.c (.int .i64 1))), qq 75 (.pick (.t 72) (.t 74) (.c (.bool false)))]
 (.cond (.t 75) (qS [qm 76 0, qm 77 1, qm 78 2, qm 79 4, qk 80 148 [76, 77, 78, 79]]
 (.cond (.t 80) .ret .skip)) .skip))
 (qT (qS [qm 81 1, qv 82 .gtr [] 81 0, qm 83 82, qg 84 83 true (.mov (.t 4)), qg 85 83 true (.mov (.t 0)), qg 86 83 true (.mov (.t 1)), qg 87 83 true (.bin .sub false [] (.t 86) (.c (.int .i64 1))), qg 88 83 true (.iaddr 1 (.t 85) (.t 87)), qg 89 83 true (.load false 1 (.t 88)), qg 90 83 true (.mov (.t 0)), qg 91 83 true (.mov (.t 13)), qg 92 83 true (.iaddr 1 (.t 90) (.t 91)), qg 93 83 true (.load false 1 (.t 92)), qg 94 83 true (.call .f (.t 84) [.t 89, .t 93]), qg 95 83 true (.bin .lss false [] (.t 94) (.c (.int .i64 0))), qg 96 83 true (.not (.t 95)), qq 97 (.pick (.t 83) (.t 96) (.c (.bool false)))]
 (.cond (.t 97) (qS [qm 98 0, qm 99 1, qm 100 2, qm 101 13, qm 102 4, qk 103 149 [98, 99, 100, 101, 102], qm 15 103]
 (qS [qm 104 15, qm 1 104]
 (.exit 1))) .skip))
 (qS [qm 106 0, qm 107 1, qm 108 2, qm 109 13, qm 110 4, qk 111 150 [106, 107, 108, 109, 110], qm 105 111, qq 112 (.extract (.t 105) 0), qq 113 (.extract (.t 105) 1), qm 16 112, qm 17 113]
 (qS [qm 114 17, qm 11 114]
 (qS [qm 115 16, qm 116 1, qu 117 .sub [] 115 116, qm 118 2, qm 119 16, qu 120 .sub [] 118 119, qm 18 117, qm 19 120]
 (qS [qm 121 12, qv 122 .quo [] 121 8, qm 20 122]
 (qS [qm 123 18, qm 124 19, qu 125 .lss [] 123 124]
 (.cond (.t 125) (qS [qm 126 18, qm 127 20, qu 128 .geq [] 126 127, qm 10 128]
 (qS [qm 129 0, qm 130 1, qm 131 16, qm 132 3, qm 133 4, qk 134 113 [129, 130, 131, 132, 133]]
 (.ops [qm 135 16, qv 136 .add [] 135 1, qm 1 136]))) (qS [qm 137 19, qm 138 20, qu 139 .geq [] 137 138, qm 10 139]
 (qS [qm 140 0, qm 141 16, qv 142 .add [] 141 1, qm 143 2, qm 144 3, qm 145 4, qk 146 113 [140, 142, 143, 144, 145]]
 (.ops [qm 147 16, qm 2 147]))))))))))))))))))))))
def r_slices_pdqsortCmpFunc_uint32 : List RVar := []
def n_slices_pdqsortCmpFunc_uint32 : Nat := 148
theorem k_slices_pdqsortCmpFunc_uint32 : chkFn PG 113 n_slices_pdqsortCmpFunc_uint32 r_slices_pdqsortCmpFunc_uint32 c_slices_pdqsortCmpFunc_uint32 = true := by kernel_rfl
theorem f_pdqsortW_0 : Fc PG 113 [.sl .p [], .int .i64 0, .int .i64 0, .int .i64 0, .fn 65 []] (.tup []) := by
 refine Fn.step mixed k_slices_pdqsortCmpFunc_uint32 ?_
 repeat' (first | refine i_s rfl ?_ | refine sw ?_ | fail)
 refine c_lp (ι := Unit) (fun _ => [(0, .sl .p []), (1, .int .i64 0), (2, .int .i64 0), (3, .int .i64 0), (4, .fn 65 [])]) (fun _ => []) (fun _ => True) (fun _ => 0) () trivial ft fun _ _ => ?_
 repeat' (first | refine i_s rfl ?_ | refine sw ?_ | refine c_t rfl ?_ | refine jb rfl rfl ?_ | refine sf rfl rfl (f_insertionSortW_0 _ rfl) ?_ | fail)
 exact e_ret ⟨rfl, _, rfl, rfl⟩
def c_slices_SortFunc_uint32 : Cmd :=
 (qS [qm 5 0, qn 6 5, qm 4 6]
 (.ops [qm 7 0, qm 8 4, qm 9 4, qq 10 (.conv .u64 (.t 9)), qk 11 53 [10], qm 12 1, qq 13 (.call .f (.c (.fn 113 [])) [.t 7, .c (.int .i64 0), .t 8, .t 11, .t 12])]))
def r_slices_SortFunc_uint32 : List RVar := []
def n_slices_SortFunc_uint32 : Nat := 14
theorem k_slices_SortFunc_uint32 : chkFn PG 64 n_slices_SortFunc_uint32 r_slices_SortFunc_uint32 c_slices_SortFunc_uint32 = true := by kernel_rfl
theorem f_SortW_0 : Fc PG 64 [.sl .p [], .fn 65 []] (.tup []) := by
 refine Fn.step mixed k_slices_SortFunc_uint32 ?_
 repeat' (first | refine i_s rfl ?_ | refine sw ?_ | fail)
 refine i_conv (n := 0) rfl ⟨by decide, by decide⟩ ?_
 repeat' (first | refine i_s rfl ?_ | refine sw ?_ | refine sf rfl rfl f_bits_Len_0 ?_ | refine sf rfl rfl f_pdqsortW_0 ?_ | fail)
 refine e_end ⟨rfl, _, rfl, rfl⟩
theorem wSWO : Go.Sort.SWO (Go.Proofs.ltOf wOrd) := ⟨fun x => by
  unfold Go.Proofs.ltOf
  rw [wOrd_zero.2 rfl]
  rfl, fun x y z h1 h2 => by
  unfold Go.Proofs.ltOf at *
  simp only [decide_eq_true_eq] at *
  exact wOrd_trans h1 h2, fun x y z h1 h2 => by
  unfold Go.Proofs.ltOf at *
  simp only [decide_eq_false_iff_not] at *
  intro h3
  have e1 := wOrd_neg x y
  have e2 := wOrd_neg y z
  rcases Int.lt_or_eq_of_le (show wOrd y x ≤ 0 by omega) with a | a
  · exact h2 (wOrd_trans a h3)
  · have := wOrd_zero.1 a
    subst this
    exact h2 h3⟩
theorem c_SortW {G : Type} {H : HT G} (nm gen : Nat) (l : List W32) {pn : List Nat} {σ : Store} {g : G} (hw : wd nm = 1) (hσ : σ nm = .arr gen (l.map u32V)) (hpn : ∀ nm', σ nm' ≠ .unused → nm' ∈ pn) (hsz : l.length < 4611686018427387904) :
  Cc PG H 64 [.msl nm gen 0 l.length, .fn 65 []] pn σ g fun v σ' g' => v = .tup [] ∧ (∃ l' : List W32, l'.Perm l ∧ (l'.Pairwise fun x y => ¬ wOrd y x < 0) ∧ σ' = ups σ nm (.arr gen (l'.map u32V))) ∧ g' = g :=
 ⟨W1.ct_sort (ρ := Go.Proofs.Tryz.sortW_ren) Go.Proofs.Tryz.sortW_lays u32V (fun _ => True) (fun x => ⟨rfl, rfl⟩) wOrd wSWO 65
  (Go.Proofs.enters_of Go.Proofs.Tryz.func65 (by kernel_rfl) rfl) (fun a b _ _ => (f_space_Checked_1 a b).out) nm gen l (fun _ _ => trivial) hw hσ (fun nm' h => Classical.byContradiction fun h' => h (hpn nm' h')) f_SortW_0.out hsz⟩
theorem wdT_of {t : STask} (h : SV t) : WdT t := by
 have key : ∀ l : List Int, IsSet t.facts l → InW l := fun l hl => by
  have h0 := h.f0
  have h1 := h.f1
  refine ⟨fun p hp => ?_, ?_⟩
  · have := hl.rng p hp
    omega
  · have := isSet_len hl h0
    omega
 refine ⟨key _ h.init, key _ h.goal, fun o ho => ?_, by have := h.opl; omega⟩
 have := h.op o ho
 exact ⟨key _ this.pre, key _ this.add, key _ this.del⟩
theorem restr_none {ns : List Nat} {σ : Store} (h : ∀ n ∈ ns, σ n = .unused) : restr ns σ = stOf [] := by
 funext n
 by_cases hn : n ∈ ns
 · rw [restr_at hn, h n hn]; rfl
 · rw [restr_off hn]; rfl
def c_space_Checked : Cmd :=
 (qS [qx 1 1920068 4 0, qq 2 (.mov (.c (.nilptr))), qq 3 (.mov (.c (.sl .nil []))), qq 4 (.alloc 1920258 (.agg [.int .i64 0, .int .i64 0]))]
 (qT (qS [qL 9 4 1, qk 10 13 [9], qq 5 (.alloc 1920322 (.agg [.int .i64 0, .int .i64 0])), qs 2 5 10]
 (qS [qL 11 2 5, qq 12 (.build [.int .i64 0, .int .i64 0] []), qq 13 (.bin .neq true [.i, .i] (.t 11) (.t 12))]
 (.cond (.t 13) (.seq (.ops [qL 14 2 5, qq 2 (.mov (.c (.nilptr))), qq 3 (.mov (.c (.sl .nil []))), qs 2 4 14]) .ret) .skip)))
 (qS [qL 15 4 1, qk 16 62 [15], qm 6 16]
 (qS [qm 18 6, qq 19 (.mkifc 82 (.t 18)), qq 20 (.call .d (.c (.fn 63 [])) [.t 19]), qm 17 20, qq 21 (.extract (.t 17) 0), qq 22 (.extract (.t 17) 1), qm 7 21, qm 8 22]
 (qT (qS [qm 23 8, qq 24 (.not (.t 23))]
 (.cond (.t 24) (.seq (.ops [qq 25 (.build [.int .i64 0, .int .i64 0] [(0 , 1 , .c (.int .i64 10)), (1 , 1 , .c (.int .i64 (-7)))]), qq 2 (.mov (.c (.nilptr))), qq 3 (.mov (.c (.sl .nil []))), qs 2 4 25]) .ret) .skip))
 (.seq (.ops [qm 26 7, qq 27 (.call .d (.c (.fn 64 [])) [.t 26, .c (.fn 65 [])])]) (qT (.frz 7)
 (.seq (.ops [qm 28 6, qm 29 7, qq 30 (.build [.int .i64 0, .int .i64 0] []), qm 2 28, qm 3 29, qs 2 4 30]) .ret))))))))
def r_space_Checked : List RVar := [.tmp 2, .tmp 3, .cell true 2 4]
def n_space_Checked : Nat := 31
theorem k_space_Checked : chkFn PG 30 n_space_Checked r_space_Checked c_space_Checked = true := by kernel_rfl
theorem f_space_Checked_ok (t : STask) (ho : SkOk t) (hb : sFault t = okF) : Fc PG 30 [skV t] (match statesF t with
  | some l => .tup [.cptr .p (wdR (wdOf t)) 0, .sl .p (l.map u32V), ftV okF]
  | none => .tup [.nilptr, .sl .p [], ftV ⟨10, -7⟩]) := by
 have hV := f_strips_Validate t ho
 rw [hb] at hV
 have hv := sFault_ok hb
 have hO := f_space_Of t (wdT_of hv)
 have hol : (wdOf t).ops.length ≤ 1000000 := by unfold wdOf; rw [List.length_map]; have := hv.opl; omega
 refine Fn.step mixed k_space_Checked ?_
 repeat' (first | refine i_s rfl ?_ | refine sw ?_ | refine c_f rfl ?_ | refine i_stb rfl ?_ | refine i_alloc rfl ?_ | refine i_box rfl rfl ?_ | refine sf rfl rfl hV ?_ | refine sf rfl rfl hO ?_ | refine i_ifc rfl ?_)
 refine i_cd [4032385] rfl rfl rfl (by rw [restr_none (fun n hn => by rw [List.mem_singleton.1 hn]; rfl)]; exact ct_All (wdOf t) hol) ?_
 rintro v σ' g' ⟨hP, rfl⟩
 unfold AllPost at hP
 unfold statesF
 cases hA : allF (wdOf t) with
 | none =>
  rw [hA] at hP
  subst hP
  repeat' (first | refine i_s rfl ?_ | refine sw ?_ | refine c_t rfl ?_ | refine i_stb rfl ?_)
  exact e_ret ⟨rfl, _, rfl, rfl⟩
 | some l =>
  rw [hA] at hP
  obtain ⟨g6, rfl, rfl⟩ := hP
  obtain ⟨_, hl2, _⟩ := (allF_spec (wdOf t)).1 l hA
  repeat' (first | refine i_s rfl ?_ | refine sw ?_ | refine c_f rfl ?_)
  refine i_cd [4032385] rfl rfl rfl (c_SortW 4032385 g6 l rfl rfl (fun nm h => restr_mem nm h) (by omega)) ?_
  rintro v σ' g' ⟨rfl, ⟨l', hp, hs, rfl⟩, rfl⟩
  have hll := hp.length_eq
  have el : l' = srtW l := w_sorted (hp.trans (List.mergeSort_perm l _).symm) hs (srtW_ok hA).2.2.2
  repeat refine sw ?_
  refine c_frza rfl rfl rfl ?_
  rw [List.drop_zero, List.take_of_length_le (by rw [List.length_map]; omega)]
  subst el
  repeat' (first | refine i_s rfl ?_ | refine sw ?_ | refine i_stb rfl ?_)
  exact e_ret ⟨rfl, _, rfl, rfl⟩
def c_space_Optimal : Cmd :=
 (qS [qx 1 512068 4 0, qc 2 0, qq 3 (.alloc 512194 (.agg [.int .i64 0, .int .i64 0]))]
 (qS [qL 8 4 1, qk 9 30 [8], qm 7 9, qq 10 (.extract (.t 7) 0), qq 11 (.extract (.t 7) 1), qq 12 (.extract (.t 7) 2), qq 6 (.alloc 512386 (.agg [.int .i64 0, .int .i64 0])), qm 4 10, qm 5 11, qs 2 6 12]
 (qT (qS [qL 13 2 6, qq 14 (.build [.int .i64 0, .int .i64 0] []), qq 15 (.bin .neq true [.i, .i] (.t 13) (.t 14))]
 (.cond (.t 15) (.seq (.ops [qL 16 2 6, qc 2 0, qs 2 3 16]) .ret) .skip))
 (.seq (.ops [qm 17 4, qm 18 5, qk 19 31 [17, 18], qm 20 4, qk 21 32 [20], qq 22 (.mget false (.int .i64 0) (.t 19) (.t 21)), qq 23 (.build [.int .i64 0, .int .i64 0] []), qm 2 22, qs 2 3 23]) .ret))))
def r_space_Optimal : List RVar := [.tmp 2, .cell true 2 3]
def n_space_Optimal : Nat := 24
theorem k_space_Optimal : chkFn PG 8 n_space_Optimal r_space_Optimal c_space_Optimal = true := by kernel_rfl
theorem f_space_Optimal_big (t : STask) (ho : SkOk t) (hb : sFault t = okF) (hn : statesF t = none) : Fc PG 8 [skV t] (.tup [.int .i64 0, ftV ⟨10, -7⟩]) := by
 have hV := f_space_Checked_ok t ho hb
 rw [hn] at hV
 simp only at hV
 refine Fn.step mixed k_space_Optimal ?_
 repeat' (first | refine i_s rfl ?_ | refine sw ?_ | refine c_t rfl ?_ | refine i_stb rfl ?_ | refine i_alloc rfl ?_ | refine i_box rfl rfl ?_ | refine sf rfl rfl hV ?_ | fail)
 exact e_ret ⟨rfl, _, rfl, rfl⟩
theorem f_space_Optimal_ok (t : STask) (ho : SkOk t) (hb : sFault t = okF) {l : List W32} (hl : statesF t = some l) {d : Int} (hd : Least (wdOf t) (wdOf t).start d) : Fc PG 8 [skV t] (.tup [.int .i64 d, ftV okF]) := by
 have hV := f_space_Checked_ok t ho hb
 rw [hl] at hV
 simp only at hV
 have hv := sFault_ok hb
 have hol : (wdOf t).ops.length ≤ 1000000 := by unfold wdOf; rw [List.length_map]; have := hv.opl; omega
 have hI : IsStates (wdOf t) l := by
  unfold statesF at hl
  cases hA : allF (wdOf t) with
  | none => rw [hA] at hl; cases hl
  | some l0 => rw [hA] at hl; cases hl; exact srtW_ok hA
 obtain ⟨D, hD⟩ := least_all (wdOf_cost hv)
 have hC := f_space_Costs (wdOf t) (wdOf_cost hv) hol l hI.1 hI.2.1 hI.closed D hD
 have hS := f_space_Words_Start (wdOf t)
 have hst : (wdOf t).start ∈ l := (hI.2.2.1 _).2 .start
 have hg : mres false (.int .i64 0) (mgetv (l.map toI) (l.map fun s => i64V (D s)) ((wdOf t).start.toNat : Int)) = .int .i64 d := by
  have : mgetv (l.map toI) (l.map fun s => i64V (D s)) ((wdOf t).start.toNat : Int) = some (i64V (D (wdOf t).start)) := out_get hst
  rw [this, (hD _).uniq hd]
  rfl
 refine Fn.step mixed k_space_Optimal ?_
 repeat' (first | refine i_s rfl ?_ | refine sw ?_ | refine c_f rfl ?_ | refine i_stb rfl ?_ | refine i_alloc rfl ?_ | refine i_box rfl rfl ?_ | refine sf rfl rfl hV ?_ | refine sf rfl rfl hC ?_ | refine sf rfl rfl hS ?_ | refine i_mg rfl rfl rfl hg ?_)
 exact e_ret ⟨rfl, _, rfl, rfl⟩
end Hm
end
section
namespace Hm
open Go
set_option maxRecDepth 100000
set_option maxHeartbeats 2000000
def c_slices_Clone_int : Cmd :=
 (qS [qq 2 (.mov (.c (.sl .nil [])))]
 (qT (qS [qm 3 0, qq 4 (.isnil false (.t 3))]
 (.cond (.t 4) (.seq (.ops [qq 2 (.newArr 7616321)]) .ret) .skip))
 (.seq (.ops [qq 5 (.bslA 7616321 1 []), qm 6 0, qq 7 (.append 1 8 3 (.t 5) (.t 6)), qm 2 7]) .ret)))
def r_slices_Clone_int : List RVar := [.tmp 2]
def n_slices_Clone_int : Nat := 8
theorem k_slices_Clone_int : chkFn PG 119 n_slices_Clone_int r_slices_Clone_int c_slices_Clone_int = true := by kernel_rfl
theorem f_slices_Clone_int (s : List Int) (hl : s.length ≤ 17592186044416) : Fc PG 119 [.sl .p (s.map i64V)] (.sl .p (s.map i64V)) := by
 refine Fn.step mixed k_slices_Clone_int ?_
 repeat (first | refine i_s rfl ?_ | refine sw ?_)
 refine i_isnil rfl fun b hb => ?_
 repeat refine sw ?_
 refine c_cond rfl (fun h => ?_) (fun h => ?_)
 · have e : s = [] := by simpa using hb (by simpa using h)
   subst e
   repeat refine sw ?_
   refine i_na rfl ?_
   repeat refine sw ?_
   exact e_ret ⟨rfl, _, rfl, rfl⟩
 · repeat refine sw ?_
   refine i_bsla rfl rfl rfl rfl ?_
   repeat refine i_s rfl ?_
   refine i_appmM (l := []) (f := i64V) s rfl rfl rfl rfl rfl (fun c hc => ⟨rfl, rfl⟩) (by simp; omega) (by simp; omega) ?_
   repeat (first | refine i_s rfl ?_ | refine sw ?_)
   exact e_ret ⟨rfl, _, rfl, ((er_msl (i := 0) (len := ([] ++ s).length) (n := 5) rfl).trans (msl_all rfl)).symm⟩
def c_strips_Run : Cmd :=
 (qS [qx 3 6848196 4 0, qq 6 (.mov (.c (.sl .nil [])))]
 (qS [qm 10 1, qk 11 119 [10], qq 12 (.bslO 6848769 1 [.t 11]), qm 7 12]
 (qT (qS [qm 13 2, qn 14 13, qc 15 0]
 (.block 0 (.loop (qS [qu 16 .lss [] 15 14]
 (qT (.cond (.t 16) .skip (.exit 0))
 (qT (.block 1 (qS [qi 17 1 13 15, ql 18 1 17, qm 9 18]
 (qT (qS [qL 19 4 3, qm 20 1, qm 21 9, qk 22 141 [19, 20, 21], qq 23 (.not (.t 22))]
 (.cond (.t 23) (.exit 0) .skip))
 (qS [qL 24 4 3, qm 25 1, qm 26 9, qk 27 142 [24, 25, 26], qm 1 27]
 (.ops [qm 28 7, qm 29 1, qq 30 (.bsl 1 [.t 29]), qq 31 (.append 1 24 22 (.t 28) (.t 30)), qm 7 31])))))
 (.ops [qv 32 .add [] 15 1, qm 15 32])))))))
 (.seq (.ops [qm 33 7, qm 6 33]) .ret))))
def r_strips_Run : List RVar := [.tmp 6]
def n_strips_Run : Nat := 34
theorem k_strips_Run : chkFn PG 107 n_strips_Run r_strips_Run c_strips_Run = true := by kernel_rfl
theorem f_strips_Run (t : STask) (hv : SV t) (s : List Int) (hs : IsSet t.facts s) (plan : List Int) (hl : plan.length ≤ 1000000) (hp : ∀ x ∈ plan, 0 ≤ x ∧ x < t.ops.length) : Fc PG 107 [skV t, .sl .p (s.map i64V), .sl .p (plan.map i64V)] (.sl .p ((s :: runT t s plan).map ssV)) := by
 have hsl := set_le hv hs
 have hC := f_slices_Clone_int s (by omega)
 refine Fn.step mixed k_strips_Run ?_
 repeat (first | refine i_s rfl ?_ | refine sw ?_ | refine i_box rfl rfl ?_ | refine sf rfl rfl hC ?_)
 refine i_bslo rfl rfl rfl rfl ?_
 repeat (first | refine i_len rfl ?_ | refine i_s rfl ?_ | refine sw ?_)
 refine c_lp (ι := Nat × List Int × List (List Int)) (fun i => [(1, .sl .p (i.2.1.map i64V)), (3, .bptr 6848196 0), (7, .sl (.own 6848769) (i.2.2.map ssV)), (13, .sl .p (plan.map i64V)), (14, .int .i64 plan.length), (15, .int .i64 i.1)])
  (fun i => [(6848196, .box (skV t)), (6848769, .vec i.2.2.length)])
  (fun i => i.1 ≤ plan.length ∧ i.2.2.length = i.1 + 1 ∧ IsSet t.facts i.2.1 ∧ i.2.2 ++ runT t i.2.1 (plan.drop i.1) = s :: runT t s plan) (fun i => plan.length - i.1) (0, s, [s]) ⟨Nat.zero_le _, rfl, hs, rfl⟩ ft fun i hi => ?_
 obtain ⟨k, u, acc⟩ := i
 obtain ⟨h1, h2, h3, h4⟩ := hi
 simp only at h1 h2 h3 h4
 have hul := set_le hv h3
 clear hC hs hsl
 repeat (first | refine i_s rfl ?_ | refine sw ?_)
 refine c_cond rfl (fun h => ?_) (fun h => ?_)
 · have hlt : k < plan.length := by simpa using h
   obtain ⟨x, hx⟩ := get_some hlt
   obtain ⟨x0, x1⟩ := hp x (mem_get hx)
   obtain ⟨o, hc⟩ := get_some (l := t.ops) (k := x.toNat) (by omega)
   have hoo := hv.op o (mem_get hc)
   have hC := f_strips_Can t u (by omega) h3.ss x x0 o hc (by have := set_le hv hoo.pre; omega) hoo.pre.ss
   have hN := f_strips_Next t u (by omega) x x0 o hc (by have := set_le hv hoo.add; omega) (by have := set_le hv hoo.del; omega) hoo.del.ss
   have ed : plan.drop k = x :: plan.drop (k + 1) := by
    obtain ⟨h5, h6⟩ := List.getElem?_eq_some_iff.1 hx
    rw [← h6]; exact List.drop_eq_getElem_cons hlt
   have hst := stepS_op (s := u) hc
   rw [ed] at h4
   simp only [runT, hst] at h4
   clear h
   cases hi : inclB o.pre u with
   | true =>
    rw [hi] at hC
    rw [hi, if_pos rfl] at h4
    repeat (first | refine i_s rfl ?_ | refine sw ?_ | refine c_f rfl ?_ | refine jd rfl rfl ?_ | refine sf rfl rfl hC ?_ | refine sf rfl rfl hN ?_)
    refine i_appM (f := ssV) (c := updL u o.add o.del) rfl rfl rfl rfl rfl (by dsimp only; omega) (by dsimp only; omega) ?_
    repeat (first | refine i_s rfl ?_ | refine sw ?_ | refine ja rfl rfl ?_)
    exact e_lp (k + 1, updL u o.add o.del, acc ++ [updL u o.add o.del]) ⟨hlt, by simp [h2], updL_set h3 hoo.add, by simpa using h4⟩ (by simp only; omega) ⟨⟨rfl, rfl, rfl, rfl, rfl, rfl, trivial⟩, ⟨rfl, by simp; rfl, trivial⟩, rfl⟩
   | false =>
    rw [hi] at hC
    rw [hi, if_neg (by simp), List.append_nil] at h4
    repeat (first | refine i_s rfl ?_ | refine sw ?_ | refine c_t rfl ?_ | refine jd rfl rfl ?_ | refine sf rfl rfl hC ?_)
    exact e_ret ⟨rfl, _, rfl, by rw [h4]; rfl⟩
 · have hge : k = plan.length := by have : ¬ k < plan.length := by simpa using h
                                    omega
   subst hge
   rw [List.drop_length] at h4
   simp only [runT, List.append_nil] at h4
   repeat (first | refine i_s rfl ?_ | refine sw ?_)
   exact e_ret ⟨rfl, _, rfl, by rw [h4]; rfl⟩
def c_strips_Works : Cmd :=
 (qS [qx 3 3584196 4 0, qb 6 false]
 (qS [qL 8 4 3, qm 9 1, qm 10 2, qk 11 107 [8, 9, 10], qm 7 11]
 (.seq (.ops [qm 12 7, qn 13 12, qm 14 2, qn 15 14, qv 16 .add [] 15 1, qu 17 .eql [.i] 13 16, qm 18 17, qg 19 18 true (.mov (.t 7)), qg 20 18 true (.mov (.t 2)), qg 21 18 true (.len false (.t 20)), qg 22 18 true (.iaddr 1 (.t 19) (.t 21)), qg 23 18 true (.load false 1 (.t 22)), qg 24 18 true (.faddr 2 (.t 3)), qg 25 18 true (.load false 1 (.t 24)), qg 26 18 true (.call .f (.c (.fn 93 [])) [.t 23, .t 25]), qq 27 (.pick (.t 18) (.t 26) (.c (.bool false))), qm 6 27]) .ret)))
def r_strips_Works : List RVar := [.tmp 6]
def n_strips_Works : Nat := 28
theorem k_strips_Works : chkFn PG 56 n_strips_Works r_strips_Works c_strips_Works = true := by kernel_rfl
theorem f_strips_Works (t : STask) (hv : SV t) (s : List Int) (hs : IsSet t.facts s) (plan : List Int) (hl : plan.length ≤ 1000000) (hp : ∀ x ∈ plan, 0 ≤ x ∧ x < t.ops.length) : Fc PG 56 [skV t, .sl .p (s.map i64V), .sl .p (plan.map i64V)] (.bool (worksB t s plan)) := by
 have hR := f_strips_Run t hv s hs plan hl hp
 have hle := run_len_le t plan s
 have heq := run_len_eq t plan s
 have hget := run_get t plan s
 have hgl := set_le hv hv.goal
 unfold worksB
 cases he : endS t s plan with
 | some e =>
  have hes := endS_set hv plan s e hs he
  have hel := set_le hv hes
  have hC := f_strips_Contains e t.goal (by omega) (by omega) hes.ss hv.goal.ss
  rw [he] at hget heq
  have hlen : (runT t s plan).length = plan.length := heq.2 rfl
  generalize runT t s plan = R at *
  have hl2 : (s :: R).length = plan.length + 1 := by simp [hlen]
  generalize s :: R = L at *
  refine Fn.step mixed k_strips_Works ?_
  repeat' (first | refine i_len rfl ?_ | refine i_s rfl ?_ | refine sw ?_ | refine i_gt rfl ?_ | refine i_gf rfl ?_ | refine ja rfl rfl ?_ | refine jd rfl rfl ?_ | refine i_box rfl rfl ?_ | refine i_g rfl (fun h => ?_) (fun h => ?_) | refine sf rfl rfl hR ?_ | refine sf rfl rfl hC ?_ | fail)
  all_goals first
   | exact e_ret ⟨rfl, _, rfl, rfl⟩
   | (exfalso; clear hR hC hs hv hes heq; simp at *; omega)
 | none =>
  rw [he] at heq
  have hlen : ¬ (runT t s plan).length = plan.length := fun h => by have := heq.1 h; cases this
  generalize runT t s plan = R at *
  have hl2 : ¬ (s :: R).length = plan.length + 1 := by simp; omega
  generalize s :: R = L at *
  refine Fn.step mixed k_strips_Works ?_
  repeat' (first | refine i_len rfl ?_ | refine i_s rfl ?_ | refine sw ?_ | refine i_gt rfl ?_ | refine i_gf rfl ?_ | refine ja rfl rfl ?_ | refine i_box rfl rfl ?_ | refine i_g rfl (fun h => ?_) (fun h => ?_) | refine sf rfl rfl hR ?_ | fail)
  all_goals first
   | exact e_ret ⟨rfl, _, rfl, rfl⟩
   | (exfalso; clear hR hs hv heq; simp at *; omega)
def c_strips_Solves : Cmd :=
 (qS [qx 2 1344132 4 0, qb 4 false, qq 5 (.alloc 1344322 (.agg [.int .i64 0, .int .i64 0]))]
 (qT (qS [qL 7 4 2, qm 8 1, qk 9 55 [7, 8], qq 6 (.alloc 1344386 (.agg [.int .i64 0, .int .i64 0])), qs 2 6 9]
 (qS [qL 10 2 6, qq 11 (.build [.int .i64 0, .int .i64 0] []), qq 12 (.bin .neq true [.i, .i] (.t 10) (.t 11))]
 (.cond (.t 12) (.seq (.ops [qL 13 2 6, qb 4 false, qs 2 5 13]) .ret) .skip)))
 (.seq (.ops [qL 14 4 2, qf 15 1 2, ql 16 1 15, qm 17 1, qk 18 56 [14, 16, 17], qq 19 (.build [.int .i64 0, .int .i64 0] []), qm 4 18, qs 2 5 19]) .ret)))
def r_strips_Solves : List RVar := [.tmp 4, .cell true 2 5]
def n_strips_Solves : Nat := 20
theorem k_strips_Solves : chkFn PG 21 n_strips_Solves r_strips_Solves c_strips_Solves = true := by kernel_rfl
theorem f_strips_Solves_ok (t : STask) (ho : SkOk t) (plan : List Int) (hb : plFault t plan = okF) : Fc PG 21 [skV t, .sl .p (plan.map i64V)] (.tup [.bool (worksB t t.init plan), ftV okF]) := by
 obtain ⟨hv, h60, hr, _⟩ := plFault_ok hb
 have hF := f_strips_PlanFault t ho plan (by omega)
 rw [hb] at hF
 have hW := f_strips_Works t hv t.init hv.init plan (by omega) hr
 refine Fn.step mixed k_strips_Solves ?_
 repeat' (first | refine i_s rfl ?_ | refine sw ?_ | refine c_f rfl ?_ | refine i_stb rfl ?_ | refine i_alloc rfl ?_ | refine i_box rfl rfl ?_ | refine sf rfl rfl hF ?_ | refine sf rfl rfl hW ?_ | fail)
 exact e_ret ⟨rfl, _, rfl, rfl⟩
end Hm
end
section
namespace Hm
open Go
set_option maxRecDepth 100000
set_option maxHeartbeats 4000000
def kernT : STask := ⟨2, [0], [1], [⟨[0], [1], [0], 3⟩]⟩
theorem kern_ok : SkOk kernT := by
 refine ⟨by decide, by decide, by decide, fun o ho => ?_⟩
 rw [List.mem_singleton.1 ho]
 exact ⟨by decide, by decide, by decide⟩
theorem kern_v : sFault kernT = okF := by decide +kernel
theorem kern_states : statesF kernT ≠ none := by
 have : (statesF kernT).isSome = true := by decide +kernel
 intro h
 rw [h] at this
 cases this
theorem kern_least : Least (wdOf kernT) (wdOf kernT).start 3 := by
 have hv := sFault_ok kern_v
 have hw : WayTo (wdOf kernT) (wdOf kernT).start 3 := way_of_plan hv [0] [0] [1] hv.init (by decide) (by decide +kernel) (by decide +kernel)
 refine ⟨by decide, fun c h => ?_, .inr hw⟩
 cases h with
 | goal h => exact absurd h (by decide +kernel)
 | step he h =>
  have h0 := way_nn (wdOf_cost hv) h
  obtain ⟨o, h1, _, h3, _⟩ := (mem_steps (t := kernT) hv (s := [0]) (by intro p hp; simp at hp; omega)).1 he
  have : o ∈ kernT.ops := List.mem_of_getElem? h1
  rw [List.mem_singleton.1 this] at h3
  rw [h3]
  show (3 : Int) ≤ 3 + _
  omega
theorem kern_works : worksB kernT kernT.init [0] = true := by decide +kernel
def c_T_kernStep : Cmd :=
 (qS [qq 0 (.alloc 1280004 (.agg [.int .i64 0, .sl .nil [], .sl .nil [], .sl .nil []]))]
 (.seq (.ops [qq 1 (.bsl 1 [.c (.int .i64 0)]), qq 2 (.bsl 1 [.c (.int .i64 1)]), qq 3 (.bsl 1 [.c (.int .i64 0)]), qq 4 (.bsl 1 [.c (.int .i64 1)]), qq 5 (.bsl 1 [.c (.int .i64 0)]), qq 6 (.build [.sl .nil [], .sl .nil [], .sl .nil [], .int .i64 0] [(0 , 1 , .t 3), (1 , 1 , .t 4), (2 , 1 , .t 5), (3 , 1 , .c (.int .i64 3))]), qq 7 (.bsl 4 [.t 6]), qq 8 (.build [.int .i64 0, .sl .nil [], .sl .nil [], .sl .nil []] [(0 , 1 , .c (.int .i64 2)), (1 , 1 , .t 1), (2 , 1 , .t 2), (3 , 1 , .t 7)]), qs 4 0 8]) .ret))
def r_T_kernStep : List RVar := [.cell true 4 0]
def n_T_kernStep : Nat := 9
theorem k_T_kernStep : chkFn PG 20 n_T_kernStep r_T_kernStep c_T_kernStep = true := by kernel_rfl
theorem f_kernStep : Fc PG 20 [] (skV kernT) := by
 refine Fn.step mixed k_T_kernStep ?_
 repeat' (first | refine i_s rfl ?_ | refine sw ?_ | refine i_stb rfl ?_ | refine i_alloc rfl ?_)
 exact e_ret ⟨rfl, _, rfl, rfl⟩
def c_T_kernWorks : Cmd :=
 (qS [qb 0 false]
 (qS [qk 6 20 [], qk 7 8 [6], qm 5 7, qq 8 (.extract (.t 5) 0), qq 9 (.extract (.t 5) 1), qq 2 (.alloc 384130 (.agg [.int .i64 0, .int .i64 0])), qm 1 8, qs 2 2 9]
 (qS [qk 11 20 [], qq 12 (.bsl 1 [.c (.int .i64 0)]), qk 13 21 [11, 12], qm 10 13, qq 14 (.extract (.t 10) 0), qq 15 (.extract (.t 10) 1), qq 4 (.alloc 384258 (.agg [.int .i64 0, .int .i64 0])), qm 3 14, qs 2 4 15]
 (.seq (.ops [qf 16 0 2, ql 17 1 16, qv 18 .eql [.i] 17 0, qm 19 18, qg 20 19 true (.faddr 0 (.t 4)), qg 21 19 true (.load false 1 (.t 20)), qg 22 19 true (.bin .eql false [.i] (.t 21) (.c (.int .i64 0))), qq 23 (.pick (.t 19) (.t 22) (.c (.bool false))), qm 24 23, qg 25 24 true (.mov (.t 1)), qg 26 24 true (.bin .eql false [.i] (.t 25) (.c (.int .i64 3))), qq 27 (.pick (.t 24) (.t 26) (.c (.bool false))), qm 28 27, qg 29 28 true (.mov (.t 3)), qq 30 (.pick (.t 28) (.t 29) (.c (.bool false))), qm 0 30]) .ret))))
def r_T_kernWorks : List RVar := [.tmp 0]
def n_T_kernWorks : Nat := 31
theorem k_T_kernWorks : chkFn PG 6 n_T_kernWorks r_T_kernWorks c_T_kernWorks = true := by kernel_rfl
theorem f_kernWorks : Fc PG 6 [] (.bool true) := by
 obtain ⟨l, hl⟩ := Option.ne_none_iff_exists'.1 kern_states
 have h1 := f_space_Optimal_ok kernT kern_ok kern_v hl kern_least
 have h2 := f_strips_Solves_ok kernT kern_ok [0] (by decide +kernel)
 rw [kern_works] at h2
 have h0 := f_kernStep
 refine Fn.step mixed k_T_kernWorks ?_
 repeat' (first | refine i_s rfl ?_ | refine sw ?_ | refine i_gt rfl ?_ | refine i_stb rfl ?_ | refine i_alloc rfl ?_ | refine sf rfl rfl h0 ?_ | refine sf rfl rfl h1 ?_ | refine sf rfl rfl h2 ?_ | fail)
 all_goals first
  | (exfalso; simp at *; done)
  | exact e_ret ⟨rfl, _, rfl, rfl⟩
theorem mFault_of {m : MTask} (h : MV m) : mFault m = okF := by
 have h1 : m.sizes.any szBad = false := by
  rw [List.any_eq_false]
  intro z hz
  have := h.rng z hz
  simp [szBad]
  omega
 unfold mFault
 rw [if_neg (by have := h.len; have := h.pos; omega), if_neg (by rw [h1]; decide), if_neg (by rw [h.init]; decide), if_neg (by rw [h.goal]; decide), if_neg (by have := h.opl; omega)]
 rw [scan0_none fun j hj => ?_]
 · rfl
 · obtain ⟨o, ho⟩ := get_some hj
   obtain ⟨p1, p2, p3, p4⟩ := h.op o (mem_get ho)
   unfold opBad
   rw [ho]
   show (if asB m.sizes o.pre = false ∨ asB m.sizes o.post = false then some (⟨5, j⟩ : Flt) else if o.cost < 0 ∨ o.cost > 100 then some ⟨3, j⟩ else none) = none
   rw [if_neg (by rw [p1, p2]; decide), if_neg (by omega)]
theorem mv_ok {m : MTask} (h : MV m) : MOk m := by
 have h1 := h.len
 have h2 := h.opl
 refine ⟨by omega, by rw [stB_len h.init]; omega, by have := asB_len h.goal; omega, by omega, fun o ho => ?_⟩
 obtain ⟨p1, p2, _, _⟩ := h.op o ho
 have q1 := asB_len p1
 have q2 := asB_len p2
 omega
theorem sv_ok {t : STask} (hv : SV t) : SkOk t := by
 have hs : ∀ {l : List Int}, IsSet t.facts l → l.length ≤ 140737488355328 := fun h => by have := set_le hv h; omega
 refine ⟨hs hv.init, hs hv.goal, by have := hv.opl; omega, fun o ho => ?_⟩
 have := hv.op o ho
 exact ⟨hs this.pre, hs this.add, hs this.del⟩
theorem optimal_of {a : STask} (va : SV a) : (statesF a = none ∧ Fc PG 8 [skV a] (.tup [.int .i64 0, ftV ⟨10, -7⟩])) ∨ (statesF a ≠ none ∧ ∃ d, Least (wdOf a) (wdOf a).start d ∧ Fc PG 8 [skV a] (.tup [.int .i64 d, ftV okF])) := by
 have fa := sFault_of va
 cases hA : statesF a with
 | none => exact .inl ⟨rfl, f_space_Optimal_big a (sv_ok va) fa hA⟩
 | some l =>
  obtain ⟨d, hd⟩ := least_ex (wdOf_cost va) (wdOf a).start
  exact .inr ⟨by simp, d, hd, f_space_Optimal_ok a (sv_ok va) fa hA hd⟩
def c_T_TopEncodedTasksCostTheSame : Cmd :=
 (qS [qx 1 192068 4 0, qb 2 false]
 (qS [qL 15 4 1, qk 16 5 [15], qm 14 16, qq 17 (.extract (.t 14) 0), qq 18 (.extract (.t 14) 1), qq 4 (.alloc 192258 (.agg [.int .i64 0, .int .i64 0])), qm 3 17, qs 2 4 18]
 (qT (qS [qk 19 6 [], qq 20 (.not (.t 19)), qm 21 20, qg 22 21 false (.faddr 0 (.t 4)), qg 23 21 false (.load false 1 (.t 22)), qg 24 21 false (.bin .neq false [.i] (.t 23) (.c (.int .i64 0))), qq 25 (.pick (.t 21) (.c (.bool true)) (.t 24)), qm 26 25, qg 27 26 false (.mov (.t 3)), qg 28 26 false (.len false (.t 27)), qg 29 26 false (.bin .gtr false [] (.t 28) (.c (.int .i64 24))), qq 30 (.pick (.t 26) (.c (.bool true)) (.t 29))]
 (.cond (.t 30) (.seq (.ops [qk 31 6 [], qm 32 31, qg 33 32 true (.faddr 0 (.t 4)), qg 34 32 true (.load false 1 (.t 33)), qg 35 32 true (.bin .eql false [.i] (.t 34) (.c (.int .i64 0))), qg 36 32 true (.mov (.t 35)), qg 37 36 false (.mov (.t 3)), qg 38 36 false (.len false (.t 37)), qg 39 36 false (.bin .eql false [.i] (.t 38) (.c (.int .i64 0))), qg 40 32 true (.pick (.t 36) (.c (.bool true)) (.t 39)), qq 41 (.pick (.t 32) (.t 40) (.c (.bool false))), qm 2 41]) .ret) .skip))
 (qS [qL 43 4 1, qm 44 3, qk 45 7 [43, 44], qm 42 45, qq 46 (.extract (.t 42) 0), qq 47 (.extract (.t 42) 1), qq 48 (.extract (.t 42) 2), qq 5 (.alloc 192324 (.agg [.sl .nil [], .sl .nil [], .sl .nil [], .sl .nil []])), qq 7 (.alloc 192450 (.agg [.int .i64 0, .int .i64 0])), qs 4 5 46, qm 6 47, qs 2 7 48]
 (qS [qL 50 4 1, qk 51 8 [50], qm 49 51, qq 52 (.extract (.t 49) 0), qq 53 (.extract (.t 49) 1), qq 9 (.alloc 192578 (.agg [.int .i64 0, .int .i64 0])), qm 8 52, qs 2 9 53]
 (qT (qS [qf 54 0 7, ql 55 1 54, qv 56 .eql [.i] 55 15]
 (.cond (.t 56) (.seq (.ops [qf 57 0 9, ql 58 1 57, qv 59 .neq [.i] 58 0, qm 60 59, qg 61 60 false (.mov (.t 8)), qg 62 60 false (.bin .eql false [.i] (.t 61) (.c (.int .i64 1000000000))), qq 63 (.pick (.t 60) (.c (.bool true)) (.t 62)), qm 2 63]) .ret) .skip))
 (qT (qS [qf 64 0 7, ql 65 1 64, qv 66 .neq [.i] 65 0, qm 67 66, qg 68 67 false (.faddr 0 (.t 9)), qg 69 67 false (.load false 1 (.t 68)), qg 70 67 false (.bin .neq false [.i] (.t 69) (.c (.int .i64 0))), qq 71 (.pick (.t 67) (.c (.bool true)) (.t 70))]
 (.cond (.t 71) (.seq (.ops [qL 72 2 7, qq 73 (.call .f (.c (.fn 9 [])) [.c (.int .i64 10), .c (.int .i64 (-9))]), qq 74 (.bin .eql true [.i, .i] (.t 72) (.t 73)), qm 75 74, qg 76 75 false (.faddr 0 (.t 9)), qg 77 75 false (.load false 1 (.t 76)), qg 78 75 false (.bin .eql false [.i] (.t 77) (.c (.int .i64 10))), qq 79 (.pick (.t 75) (.c (.bool true)) (.t 78)), qm 2 79]) .ret) .skip))
 (qS [qL 81 4 5, qk 82 10 [81], qm 80 82, qq 83 (.extract (.t 80) 0), qq 84 (.extract (.t 80) 1), qq 10 (.alloc 192644 (.agg [.int .i64 0, .sl .nil [], .sl .nil [], .sl .nil []])), qq 11 (.alloc 192706 (.agg [.int .i64 0, .int .i64 0])), qs 4 10 83, qs 2 11 84]
 (qT (qS [qf 85 0 11, ql 86 1 85, qv 87 .neq [.i] 86 0]
 (.cond (.t 87) (.seq (.ops [qL 88 2 11, qq 89 (.call .f (.c (.fn 9 [])) [.c (.int .i64 10), .c (.int .i64 (-8))]), qq 90 (.bin .eql true [.i, .i] (.t 88) (.t 89)), qm 2 90]) .ret) .skip))
 (qS [qL 92 4 10, qk 93 8 [92], qm 91 93, qq 94 (.extract (.t 91) 0), qq 95 (.extract (.t 91) 1), qq 13 (.alloc 192834 (.agg [.int .i64 0, .int .i64 0])), qm 12 94, qs 2 13 95]
 (.seq (.ops [qf 96 0 13, ql 97 1 96, qv 98 .eql [.i] 97 0, qm 99 98, qg 100 99 true (.mov (.t 12)), qg 101 99 true (.mov (.t 8)), qg 102 99 true (.bin .eql false [.i] (.t 100) (.t 101)), qq 103 (.pick (.t 99) (.t 102) (.c (.bool false))), qm 2 103]) .ret)))))))))))
def r_T_TopEncodedTasksCostTheSame : List RVar := [.tmp 2]
def n_T_TopEncodedTasksCostTheSame : Nat := 104
theorem k_T_TopEncodedTasksCostTheSame : chkFn PG 3 n_T_TopEncodedTasksCostTheSame r_T_TopEncodedTasksCostTheSame c_T_TopEncodedTasksCostTheSame = true := by kernel_rfl
theorem f_T_Top17 (t : STask) (ho : SkOk t) : Fc PG 3 [skV t] (.bool true) := by
 have hK := f_kernWorks
 by_cases hf : sFault t = okF
 rotate_left
 · have hF : Fc PG 5 [skV t] (.tup [.sl .p (([] : List (List Int)).map isV), ftV (sFault t)]) := f_Find_bad t ho hf
   have hne : (sFault t).code ≠ 0 := fun e => hf ((sFault_iff t).1 e)
   generalize sFault t = f at *
   refine Fn.step mixed k_T_TopEncodedTasksCostTheSame ?_
   repeat' (first | refine i_len rfl ?_ | refine i_s rfl ?_ | refine sw ?_ | refine i_gt rfl ?_ | refine i_gf rfl ?_ | refine c_t rfl ?_ | refine c_f rfl ?_ | refine i_stb rfl ?_ | refine i_alloc rfl ?_ | refine i_box rfl rfl ?_ | refine i_g rfl (fun h => ?_) (fun h => ?_) | refine sf rfl rfl hK ?_ | refine sf rfl rfl hF ?_ | fail)
   all_goals clear hK hF ho hf
   all_goals first
    | (exfalso; simp at *; done)
    | (exfalso; simp at *; omega)
    | exact e_ret ⟨rfl, _, rfl, rfl⟩
    | exact e_ret ⟨rfl, _, rfl, congrArg V.bool (by simp)⟩
 have hv := sFault_ok hf
 by_cases hw : t.facts ≤ 10
 rotate_left
 · have hF : Fc PG 5 [skV t] (.tup [.sl .p (([] : List (List Int)).map isV), ftV ⟨10, -8⟩]) := f_Find_big t ho hf (by omega)
   refine Fn.step mixed k_T_TopEncodedTasksCostTheSame ?_
   repeat' (first | refine i_len rfl ?_ | refine i_s rfl ?_ | refine sw ?_ | refine i_gt rfl ?_ | refine i_gf rfl ?_ | refine c_t rfl ?_ | refine i_stb rfl ?_ | refine i_alloc rfl ?_ | refine i_box rfl rfl ?_ | refine sf rfl rfl hK ?_ | refine sf rfl rfl hF ?_ | fail)
   all_goals clear hK hF ho hf hv hw
   all_goals first
    | (exfalso; simp at *; done)
    | exact e_ret ⟨rfl, _, rfl, rfl⟩
    | exact e_ret ⟨rfl, _, rfl, congrArg V.bool (by simp)⟩
 have hF := f_Find_ok t ho hf hw
 have hgr := groupsF_ok hv.f0
 generalize groupsF t = gs at *
 by_cases h24 : 24 < gs.length
 · refine Fn.step mixed k_T_TopEncodedTasksCostTheSame ?_
   repeat' (first | refine i_len rfl ?_ | refine i_s rfl ?_ | refine sw ?_ | refine i_gt rfl ?_ | refine i_gf rfl ?_ | refine i_stb rfl ?_ | refine i_alloc rfl ?_ | refine i_box rfl rfl ?_ | refine c_cond rfl (fun h => ?_) (fun h => ?_) | refine sf rfl rfl hK ?_ | refine sf rfl rfl hF ?_ | fail)
   all_goals clear hK hF ho hf hv hw hgr
   all_goals first
    | (exfalso; simp at *; done)
    | (exfalso; simp at *; omega)
    | exact e_ret ⟨rfl, _, rfl, rfl⟩
    | exact e_ret ⟨rfl, _, rfl, congrArg V.bool (by simp)⟩
 obtain ⟨n, hn⟩ : ∃ n : Nat, t.facts = n := ⟨t.facts.toNat, (Int.toNat_of_nonneg hv.f0).symm⟩
 have hC := covF_ok n gs fun g h => by rw [← hn]; exact (hgr g h).1
 have hgh : ∀ g ∈ gs, holdB t g = true := fun g h => (hgr g h).2
 have hck := f_check_ok t ho hf gs (by omega) hgr
 have hcov := f_cover t n hn (by omega) gs (by omega) fun g h => by rw [← hn]; exact (hgr g h).1
 have hcl : (covF n gs).length ≤ 1000 := by
  have := foldC_len (gs ++ oneL n) ([], [])
  simp only [List.length_append, oneL, List.length_map, List.length_range, List.length_nil] at this
  show ((gs ++ oneL n).foldl takeC ([], [])).1.length ≤ 1000
  unfold oneL
  omega
 generalize covF n gs = cs at *
 have hcc : ∀ c ∈ cs, c.length ≤ 1000 := fun c h => by
  have := isSet_len (n := n) ⟨hC.ss c h, hC.rng c h⟩ (by omega)
  omega
 have hO := optimal_of hv
 have hAt := f_R1_At 10 (-9)
 have hAt2 := f_R1_At 10 (-8)
 have big : ∀ f : Flt, f = ⟨10, -9⟩ → Fc PG 7 [skV t, .sl .p (gs.map isV)] (.tup [mt0, .sl .p [], ftV f]) → Fc PG 3 [skV t] (.bool true) := by
  rintro _ rfl hM
  rcases hO with ⟨_, hO⟩ | ⟨_, d, _, hO⟩
  all_goals
   refine Fn.step mixed k_T_TopEncodedTasksCostTheSame ?_
   repeat' (first | refine i_len rfl ?_ | refine i_s rfl ?_ | refine sw ?_ | refine i_gt rfl ?_ | refine i_gf rfl ?_ | refine c_t rfl ?_ | refine c_f rfl ?_ | refine i_stb rfl ?_ | refine i_alloc rfl ?_ | refine i_box rfl rfl ?_ | refine c_cond rfl (fun h => ?_) (fun h => ?_) | refine sf rfl rfl hK ?_ | refine sf rfl rfl hF ?_ | refine sf rfl rfl hM ?_ | refine sf rfl rfl hO ?_ | refine sf rfl rfl hAt ?_ | fail)
   all_goals clear hK hF hM hO hAt hAt2 hck hcov hC hgr hgh hv ho hf
   all_goals first
    | (exfalso; simp at *; done)
    | (exfalso; simp at *; omega)
    | exact e_ret ⟨rfl, _, rfl, rfl⟩
    | exact e_ret ⟨rfl, _, rfl, congrArg V.bool (by simp)⟩
 by_cases hbig : bigC cs = true
 · exact big _ rfl (f_Multi_big t gs cs hck hcov hcl hcc hbig)
 have hbig : bigC cs = false := by simpa using hbig
 cases hgo : asgOk cs t.goal with
 | false =>
  have hM := f_Multi t hv gs cs hck hcov hcl hcc hbig (.tup [mt0, .sl .p [], ftV ⟨15, -9⟩]) (fun _ => rfl) (fun h => by rw [hgo] at h; cases h) (fun h => by rw [hgo] at h; cases h)
  have hG : ¬ AMc cs t.goal := fun h => by rw [(asgOk_iff hC).2 h] at hgo; cases hgo
  have hL := no_least hv hn hgh hC hG
  rcases hO with ⟨_, hO⟩ | ⟨_, d, hd, hO⟩
  · refine Fn.step mixed k_T_TopEncodedTasksCostTheSame ?_
    repeat' (first | refine i_len rfl ?_ | refine i_s rfl ?_ | refine sw ?_ | refine i_gt rfl ?_ | refine i_gf rfl ?_ | refine c_t rfl ?_ | refine i_stb rfl ?_ | refine i_alloc rfl ?_ | refine i_box rfl rfl ?_ | refine c_cond rfl (fun h => ?_) (fun h => ?_) | refine sf rfl rfl hK ?_ | refine sf rfl rfl hF ?_ | refine sf rfl rfl hM ?_ | refine sf rfl rfl hO ?_ | fail)
    all_goals clear hK hF hM hO hAt hAt2 hck hcov hC hgr hgh hv ho hf big
    all_goals first
     | (exfalso; simp at *; done)
     | (exfalso; simp at *; omega)
     | exact e_ret ⟨rfl, _, rfl, rfl⟩
     | exact e_ret ⟨rfl, _, rfl, congrArg V.bool (by simp)⟩
  · have hdi : d = INF := hd.uniq hL
    have hdb : (d == 1000000000) = true := by rw [hdi]; decide
    clear hdi hd hL hG
    refine Fn.step mixed k_T_TopEncodedTasksCostTheSame ?_
    repeat' (first | refine i_len rfl ?_ | refine i_s rfl ?_ | refine sw ?_ | refine i_gt rfl ?_ | refine i_gf rfl ?_ | refine c_t rfl ?_ | refine i_stb rfl ?_ | refine i_alloc rfl ?_ | refine i_box rfl rfl ?_ | refine c_cond rfl (fun h => ?_) (fun h => ?_) | refine sf rfl rfl hK ?_ | refine sf rfl rfl hF ?_ | refine sf rfl rfl hM ?_ | refine sf rfl rfl hO ?_ | fail)
    all_goals clear hK hF hM hO hAt hAt2 hck hcov hC hgr hgh hv ho hf big
    all_goals first
     | (exfalso; simp at *; done)
     | (exfalso; simp at *; omega)
     | exact e_ret ⟨rfl, _, rfl, rfl⟩
     | exact e_ret ⟨rfl, _, rfl, congrArg V.bool hdb.symm⟩
     | exact e_ret ⟨rfl, _, rfl, congrArg V.bool (by simp)⟩
 | true =>
  by_cases hmany : 40 < (opA cs t).length
  · exact big _ rfl (f_Multi t hv gs cs hck hcov hcl hcc hbig _ (fun h => by rw [hgo] at h; cases h) (fun _ _ => rfl) (fun _ h => by omega))
  have hfew : (opA cs t).length ≤ 40 := by omega
  have hM := f_Multi t hv gs cs hck hcov hcl hcc hbig _ (fun h => by rw [hgo] at h; cases h) (fun _ h => by omega) (fun _ _ => rfl)
  have hm := mOf_val hv hn hC hbig hfew
  have hmo := mv_ok hm
  have hmf := mFault_of hm
  have hG := (asgOk_iff hC).1 hgo
  have hB := enc_bis hv hn hgh hC hbig hfew hG
  have hsz : (mOf t cs).sizes = sizesF cs := rfl
  rw [← hsz] at hB
  generalize mOf t cs = m at *
  clear hsz
  rcases hO with ⟨_, hO⟩ | ⟨hst, d, hd, hO⟩
  · refine Fn.step mixed k_T_TopEncodedTasksCostTheSame ?_
    repeat' (first | refine i_len rfl ?_ | refine i_s rfl ?_ | refine sw ?_ | refine i_gt rfl ?_ | refine i_gf rfl ?_ | refine c_t rfl ?_ | refine c_f rfl ?_ | refine i_stb rfl ?_ | refine i_alloc rfl ?_ | refine i_box rfl rfl ?_ | refine c_cond rfl (fun h => ?_) (fun h => ?_) | refine sf rfl rfl hK ?_ | refine sf rfl rfl hF ?_ | refine sf rfl rfl hM ?_ | refine sf rfl rfl hO ?_ | refine sf rfl rfl hAt ?_ | fail)
    all_goals clear hK hF hM hO hAt hAt2 hck hcov hC hgr hgh hv ho hf big hB hm hmo hmf
    all_goals first
     | (exfalso; simp at *; done)
     | (exfalso; simp at *; omega)
     | exact e_ret ⟨rfl, _, rfl, rfl⟩
     | exact e_ret ⟨rfl, _, rfl, congrArg V.bool (by simp)⟩
  · by_cases hsm : sumL m.sizes ≤ 24
    · have hS := f_multi_Strips_ok m hmo hmf hsm
      have hv2 := mStrips_sv hm hsm
      have hB2 := hB hsm
      have hO2 : Fc PG 8 [skV (mStrips m)] (.tup [.int .i64 d, ftV okF]) := by
       cases hA : statesF (mStrips m) with
       | none => exact absurd (hB2.states.2 hA) hst
       | some l => exact f_space_Optimal_ok _ (sv_ok hv2) (sFault_of hv2) hA (hB2.least hB2.start hd)
      clear hB hB2 hv2 hm hmo hmf hd hst
      generalize mStrips m = u at *
      refine Fn.step mixed k_T_TopEncodedTasksCostTheSame ?_
      repeat' (first | refine i_len rfl ?_ | refine i_s rfl ?_ | refine sw ?_ | refine i_gt rfl ?_ | refine i_gf rfl ?_ | refine c_f rfl ?_ | refine i_stb rfl ?_ | refine i_alloc rfl ?_ | refine i_box rfl rfl ?_ | refine c_cond rfl (fun h => ?_) (fun h => ?_) | refine sf rfl rfl hK ?_ | refine sf rfl rfl hF ?_ | refine sf rfl rfl hM ?_ | refine sf rfl rfl hO ?_ | refine sf rfl rfl hS ?_ | refine sf rfl rfl hO2 ?_ | fail)
      all_goals clear hK hF hM hO hAt hAt2 hck hcov hC hgr hgh hv ho hf big hS hO2
      all_goals first
       | (exfalso; simp at *; done)
       | (exfalso; simp at *; omega)
       | exact e_ret ⟨rfl, _, rfl, rfl⟩
       | exact e_ret ⟨rfl, _, rfl, congrArg V.bool (by simp)⟩
    · have hS := f_multi_Strips_big m hmo hmf (by omega)
      clear hB hm hmo hmf hd hst
      refine Fn.step mixed k_T_TopEncodedTasksCostTheSame ?_
      repeat' (first | refine i_len rfl ?_ | refine i_s rfl ?_ | refine sw ?_ | refine i_gt rfl ?_ | refine i_gf rfl ?_ | refine c_t rfl ?_ | refine c_f rfl ?_ | refine i_stb rfl ?_ | refine i_alloc rfl ?_ | refine i_box rfl rfl ?_ | refine c_cond rfl (fun h => ?_) (fun h => ?_) | refine sf rfl rfl hK ?_ | refine sf rfl rfl hF ?_ | refine sf rfl rfl hM ?_ | refine sf rfl rfl hO ?_ | refine sf rfl rfl hS ?_ | refine sf rfl rfl hAt2 ?_ | fail)
      all_goals clear hK hF hM hO hAt hAt2 hck hcov hC hgr hgh hv ho hf big hS
      all_goals first
       | (exfalso; simp at *; done)
       | (exfalso; simp at *; omega)
       | exact e_ret ⟨rfl, _, rfl, rfl⟩
       | exact e_ret ⟨rfl, _, rfl, congrArg V.bool (by simp)⟩
end Hm
end
