/- Part Y4HA of the proof. -/
import Derived.Test.YtcafpbooikaahaaGreatYHA
import Derived.Test.YtcafpbooikaahaaGreatY4PA
import Derived.Shelf.Sort.Plain
set_option linter.unusedVariables false
set_option linter.unusedSimpArgs false
section
namespace Hm
open Go
theorem putRow_set (w : World) (b : Nat) (c : Array Value) (e : TypeId) (fr : Nat × Nat) (d : Array Int) (hb : w.heap[b]? = some (.cells c e fr)) :
    Sort.putRow (Value.int .i64) w b 0 d = w.setRow b (Sort.putCells (Value.int .i64) 0 d c) := by
  unfold Sort.putRow Sort.mapBlock World.setRow
  congr 1
  apply Array.ext_getElem?
  intro k
  simp only [Array.getElem?_modify]
  by_cases hk : b = k
  · subst hk
    simp [hb, Sort.onCells]
  · simp [hk]
theorem putCells_get (d : Array Int) (c : Array Value) (j : Nat) : (Sort.putCells (Value.int .i64) 0 d c)[j]? = (c[j]?).map fun x => if j < d.size then Value.int .i64 d[j]! else x := by
  unfold Sort.putCells
  rw [Array.getElem?_mapIdx]
  simp
theorem ct_sort {G : Type} {P : Program} {H : HT G} {ρ : Shelf.Ren} (Ly : Go.Proofs.Lays.n189 P ρ) (nm gen : Nat) (l : List Int) {pn : List Nat} {σ : Store} {g : G} (hw : wd nm = 1) (hσ : σ nm = .arr gen (l.map i64V)) (hpn : ∀ nm', nm' ∉ pn → σ nm' = .unused)
    (h0 : Fn P (ρ.f 189) [.sl .p []] (.tup [])) (hsz : l.length < 4611686018427387904) :
    CT P H (ρ.f 189) [.msl nm gen 0 l.length] pn σ g fun v σ' g' => v = .tup [] ∧ σ' = ups σ nm (.arr gen ((srtL l).map i64V)) ∧ g' = g := by
  by_cases hl : l = []
  · subst hl
    have := ct_of_fn (G := G) (H := H) (P := P) (f := ρ.f 189) (args := [.msl nm gen 0 0]) (r := .tup []) (pn := pn) (σ := σ) (g := g) (by simpa [er, hσ] using h0) rfl hpn
    refine CT_mono (fun v σ' g' h => ?_) this
    refine ⟨h.1, ?_, h.2.2⟩
    rw [h.2.1]
    exact (ups_same (by simpa [srtL] using hσ)).symm
  refine ⟨h0.1, fun J lc hst hM hH w S F θ xs hs hargs => ?_⟩
  obtain ⟨hlen, hrep⟩ := hargs
  match xs, hlen with
  | [x], _ =>
  have hx := hrep 0 _ x rfl rfl
  have hlen0 : 0 < l.length := List.length_pos_iff.2 hl
  obtain ⟨b, m, cap, hθ, hcap, rfl, hck, hle⟩ : ∃ b m cap, θ nm = some (b, m) ∧ l.length ≤ cap ∧ x = .slice (some ⟨b, 0 * m, none⟩) l.length cap ∧ CapOk w b ((0 + cap) * m) ∧ 0 + l.length ≤ (l.map i64V).length := by
    cases hx with
    | pure h => cases h
    | msl _ _ _ _ _ _ _ _ h =>
      rcases h _ hσ with h | ⟨h, _⟩
      · exact h
      · omega
  have hlv : (σ nm).live := live_arr hσ
  have hblk := hs.hblk nm
  rw [hσ] at hblk
  simp only [BlkOk] at hblk
  rcases hblk with ⟨hn, _⟩ | ⟨b', m', c, e, hθ', hb, hrows, ⟨hm, hsz'⟩, hcells⟩
  · rw [hθ] at hn; cases hn
  rw [hθ] at hθ'
  injection hθ' with hθ'
  injection hθ' with e1 e2
  subst e1 e2
  rw [hw] at hm
  subst hm
  have hgl : b < w.heap.size := (Array.getElem?_eq_some_iff.1 hb).1
  have hcs : l.length ≤ c.size := by simpa using hsz'
  have hcell : ∀ j (hj : j < l.length), c[j]? = some (.int .i64 l[j]) := by
    intro j hj
    obtain ⟨y, h1, h2⟩ := hcells j 0 (i64V l[j]) (i64V l[j]) (by rw [List.getElem?_map, List.getElem?_eq_getElem hj]; rfl) rfl
    cases h2
    simpa using h1
  have hH : Sort.Holds (Value.int .i64) w b 0 l.toArray := by
    intro j hj
    have hj' : j < l.length := by simpa using hj
    refine ⟨?_, ?_⟩
    · rw [Nat.zero_add, cell_of_row w b j c e (0, 0) hb, hcell j hj']
      simp [hj']
    · simp [World.frozen?, hb]
  have hcall := (callsIn_wide (n := 0)).2 (Go.Proofs.Any.slices_Sort_int Ly b 0 cap l w hH hgl hsz)
  simp only [Nat.zero_mul]
  refine hcall.mono fun en w' he' => ?_
  obtain ⟨rfl, n, os, rfl⟩ := he'
  have hg1 : Grow w (Sort.ahead w n) := ⟨Nat.le_refl _, rfl, rfl, ⟨rfl, by first | exact Nat.le_refl _ | exact Nat.le_add_right _ _ | (unfold Sort.ahead; simp)⟩, fun _ _ => rfl⟩
  have hs1 := St.grow hst hs hg1 (N := fun _ => False) (fun b hb => hb.elim) (fun b hb => hb.elim)
  have hf1 := Fr.grow hs hg1 (N := fun _ => False) (fun b hb => hb.elim)
  have hb1 : (Sort.ahead w n).heap[b]? = some (.cells c e (0, 0)) := hb
  have hsl : (srtL l).length = l.length := srtL_len l
  rw [show (l.mergeSort fun x y => decide (x ≤ y)) = srtL l from rfl, putRow_set _ b c e (0, 0) _ hb1]
  generalize hc' : Sort.putCells (Value.int .i64) 0 (srtL l).toArray c = c'
  have hcz : c'.size = c.size := by rw [← hc']; simp [Sort.putCells]
  have hf2 : Fr (Sort.ahead w n) (fun b => S b ∨ False) F θ σ ((Sort.ahead w n).setRow b c') (fun b => S b ∨ False) F θ (ups σ nm (.arr gen ((srtL l).map i64V))) := by
    refine Fr.write hs1 nm b 1 c c' e _ hlv hθ hb1 hcz ?_
    rw [hσ]
    exact ⟨(srtL l).map i64V, .inl ⟨rfl, by simp [hsl]⟩⟩
  have hk : BlkOk ((Sort.ahead w n).setRow b c') (fun b => S b ∨ False) θ (ups σ nm (.arr gen ((srtL l).map i64V))) lc nm (.arr gen ((srtL l).map i64V)) := by
    refine .inr ⟨b, 1, c', e, hθ, setRow_heap _ b c c' _ _ hb1, fun row hrow => ?_, ⟨hw.symm, by simp [hsl, hcz]; exact hcs⟩, fun i j row v h1 h2 => ?_⟩
    · obtain ⟨_, _, rfl⟩ := List.mem_map.1 hrow; rfl
    · rw [List.getElem?_map] at h1
      cases h3 : (srtL l)[i]? with
      | none => rw [h3] at h1; cases h1
      | some z =>
        rw [h3] at h1
        cases h1
        have hi : i < (srtL l).length := get_lt h3
        cases j with
        | succ j => cases h2
        | zero =>
          cases h2
          refine ⟨.int .i64 z, ?_, .int _ _⟩
          rw [Nat.mul_one, Nat.add_zero, ← hc', putCells_get, hcell i (by omega)]
          have h4 : i < l.length := by omega
          simp only [Option.map_some, List.size_toArray, hsl, if_pos h4]
          rw [getElem!_pos _ i (by simpa using hi)]
          simp [(List.getElem?_eq_some_iff.1 h3).2]
  have hs2 := St.write hst hs1 nm b 1 c' _ hlv hθ hf2 hk
  have hg3 : Grow ((Sort.ahead w n).setRow b c') (Sort.grow ((Sort.ahead w n).setRow b c') os) :=
    ⟨by simp [Sort.grow], rfl, rfl, ⟨rfl, by first | exact Nat.le_refl _ | (unfold Sort.grow; simp)⟩, fun b' hb' => by simp [Sort.grow, Array.getElem?_append_left hb']⟩
  have hs3 := St.grow hst hs2 hg3 (N := fun _ => False) (fun b hb => hb.elim) (fun b hb => hb.elim)
  have hf3 := Fr.grow hs2 hg3 (N := fun _ => False) (fun b hb => hb.elim)
  refine ⟨.tup [], _, _, g, _, F, θ, rfl, ⟨rfl, rfl, rfl⟩, hs3, .pure (.tup [] [] rfl fun i v x h1 h2 => by simp at h1), (hf1.trans hs1 hf2).trans hs2 hf3, fun nm' hnm => ?_⟩
  have h5 : nm' ≠ nm := fun h => by rw [h] at hnm; have := hpn nm hnm; rw [this] at hσ; cases hσ
  rw [upt_ne σ _ h5]
  exact hpn nm' hnm
end Hm
end
section
namespace Go.Proofs
open Go.Shelf
def Tryz.sort_ren : Go.Shelf.Ren := ⟨fun | 189 => 153 | 125 => 158 | 257 => 159 | 128 => 168 | 129 => 169 | 294 => 170 | 295 => 171 | 296 => 172 | 297 => 173 | 298 => 174 | 299 => 175 | 216 => 151 | 300 => 176 | 301 => 177 | 328 => 183 | 329 => 179 | 330 => 180 | 331 => 184 | 332 => 185 | 215 => 150 | 343 => 187 | n => n, fun | 28 => 39 | 3 => 3 | 46 => 192 | 0 => 0 | 51 => 207 | 53 => 209 | 4 => 4 | 183 => 201 | 182 => 200 | 131 => 177 | 5 => 5 | 9 => 9 | 218 => 215 | 222 => 219 | 228 => 223 | 229 => 224 | n => n, fun n => n⟩
theorem Tryz.sort_lays : Lays.n189 Tryz.prog Tryz.sort_ren :=
  {
    mixed := by kernel_rfl,
    f125 := Tryz.func158.trans (congrArg some (by kernel_rfl)),
    f128 := Tryz.func168.trans (congrArg some (by kernel_rfl)),
    f129 := Tryz.func169.trans (congrArg some (by kernel_rfl)),
    f189 := Tryz.func153.trans (congrArg some (by kernel_rfl)),
    f215 := Tryz.func150.trans (congrArg some (by kernel_rfl)),
    f216 := Tryz.func151.trans (congrArg some (by kernel_rfl)),
    f257 := Tryz.func159.trans (congrArg some (by kernel_rfl)),
    f294 := Tryz.func170.trans (congrArg some (by kernel_rfl)),
    f295 := Tryz.func171.trans (congrArg some (by kernel_rfl)),
    f296 := Tryz.func172.trans (congrArg some (by kernel_rfl)),
    f297 := Tryz.func173.trans (congrArg some (by kernel_rfl)),
    f298 := Tryz.func174.trans (congrArg some (by kernel_rfl)),
    f299 := Tryz.func175.trans (congrArg some (by kernel_rfl)),
    f300 := Tryz.func176.trans (congrArg some (by kernel_rfl)),
    f301 := Tryz.func177.trans (congrArg some (by kernel_rfl)),
    f328 := Tryz.func183.trans (congrArg some (by kernel_rfl)),
    f329 := Tryz.func179.trans (congrArg some (by kernel_rfl)),
    f330 := Tryz.func180.trans (congrArg some (by kernel_rfl)),
    f331 := Tryz.func184.trans (congrArg some (by kernel_rfl)),
    f332 := Tryz.func185.trans (congrArg some (by kernel_rfl)),
    f343 := Tryz.func187.trans (congrArg some (by kernel_rfl)),
    t0 := Tryz.underlying0,
    a0 := Tryz.isAgg0,
    z0 := Tryz.sizeOf0,
    v0 := Tryz.zeroValue0,
    t3 := Tryz.underlying3,
    a3 := Tryz.isAgg3,
    z3 := Tryz.sizeOf3,
    v3 := Tryz.zeroValue3,
    t4 := Tryz.underlying4,
    a4 := Tryz.isAgg4,
    z4 := Tryz.sizeOf4,
    v4 := Tryz.zeroValue4,
    t5 := Tryz.underlying5,
    a5 := Tryz.isAgg5,
    z5 := Tryz.sizeOf5,
    v5 := Tryz.zeroValue5,
    t9 := Tryz.underlying9,
    a9 := Tryz.isAgg9,
    z9 := Tryz.sizeOf9,
    v9 := Tryz.zeroValue9,
    t28 := Tryz.underlying39,
    a28 := Tryz.isAgg39,
    z28 := Tryz.sizeOf39,
    v28 := Tryz.zeroValue39,
    t46 := Tryz.underlying192,
    a46 := Tryz.isAgg192,
    z46 := Tryz.sizeOf192,
    v46 := Tryz.zeroValue192,
    t51 := Tryz.underlying207,
    a51 := Tryz.isAgg207,
    z51 := Tryz.sizeOf207,
    v51 := Tryz.zeroValue207,
    t53 := Tryz.underlying209,
    a53 := Tryz.isAgg209,
    z53 := Tryz.sizeOf209,
    v53 := Tryz.zeroValue209,
    t131 := Tryz.underlying177,
    a131 := Tryz.isAgg177,
    z131 := Tryz.sizeOf177,
    v131 := Tryz.zeroValue177,
    t182 := Tryz.underlying200,
    a182 := Tryz.isAgg200,
    z182 := Tryz.sizeOf200,
    v182 := Tryz.zeroValue200,
    t183 := Tryz.underlying201,
    a183 := Tryz.isAgg201,
    z183 := Tryz.sizeOf201,
    v183 := Tryz.zeroValue201,
    t218 := Tryz.underlying215,
    a218 := Tryz.isAgg215,
    z218 := Tryz.sizeOf215,
    v218 := Tryz.zeroValue215,
    t222 := Tryz.underlying219,
    a222 := Tryz.isAgg219,
    z222 := Tryz.sizeOf219,
    v222 := Tryz.zeroValue219,
    t228 := Tryz.underlying223,
    a228 := Tryz.isAgg223,
    z228 := Tryz.sizeOf223,
    v228 := Tryz.zeroValue223,
    t229 := Tryz.underlying224,
    a229 := Tryz.isAgg224,
    z229 := Tryz.sizeOf224,
    v229 := Tryz.zeroValue224 }
end Go.Proofs
namespace Hm
open Go
set_option maxRecDepth 100000
set_option maxHeartbeats 1000000
def c_slices_insertionSortOrdered_int : Cmd :=
 (qS [qm 8 1, qv 9 .add [] 8 1, qm 6 9]
 (.block 0 (.loop (qT (qS [qm 10 6, qm 11 2, qu 12 .lss [] 10 11]
 (.cond (.t 12) .skip (.exit 0)))
 (qT (.block 1 (qS [qm 15 6, qm 7 15]
 (.block 2 (.loop (qT (qS [qm 16 7, qm 17 1, qu 18 .gtr [] 16 17, qm 19 18, qg 20 19 true (.mov (.t 0)), qg 21 19 true (.mov (.t 7)), qg 22 19 true (.iaddr 1 (.t 20) (.t 21)), qg 23 19 true (.load false 1 (.t 22)), qg 24 19 true (.mov (.t 0)), qg 25 19 true (.mov (.t 7)), qg 26 19 true (.bin .sub false [] (.t 25) (.c (.int .i64 1))), qg 27 19 true (.iaddr 1 (.t 24) (.t 26)), qg 28 19 true (.load false 1 (.t 27)), qg 29 19 true (.call .f (.c (.fn 151 [])) [.t 23, .t 28]), qq 30 (.pick (.t 19) (.t 29) (.c (.bool false)))]
 (.cond (.t 30) .skip (.exit 2)))
 (qT (.block 3 (.ops [qm 33 0, qm 34 7, qm 35 0, qm 36 7, qv 37 .sub [] 36 1, qm 38 0, qm 39 7, qv 40 .sub [] 39 1, qi 41 1 38 40, ql 42 1 41, qm 43 0, qm 44 7, qi 45 1 43 44, ql 46 1 45, qi 47 1 33 34, qs 1 47 42, qi 48 1 35 37, qs 1 48 46]))
 (.ops [qm 31 7, qv 32 .sub [] 31 1, qm 7 32])))))))
 (.ops [qm 13 6, qv 14 .add [] 13 1, qm 6 14]))))))
def r_slices_insertionSortOrdered_int : List RVar := []
def n_slices_insertionSortOrdered_int : Nat := 49
theorem k_slices_insertionSortOrdered_int : chkFn Go.Proofs.Tryz.prog 170 n_slices_insertionSortOrdered_int r_slices_insertionSortOrdered_int c_slices_insertionSortOrdered_int = true := by kernel_rfl
theorem f_insertionSort_0 : Fc Go.Proofs.Tryz.prog 170 [.sl .p [], .int .i64 0, .int .i64 0] (.tup []) := by
  refine Fn.step mixed k_slices_insertionSortOrdered_int ?_
  repeat' (first | refine i_len rfl ?_ | refine i_s rfl ?_ | refine i_lenm rfl rfl rfl ?_ | refine sw ?_ | refine i_s0 rfl ?_ | refine i_gt rfl ?_ | refine i_gf rfl ?_ | refine i_gd rfl ?_ | refine c_t rfl ?_ | refine c_f rfl ?_ | refine jc rfl ?_ | refine ja rfl rfl ?_ | refine jb rfl rfl ?_ | refine jg rfl rfl ?_ | refine jf rfl rfl ?_ | refine jd rfl rfl ?_ | refine je rfl rfl ?_ | refine jh rfl rfl ?_ | refine i_stb rfl ?_ | refine i_alloc rfl ?_ | refine i_box rfl rfl ?_ | refine i_nv rfl ?_ | (refine sp ?_ ?_ <;> try intro h) | fail)
  refine c_lp (ι := Unit) (fun _ => [(0, .sl .p []), (1, .int .i64 0), (2, .int .i64 0), (6, .int .i64 1)]) (fun _ => []) (fun _ => True) (fun _ => 0) () trivial ft fun _ _ => ?_
  repeat' (first | refine i_len rfl ?_ | refine i_s rfl ?_ | refine i_lenm rfl rfl rfl ?_ | refine sw ?_ | refine i_s0 rfl ?_ | refine i_gt rfl ?_ | refine i_gf rfl ?_ | refine i_gd rfl ?_ | refine c_t rfl ?_ | refine c_f rfl ?_ | refine jc rfl ?_ | refine ja rfl rfl ?_ | refine jb rfl rfl ?_ | refine jg rfl rfl ?_ | refine jf rfl rfl ?_ | refine jd rfl rfl ?_ | refine je rfl rfl ?_ | refine jh rfl rfl ?_ | refine i_stb rfl ?_ | refine i_alloc rfl ?_ | refine i_box rfl rfl ?_ | refine i_nv rfl ?_ | (refine sp ?_ ?_ <;> try intro h) | fail)
  refine e_end ⟨rfl, _, rfl, rfl⟩
def c_slices_pdqsortOrdered_int : Cmd :=
 (qS [qb 8 true]
 (qS [qb 9 true]
 (.block 0 (.loop (.block 1 (qS [qm 19 2, qm 20 1, qu 21 .sub [] 19 20, qm 10 21]
 (qT (qS [qm 22 10, qv 23 .leq [] 22 12]
 (.cond (.t 23) (.seq (.ops [qm 24 0, qm 25 1, qm 26 2, qk 27 170 [24, 25, 26]]) .ret) .skip))
 (qT (qS [qm 28 3, qv 29 .eql [.i] 28 0]
 (.cond (.t 29) (.seq (.ops [qm 30 0, qm 31 1, qm 32 2, qk 33 171 [30, 31, 32]]) .ret) .skip))
 (qT (qS [qm 34 8, qq 35 (.not (.t 34))]
 (.cond (.t 35) (qS [qm 36 0, qm 37 1, qm 38 2, qk 39 172 [36, 37, 38]]
 (.ops [qm 40 3, qv 41 .sub [] 40 1, qm 3 41])) .skip))
 (qS [qm 43 0, qm 44 1, qm 45 2, qk 46 173 [43, 44, 45], qm 42 46, qq 47 (.extract (.t 42) 0), qq 48 (.extract (.t 42) 1), qm 11 47, qm 12 48]
 (qT (qS [qm 49 12, qv 50 .eql [.i] 49 2]
 (.cond (.t 50) (qS [qm 51 0, qm 52 1, qm 53 2, qk 54 174 [51, 52, 53]]
 (qS [qm 55 2, qv 56 .sub [] 55 1, qm 57 11, qm 58 1, qu 59 .sub [] 57 58, qu 60 .sub [] 56 59, qm 11 60]
 (.ops [qc 12 1]))) .skip))
 (qT (qS [qm 61 8, qm 62 61, qg 63 62 true (.mov (.t 9)), qq 64 (.pick (.t 62) (.t 63) (.c (.bool false))), qm 65 64, qg 66 65 true (.mov (.t 12)), qg 67 65 true (.bin .eql false [.i] (.t 66) (.c (.int .i64 1))), qq 68 (.pick (.t 65) (.t 67) (.c (.bool false)))]
 (.cond (.t 68) (qS [qm 69 0, qm 70 1, qm 71 2, qk 72 175 [69, 70, 71]]
 (.cond (.t 72) .ret .skip)) .skip))
 (qT (qS [qm 73 1, qv 74 .gtr [] 73 0, qm 75 74, qg 76 75 true (.mov (.t 0)), qg 77 75 true (.mov (.t 1)), qg 78 75 true (.bin .sub false [] (.t 77) (.c (.int .i64 1))), qg 79 75 true (.iaddr 1 (.t 76) (.t 78)), qg 80 75 true (.load false 1 (.t 79)), qg 81 75 true (.mov (.t 0)), qg 82 75 true (.mov (.t 11)), qg 83 75 true (.iaddr 1 (.t 81) (.t 82)), qg 84 75 true (.load false 1 (.t 83)), qg 85 75 true (.call .f (.c (.fn 151 [])) [.t 80, .t 84]), qg 86 75 true (.not (.t 85)), qq 87 (.pick (.t 75) (.t 86) (.c (.bool false)))]
 (.cond (.t 87) (qS [qm 88 0, qm 89 1, qm 90 2, qm 91 11, qk 92 176 [88, 89, 90, 91], qm 13 92]
 (qS [qm 93 13, qm 1 93]
 (.exit 1))) .skip))
 (qS [qm 95 0, qm 96 1, qm 97 2, qm 98 11, qk 99 177 [95, 96, 97, 98], qm 94 99, qq 100 (.extract (.t 94) 0), qq 101 (.extract (.t 94) 1), qm 14 100, qm 15 101]
 (qS [qm 102 15, qm 9 102]
 (qS [qm 103 14, qm 104 1, qu 105 .sub [] 103 104, qm 106 2, qm 107 14, qu 108 .sub [] 106 107, qm 16 105, qm 17 108]
 (qS [qm 109 10, qv 110 .quo [] 109 8, qm 18 110]
 (qS [qm 111 16, qm 112 17, qu 113 .lss [] 111 112]
 (.cond (.t 113) (qS [qm 114 16, qm 115 18, qu 116 .geq [] 114 115, qm 8 116]
 (qS [qm 117 0, qm 118 1, qm 119 14, qm 120 3, qk 121 159 [117, 118, 119, 120]]
 (.ops [qm 122 14, qv 123 .add [] 122 1, qm 1 123]))) (qS [qm 124 17, qm 125 18, qu 126 .geq [] 124 125, qm 8 126]
 (qS [qm 127 0, qm 128 14, qv 129 .add [] 128 1, qm 130 2, qm 131 3, qk 132 159 [127, 129, 130, 131]]
 (.ops [qm 133 14, qm 2 133]))))))))))))))))))))))
def r_slices_pdqsortOrdered_int : List RVar := []
def n_slices_pdqsortOrdered_int : Nat := 134
theorem k_slices_pdqsortOrdered_int : chkFn Go.Proofs.Tryz.prog 159 n_slices_pdqsortOrdered_int r_slices_pdqsortOrdered_int c_slices_pdqsortOrdered_int = true := by kernel_rfl
theorem f_pdqsort_0 : Fc Go.Proofs.Tryz.prog 159 [.sl .p [], .int .i64 0, .int .i64 0, .int .i64 0] (.tup []) := by
  refine Fn.step mixed k_slices_pdqsortOrdered_int ?_
  repeat' (first | refine i_len rfl ?_ | refine i_s rfl ?_ | refine i_lenm rfl rfl rfl ?_ | refine sw ?_ | refine i_s0 rfl ?_ | refine i_gt rfl ?_ | refine i_gf rfl ?_ | refine i_gd rfl ?_ | refine c_t rfl ?_ | refine c_f rfl ?_ | refine jc rfl ?_ | refine ja rfl rfl ?_ | refine jb rfl rfl ?_ | refine jg rfl rfl ?_ | refine jf rfl rfl ?_ | refine jd rfl rfl ?_ | refine je rfl rfl ?_ | refine jh rfl rfl ?_ | refine i_stb rfl ?_ | refine i_alloc rfl ?_ | refine i_box rfl rfl ?_ | refine i_nv rfl ?_ | (refine sp ?_ ?_ <;> try intro h) | fail)
  refine c_lp (ι := Unit) (fun _ => [(0, .sl .p []), (1, .int .i64 0), (2, .int .i64 0), (3, .int .i64 0)]) (fun _ => []) (fun _ => True) (fun _ => 0) () trivial ft fun _ _ => ?_
  repeat' (first | refine i_len rfl ?_ | refine i_s rfl ?_ | refine i_lenm rfl rfl rfl ?_ | refine sw ?_ | refine i_s0 rfl ?_ | refine i_gt rfl ?_ | refine i_gf rfl ?_ | refine i_gd rfl ?_ | refine c_t rfl ?_ | refine c_f rfl ?_ | refine jc rfl ?_ | refine ja rfl rfl ?_ | refine jb rfl rfl ?_ | refine jg rfl rfl ?_ | refine jf rfl rfl ?_ | refine jd rfl rfl ?_ | refine je rfl rfl ?_ | refine jh rfl rfl ?_ | refine i_stb rfl ?_ | refine i_alloc rfl ?_ | refine i_box rfl rfl ?_ | refine i_nv rfl ?_ | (refine sp ?_ ?_ <;> try intro h) | refine sf rfl rfl f_insertionSort_0 ?_ | fail)
  exact e_ret ⟨rfl, _, rfl, rfl⟩
def c_slices_Sort_int : Cmd :=
 (qS [qm 3 0, qn 4 3, qm 2 4]
 (.ops [qm 5 0, qm 6 2, qm 7 2, qq 8 (.conv .u64 (.t 7)), qk 9 158 [8], qq 10 (.call .f (.c (.fn 159 [])) [.t 5, .c (.int .i64 0), .t 6, .t 9])]))
def r_slices_Sort_int : List RVar := []
def n_slices_Sort_int : Nat := 11
theorem k_slices_Sort_int : chkFn Go.Proofs.Tryz.prog 153 n_slices_Sort_int r_slices_Sort_int c_slices_Sort_int = true := by kernel_rfl
theorem f_Sort_0 : Fc Go.Proofs.Tryz.prog 153 [.sl .p []] (.tup []) := by
  refine Fn.step mixed k_slices_Sort_int ?_
  repeat' (first | refine i_len rfl ?_ | refine i_s rfl ?_ | refine i_lenm rfl rfl rfl ?_ | refine sw ?_ | refine i_s0 rfl ?_ | refine i_gt rfl ?_ | refine i_gf rfl ?_ | refine i_gd rfl ?_ | refine c_t rfl ?_ | refine c_f rfl ?_ | refine jc rfl ?_ | refine ja rfl rfl ?_ | refine jb rfl rfl ?_ | refine jg rfl rfl ?_ | refine jf rfl rfl ?_ | refine jd rfl rfl ?_ | refine je rfl rfl ?_ | refine jh rfl rfl ?_ | refine i_stb rfl ?_ | refine i_alloc rfl ?_ | refine i_box rfl rfl ?_ | refine i_nv rfl ?_ | (refine sp ?_ ?_ <;> try intro h) | fail)
  refine i_conv (n := 0) rfl ⟨by decide, by decide⟩ ?_
  repeat' (first | refine i_len rfl ?_ | refine i_s rfl ?_ | refine i_lenm rfl rfl rfl ?_ | refine sw ?_ | refine i_s0 rfl ?_ | refine i_gt rfl ?_ | refine i_gf rfl ?_ | refine i_gd rfl ?_ | refine c_t rfl ?_ | refine c_f rfl ?_ | refine jc rfl ?_ | refine ja rfl rfl ?_ | refine jb rfl rfl ?_ | refine jg rfl rfl ?_ | refine jf rfl rfl ?_ | refine jd rfl rfl ?_ | refine je rfl rfl ?_ | refine jh rfl rfl ?_ | refine i_stb rfl ?_ | refine i_alloc rfl ?_ | refine i_box rfl rfl ?_ | refine i_nv rfl ?_ | (refine sp ?_ ?_ <;> try intro h) | refine sf rfl rfl f_bits_Len_0 ?_ | refine sf rfl rfl f_pdqsort_0 ?_ | fail)
  refine e_end ⟨rfl, _, rfl, rfl⟩
theorem c_Sort {G : Type} {H : HT G} (nm gen : Nat) (l : List Int) {pn : List Nat} {σ : Store} {g : G} (hw : wd nm = 1) (hσ : σ nm = .arr gen (l.map i64V)) (hpn : ∀ nm', σ nm' ≠ .unused → nm' ∈ pn) (hsz : l.length < 4611686018427387904) :
    Cc Go.Proofs.Tryz.prog H 153 [.msl nm gen 0 l.length] pn σ g fun v σ' g' => v = .tup [] ∧ σ' = ups σ nm (.arr gen ((srtL l).map i64V)) ∧ g' = g :=
  ⟨ct_sort (ρ := Go.Proofs.Tryz.sort_ren) Go.Proofs.Tryz.sort_lays nm gen l hw hσ (fun nm' h => Classical.byContradiction fun h' => h (hpn nm' h')) f_Sort_0.out hsz⟩
end Hm
end
section
namespace Hm
open Go
set_option maxRecDepth 100000
set_option maxHeartbeats 2000000
theorem dd_get {l : List Int} {m i : Nat} (hi : (ddK l m).length ≤ i) : (ddK l m ++ l.drop (ddK l m).length)[i]? = l[i]? := by
  rw [List.getElem?_append_right hi, List.getElem?_drop]
  congr 1
  omega
theorem dd_set {l : List Int} {m : Nat} {x : Int} (hd : (ddK l m).length < l.length) : (ddK l m ++ l.drop (ddK l m).length).set (ddK l m).length x = (ddK l m ++ [x]) ++ l.drop (ddK l m ++ [x]).length := by
  rw [List.set_append_right _ _ (Nat.le_refl _), Nat.sub_self]
  have : l.drop (ddK l m).length = l[(ddK l m).length] :: l.drop ((ddK l m).length + 1) := List.drop_eq_getElem_cons hd
  rw [this, List.set_cons_zero]
  simp
def c_slices_Compact_int : Cmd :=
 (qS [qq 2 (.mov (.c (.sl .nil [])))]
 (qT (qS [qm 6 0, qn 7 6, qv 8 .lss [] 7 2]
 (.cond (.t 8) (.seq (.ops [qm 9 0, qm 2 9]) .ret) .skip))
 (qT (qS [qc 3 1]
 (.block 0 (.loop (qT (qS [qm 10 3, qm 11 0, qn 12 11, qu 13 .lss [] 10 12]
 (.cond (.t 13) .skip (.exit 0)))
 (qT (.block 1 (qS [qm 16 0, qm 17 3, qi 18 1 16 17, ql 19 1 18, qm 20 0, qm 21 3, qv 22 .sub [] 21 1, qi 23 1 20 22, ql 24 1 23, qu 25 .eql [.i] 19 24]
 (.cond (.t 25) (qS [qm 26 0, qm 27 3, qq 28 (.slice false 1 (.t 26) (some (.t 27)) none), qm 4 28]
 (qT (qS [qc 5 1]
 (.block 2 (.loop (qT (qS [qm 29 5, qm 30 4, qn 31 30, qu 32 .lss [] 29 31]
 (.cond (.t 32) .skip (.exit 2)))
 (qT (.block 3 (qS [qm 35 4, qm 36 5, qi 37 1 35 36, ql 38 1 37, qm 39 4, qm 40 5, qv 41 .sub [] 40 1, qi 42 1 39 41, ql 43 1 42, qu 44 .neq [.i] 38 43]
 (.cond (.t 44) (qS [qm 45 0, qm 46 3, qm 47 4, qm 48 5, qi 49 1 47 48, ql 50 1 49, qi 51 1 45 46, qs 1 51 50]
 (.ops [qm 52 3, qv 53 .add [] 52 1, qm 3 53])) .skip)))
 (.ops [qm 33 5, qv 34 .add [] 33 1, qm 5 34]))))))
 (qS [qm 54 0, qm 55 3, qq 56 (.slice false 1 (.t 54) (some (.t 55)) none), .op none none (.clear 1 8 (.int .i64 0) (.t 56))]
 (.seq (.ops [qm 57 0, qm 58 3, qq 59 (.slice false 1 (.t 57) none (some (.t 58))), qm 2 59]) .ret)))) .skip)))
 (.ops [qm 14 3, qv 15 .add [] 14 1, qm 3 15]))))))
 (.seq (.ops [qm 60 0, qm 2 60]) .ret))))
def r_slices_Compact_int : List RVar := [.tmp 2]
def n_slices_Compact_int : Nat := 61
theorem k_slices_Compact_int : chkFn Go.Proofs.Tryz.prog 154 n_slices_Compact_int r_slices_Compact_int c_slices_Compact_int = true := by kernel_rfl
theorem c_Compact {G : Type} {H : HT G} (gen : Nat) (l : List Int) (hl : l.length ≤ 17592186044416) (σ : Store) (g : G) (hσ : σ 8576449 = .arr gen (l.map i64V)) (hp : ∀ nm, σ nm ≠ .unused → nm ∈ [8576449]) :
    Cc Go.Proofs.Tryz.prog H 154 [.msl 8576449 gen 0 l.length] [8576449] σ g fun v σ' g' => (∃ rows, v = .msl 8576449 gen 0 (compL l).length ∧ σ' = stOf [(8576449, .arr gen rows)] ∧ rows.take (compL l).length = (compL l).map i64V) ∧ g' = g := by
  refine CT.step _ mixed k_slices_Compact_int hp fun hM => ?_
  refine c_seq ?_
  refine c_ops ?_
  refine i_s rfl ?_
  refine i_nil ?_
  refine e_seq ?_
  refine c_cut [(0, .msl 8576449 gen 0 l.length)] [(8576449, .arr gen (l.map i64V))] ⟨⟨rfl, trivial⟩, ⟨hσ, trivial⟩, rfl⟩ ?_
  have fin : compL l = l → ∃ rows, V.msl 8576449 gen 0 l.length = .msl 8576449 gen 0 (compL l).length ∧ stOf [(8576449, .arr gen (l.map i64V))] = stOf [(8576449, .arr gen rows)] ∧ rows.take (compL l).length = (compL l).map i64V := fun e => ⟨l.map i64V, by rw [e], rfl, by rw [e, List.take_of_length_le (by simp)]⟩
  repeat (first | refine i_len rfl ?_ | refine i_s rfl ?_ | refine i_lenm rfl rfl rfl ?_ | refine sw ?_ | refine i_s0 rfl ?_ | refine i_gt rfl ?_ | refine i_gf rfl ?_ | refine i_gd rfl ?_ | refine c_t rfl ?_ | refine c_f rfl ?_ | refine jc rfl ?_ | refine ja rfl rfl ?_ | refine jb rfl rfl ?_ | refine jg rfl rfl ?_ | refine jf rfl rfl ?_ | refine jd rfl rfl ?_ | refine je rfl rfl ?_ | refine jh rfl rfl ?_ | refine i_stb rfl ?_ | refine i_alloc rfl ?_ | refine i_box rfl rfl ?_ | refine i_nv rfl ?_)
  refine c_cond rfl (fun h => ?_) (fun h => ?_)
  · have h2 : l.length < 2 := by have : (l.length : Int) < 2 := by simpa using h
                                 omega
    repeat (first | refine i_len rfl ?_ | refine i_s rfl ?_ | refine i_lenm rfl rfl rfl ?_ | refine sw ?_ | refine i_s0 rfl ?_ | refine i_gt rfl ?_ | refine i_gf rfl ?_ | refine i_gd rfl ?_ | refine c_t rfl ?_ | refine c_f rfl ?_ | refine jc rfl ?_ | refine ja rfl rfl ?_ | refine jb rfl rfl ?_ | refine jg rfl rfl ?_ | refine jf rfl rfl ?_ | refine jd rfl rfl ?_ | refine je rfl rfl ?_ | refine jh rfl rfl ?_ | refine i_stb rfl ?_ | refine i_alloc rfl ?_ | refine i_box rfl rfl ?_ | refine i_nv rfl ?_)
    refine e_ret ⟨rfl, _, rfl, rfl, rfl, ?_, rfl⟩
    rw [restr_stOf]
    exact fin (by unfold compL; rw [ddK_all _ (Nat.le_refl _) fun j h1 h3 => by omega, List.take_length])
  have h2 : 2 ≤ l.length := by have : ¬ (l.length : Int) < 2 := by simpa using h
                               omega
  clear h
  repeat (first | refine i_len rfl ?_ | refine i_s rfl ?_ | refine i_lenm rfl rfl rfl ?_ | refine sw ?_ | refine i_s0 rfl ?_ | refine i_gt rfl ?_ | refine i_gf rfl ?_ | refine i_gd rfl ?_ | refine c_t rfl ?_ | refine c_f rfl ?_ | refine jc rfl ?_ | refine ja rfl rfl ?_ | refine jb rfl rfl ?_ | refine jg rfl rfl ?_ | refine jf rfl rfl ?_ | refine jd rfl rfl ?_ | refine je rfl rfl ?_ | refine jh rfl rfl ?_ | refine i_stb rfl ?_ | refine i_alloc rfl ?_ | refine i_box rfl rfl ?_ | refine i_nv rfl ?_)
  refine c_lp (ι := Nat) (fun k => [(0, .msl 8576449 gen 0 l.length), (3, .int .i64 k)]) (fun _ => [(8576449, .arr gen (l.map i64V))]) (fun k => 1 ≤ k ∧ k ≤ l.length ∧ ∀ j, 0 < j → j < k → l[j]? ≠ l[j - 1]?) (fun k => l.length - k) 1 ⟨Nat.le_refl _, by omega, fun j h1 h2 => by omega⟩ ft fun k hi => ?_
  obtain ⟨k1, k2, k3⟩ := hi
  repeat (first | refine i_len rfl ?_ | refine i_s rfl ?_ | refine i_lenm rfl rfl rfl ?_ | refine sw ?_ | refine i_s0 rfl ?_ | refine i_gt rfl ?_ | refine i_gf rfl ?_ | refine i_gd rfl ?_ | refine c_t rfl ?_ | refine c_f rfl ?_ | refine jc rfl ?_ | refine ja rfl rfl ?_ | refine jb rfl rfl ?_ | refine jg rfl rfl ?_ | refine jf rfl rfl ?_ | refine jd rfl rfl ?_ | refine je rfl rfl ?_ | refine jh rfl rfl ?_ | refine i_stb rfl ?_ | refine i_alloc rfl ?_ | refine i_box rfl rfl ?_ | refine i_nv rfl ?_)
  refine c_cond rfl (fun h => ?_) (fun h => ?_)
  · have hlt : k < l.length := by have : (k : Int) < l.length := by simpa using h
                                  omega
    obtain ⟨x, hx⟩ := get_some hlt
    obtain ⟨y, hy⟩ := get_some (l := l) (k := k - 1) (by omega)
    clear h
    repeat (first | refine i_len rfl ?_ | refine i_s rfl ?_ | refine i_lenm rfl rfl rfl ?_ | refine sw ?_ | refine i_s0 rfl ?_ | refine i_gt rfl ?_ | refine i_gf rfl ?_ | refine i_gd rfl ?_ | refine c_t rfl ?_ | refine c_f rfl ?_ | refine jc rfl ?_ | refine ja rfl rfl ?_ | refine jb rfl rfl ?_ | refine jg rfl rfl ?_ | refine jf rfl rfl ?_ | refine jd rfl rfl ?_ | refine je rfl rfl ?_ | refine jh rfl rfl ?_ | refine i_stb rfl ?_ | refine i_alloc rfl ?_ | refine i_box rfl rfl ?_ | refine i_nv rfl ?_)
    refine i_ima rfl rfl rfl rfl (by omega) (by omega) rfl ?_
    refine i_ldp (row := i64V x) rfl rfl rfl (by simp [hx]) rfl ?_
    repeat (first | refine i_len rfl ?_ | refine i_s rfl ?_ | refine i_lenm rfl rfl rfl ?_ | refine sw ?_ | refine i_s0 rfl ?_ | refine i_gt rfl ?_ | refine i_gf rfl ?_ | refine i_gd rfl ?_ | refine c_t rfl ?_ | refine c_f rfl ?_ | refine jc rfl ?_ | refine ja rfl rfl ?_ | refine jb rfl rfl ?_ | refine jg rfl rfl ?_ | refine jf rfl rfl ?_ | refine jd rfl rfl ?_ | refine je rfl rfl ?_ | refine jh rfl rfl ?_ | refine i_stb rfl ?_ | refine i_alloc rfl ?_ | refine i_box rfl rfl ?_ | refine i_nv rfl ?_)
    refine i_ima rfl rfl rfl rfl (by omega) (by omega) rfl ?_
    refine i_ldp (row := i64V y) rfl rfl rfl (by rw [show 0 + ((k : Int) - 1).toNat = k - 1 from by omega]; simp [hy]) rfl ?_
    repeat (first | refine i_len rfl ?_ | refine i_s rfl ?_ | refine i_lenm rfl rfl rfl ?_ | refine sw ?_ | refine i_s0 rfl ?_ | refine i_gt rfl ?_ | refine i_gf rfl ?_ | refine i_gd rfl ?_ | refine c_t rfl ?_ | refine c_f rfl ?_ | refine jc rfl ?_ | refine ja rfl rfl ?_ | refine jb rfl rfl ?_ | refine jg rfl rfl ?_ | refine jf rfl rfl ?_ | refine jd rfl rfl ?_ | refine je rfl rfl ?_ | refine jh rfl rfl ?_ | refine i_stb rfl ?_ | refine i_alloc rfl ?_ | refine i_box rfl rfl ?_ | refine i_nv rfl ?_)
    refine c_cond rfl (fun h => ?_) (fun h => ?_)
    · have e : x = y := by simpa using h
      subst e
      clear h
      repeat (first | refine i_len rfl ?_ | refine i_s rfl ?_ | refine i_lenm rfl rfl rfl ?_ | refine sw ?_ | refine i_s0 rfl ?_ | refine i_gt rfl ?_ | refine i_gf rfl ?_ | refine i_gd rfl ?_ | refine c_t rfl ?_ | refine c_f rfl ?_ | refine jc rfl ?_ | refine ja rfl rfl ?_ | refine jb rfl rfl ?_ | refine jg rfl rfl ?_ | refine jf rfl rfl ?_ | refine jd rfl rfl ?_ | refine je rfl rfl ?_ | refine jh rfl rfl ?_ | refine i_stb rfl ?_ | refine i_alloc rfl ?_ | refine i_box rfl rfl ?_ | refine i_nv rfl ?_)
      refine i_sm rfl rfl rfl rfl (by omega) (by omega) rfl ?_
      repeat (first | refine i_len rfl ?_ | refine i_s rfl ?_ | refine i_lenm rfl rfl rfl ?_ | refine sw ?_ | refine i_s0 rfl ?_ | refine i_gt rfl ?_ | refine i_gf rfl ?_ | refine i_gd rfl ?_ | refine c_t rfl ?_ | refine c_f rfl ?_ | refine jc rfl ?_ | refine ja rfl rfl ?_ | refine jb rfl rfl ?_ | refine jg rfl rfl ?_ | refine jf rfl rfl ?_ | refine jd rfl rfl ?_ | refine je rfl rfl ?_ | refine jh rfl rfl ?_ | refine i_stb rfl ?_ | refine i_alloc rfl ?_ | refine i_box rfl rfl ?_ | refine i_nv rfl ?_)
      have e0 := ddK_all k (by omega) k3
      have e1 : ddK l (k + 1) = l.take k := by rw [ddK_skip hx (by omega) hy, e0]
      refine c_lp (ι := Nat) (fun j => [(0, .msl 8576449 gen 0 l.length), (3, .int .i64 (ddK l (k + j)).length), (4, .msl 8576449 gen (0 + k) (l.length - k)), (5, .int .i64 j)])
        (fun j => [(8576449, .arr gen ((ddK l (k + j) ++ l.drop (ddK l (k + j)).length).map i64V))]) (fun j => 1 ≤ j ∧ k + j ≤ l.length ∧ (ddK l (k + j)).length + 1 ≤ k + j) (fun j => l.length - j) 1 ⟨Nat.le_refl _, by omega, by rw [e1]; simp; omega⟩ ⟨⟨rfl, ?_, rfl, rfl, trivial⟩, ⟨?_, trivial⟩, rfl⟩ fun j hj => ?_
      · rw [e1, List.length_take, Nat.min_eq_left (by omega)]; rfl
      · rw [e1, List.length_take, Nat.min_eq_left (by omega), List.take_append_drop]; rfl
      obtain ⟨j1, j2, j3⟩ := hj
      have hdl := ddK_len l (k + j)
      have hAl : (ddK l (k + j) ++ l.drop (ddK l (k + j)).length).length = l.length := by simp; omega
      repeat (first | refine i_len rfl ?_ | refine i_s rfl ?_ | refine i_lenm rfl rfl rfl ?_ | refine sw ?_ | refine i_s0 rfl ?_ | refine i_gt rfl ?_ | refine i_gf rfl ?_ | refine i_gd rfl ?_ | refine c_t rfl ?_ | refine c_f rfl ?_ | refine jc rfl ?_ | refine ja rfl rfl ?_ | refine jb rfl rfl ?_ | refine jg rfl rfl ?_ | refine jf rfl rfl ?_ | refine jd rfl rfl ?_ | refine je rfl rfl ?_ | refine jh rfl rfl ?_ | refine i_stb rfl ?_ | refine i_alloc rfl ?_ | refine i_box rfl rfl ?_ | refine i_nv rfl ?_)
      refine c_cond rfl (fun h => ?_) (fun h => ?_)
      · have hlt2 : j < l.length - k := by have : (j : Int) < ((l.length - k : Nat) : Int) := by simpa using h
                                           omega
        obtain ⟨a, ha⟩ := get_some (l := l) (k := k + j) (by omega)
        obtain ⟨b, hb⟩ := get_some (l := l) (k := k + j - 1) (by omega)
        have ha' := ha
        rw [← dd_get (m := k + j) (by omega)] at ha'
        have hb' := hb
        rw [← dd_get (m := k + j) (by omega)] at hb'
        clear h
        repeat (first | refine i_len rfl ?_ | refine i_s rfl ?_ | refine i_lenm rfl rfl rfl ?_ | refine sw ?_ | refine i_s0 rfl ?_ | refine i_gt rfl ?_ | refine i_gf rfl ?_ | refine i_gd rfl ?_ | refine c_t rfl ?_ | refine c_f rfl ?_ | refine jc rfl ?_ | refine ja rfl rfl ?_ | refine jb rfl rfl ?_ | refine jg rfl rfl ?_ | refine jf rfl rfl ?_ | refine jd rfl rfl ?_ | refine je rfl rfl ?_ | refine jh rfl rfl ?_ | refine i_stb rfl ?_ | refine i_alloc rfl ?_ | refine i_box rfl rfl ?_ | refine i_nv rfl ?_)
        refine i_ima rfl rfl rfl rfl (by omega) (by omega) rfl ?_
        refine i_ldp (row := i64V a) rfl rfl rfl (by rw [show 0 + k + (j : Int).toNat = k + j from by omega, List.getElem?_map, ha']; rfl) rfl ?_
        repeat (first | refine i_len rfl ?_ | refine i_s rfl ?_ | refine i_lenm rfl rfl rfl ?_ | refine sw ?_ | refine i_s0 rfl ?_ | refine i_gt rfl ?_ | refine i_gf rfl ?_ | refine i_gd rfl ?_ | refine c_t rfl ?_ | refine c_f rfl ?_ | refine jc rfl ?_ | refine ja rfl rfl ?_ | refine jb rfl rfl ?_ | refine jg rfl rfl ?_ | refine jf rfl rfl ?_ | refine jd rfl rfl ?_ | refine je rfl rfl ?_ | refine jh rfl rfl ?_ | refine i_stb rfl ?_ | refine i_alloc rfl ?_ | refine i_box rfl rfl ?_ | refine i_nv rfl ?_)
        refine i_ima rfl rfl rfl rfl (by omega) (by omega) rfl ?_
        refine i_ldp (row := i64V b) rfl rfl rfl (by rw [show 0 + k + ((j : Int) - 1).toNat = k + j - 1 from by omega, List.getElem?_map, hb']; rfl) rfl ?_
        repeat (first | refine i_len rfl ?_ | refine i_s rfl ?_ | refine i_lenm rfl rfl rfl ?_ | refine sw ?_ | refine i_s0 rfl ?_ | refine i_gt rfl ?_ | refine i_gf rfl ?_ | refine i_gd rfl ?_ | refine c_t rfl ?_ | refine c_f rfl ?_ | refine jc rfl ?_ | refine ja rfl rfl ?_ | refine jb rfl rfl ?_ | refine jg rfl rfl ?_ | refine jf rfl rfl ?_ | refine jd rfl rfl ?_ | refine je rfl rfl ?_ | refine jh rfl rfl ?_ | refine i_stb rfl ?_ | refine i_alloc rfl ?_ | refine i_box rfl rfl ?_ | refine i_nv rfl ?_)
        refine c_cond rfl (fun h => ?_) (fun h => ?_)
        · have hne : a ≠ b := by simpa using h
          have ek : ddK l (k + (j + 1)) = ddK l (k + j) ++ [a] := ddK_keep (k := k + j) ha (.inr (by rw [hb]; simpa using fun e => hne e.symm))
          clear h
          repeat (first | refine i_len rfl ?_ | refine i_s rfl ?_ | refine i_lenm rfl rfl rfl ?_ | refine sw ?_ | refine i_s0 rfl ?_ | refine i_gt rfl ?_ | refine i_gf rfl ?_ | refine i_gd rfl ?_ | refine c_t rfl ?_ | refine c_f rfl ?_ | refine jc rfl ?_ | refine ja rfl rfl ?_ | refine jb rfl rfl ?_ | refine jg rfl rfl ?_ | refine jf rfl rfl ?_ | refine jd rfl rfl ?_ | refine je rfl rfl ?_ | refine jh rfl rfl ?_ | refine i_stb rfl ?_ | refine i_alloc rfl ?_ | refine i_box rfl rfl ?_ | refine i_nv rfl ?_)
          refine i_ima rfl rfl rfl rfl (by omega) (by omega) rfl ?_
          refine i_ldp (row := i64V a) rfl rfl rfl (by rw [show 0 + k + (j : Int).toNat = k + j from by omega, List.getElem?_map, ha']; rfl) rfl ?_
          repeat (first | refine i_len rfl ?_ | refine i_s rfl ?_ | refine i_lenm rfl rfl rfl ?_ | refine sw ?_ | refine i_s0 rfl ?_ | refine i_gt rfl ?_ | refine i_gf rfl ?_ | refine i_gd rfl ?_ | refine c_t rfl ?_ | refine c_f rfl ?_ | refine jc rfl ?_ | refine ja rfl rfl ?_ | refine jb rfl rfl ?_ | refine jg rfl rfl ?_ | refine jf rfl rfl ?_ | refine jd rfl rfl ?_ | refine je rfl rfl ?_ | refine jh rfl rfl ?_ | refine i_stb rfl ?_ | refine i_alloc rfl ?_ | refine i_box rfl rfl ?_ | refine i_nv rfl ?_)
          refine i_ima rfl rfl rfl rfl (by omega) (by omega) rfl ?_
          refine i_sti rfl rfl rfl rfl rfl (by rw [hAl]; omega) ?_
          repeat (first | refine i_len rfl ?_ | refine i_s rfl ?_ | refine i_lenm rfl rfl rfl ?_ | refine sw ?_ | refine i_s0 rfl ?_ | refine i_gt rfl ?_ | refine i_gf rfl ?_ | refine i_gd rfl ?_ | refine c_t rfl ?_ | refine c_f rfl ?_ | refine jc rfl ?_ | refine ja rfl rfl ?_ | refine jb rfl rfl ?_ | refine jg rfl rfl ?_ | refine jf rfl rfl ?_ | refine jd rfl rfl ?_ | refine je rfl rfl ?_ | refine jh rfl rfl ?_ | refine i_stb rfl ?_ | refine i_alloc rfl ?_ | refine i_box rfl rfl ?_ | refine i_nv rfl ?_)
          refine e_lp (j + 1) ⟨by omega, by omega, by rw [ek]; simp; omega⟩ (by omega) ⟨⟨rfl, ?_, rfl, rfl, trivial⟩, ⟨?_, trivial⟩, rfl⟩
          · rw [ek]; simp; rfl
          · have := dd_set (l := l) (m := k + j) (x := a) (by omega)
            rw [ek, ← this, show (ddK l (k + j)).length = 0 + ((ddK l (k + j)).length : Int).toNat from by omega]
            simp
            rfl
        · have he : a = b := by simpa using h
          subst he
          have ek : ddK l (k + (j + 1)) = ddK l (k + j) := ddK_skip (k := k + j) ha (by omega) hb
          clear h
          repeat (first | refine i_len rfl ?_ | refine i_s rfl ?_ | refine i_lenm rfl rfl rfl ?_ | refine sw ?_ | refine i_s0 rfl ?_ | refine i_gt rfl ?_ | refine i_gf rfl ?_ | refine i_gd rfl ?_ | refine c_t rfl ?_ | refine c_f rfl ?_ | refine jc rfl ?_ | refine ja rfl rfl ?_ | refine jb rfl rfl ?_ | refine jg rfl rfl ?_ | refine jf rfl rfl ?_ | refine jd rfl rfl ?_ | refine je rfl rfl ?_ | refine jh rfl rfl ?_ | refine i_stb rfl ?_ | refine i_alloc rfl ?_ | refine i_box rfl rfl ?_ | refine i_nv rfl ?_)
          refine e_lp (j + 1) ⟨by omega, by omega, by rw [ek]; omega⟩ (by omega) ⟨⟨rfl, ?_, rfl, rfl, trivial⟩, ⟨?_, trivial⟩, rfl⟩
          · rw [ek]; rfl
          · rw [ek]; rfl
      · have hje : k + j = l.length := by have : ¬ (j : Int) < ((l.length - k : Nat) : Int) := by simpa using h
                                          omega
        have ec : compL l = ddK l (k + j) := by unfold compL; rw [hje]
        clear fin
        clear h
        repeat (first | refine i_len rfl ?_ | refine i_s rfl ?_ | refine i_lenm rfl rfl rfl ?_ | refine sw ?_ | refine i_s0 rfl ?_ | refine i_gt rfl ?_ | refine i_gf rfl ?_ | refine i_gd rfl ?_ | refine c_t rfl ?_ | refine c_f rfl ?_ | refine jc rfl ?_ | refine ja rfl rfl ?_ | refine jb rfl rfl ?_ | refine jg rfl rfl ?_ | refine jf rfl rfl ?_ | refine jd rfl rfl ?_ | refine je rfl rfl ?_ | refine jh rfl rfl ?_ | refine i_stb rfl ?_ | refine i_alloc rfl ?_ | refine i_box rfl rfl ?_ | refine i_nv rfl ?_)
        refine i_sm rfl rfl rfl rfl (by omega) (by omega) rfl ?_
        refine i_clear rfl rfl rfl rfl ?_
        repeat (first | refine i_len rfl ?_ | refine i_s rfl ?_ | refine i_lenm rfl rfl rfl ?_ | refine sw ?_ | refine i_s0 rfl ?_ | refine i_gt rfl ?_ | refine i_gf rfl ?_ | refine i_gd rfl ?_ | refine c_t rfl ?_ | refine c_f rfl ?_ | refine jc rfl ?_ | refine ja rfl rfl ?_ | refine jb rfl rfl ?_ | refine jg rfl rfl ?_ | refine jf rfl rfl ?_ | refine jd rfl rfl ?_ | refine je rfl rfl ?_ | refine jh rfl rfl ?_ | refine i_stb rfl ?_ | refine i_alloc rfl ?_ | refine i_box rfl rfl ?_ | refine i_nv rfl ?_)
        refine i_smh rfl rfl rfl rfl rfl (by omega) (by omega) (by omega) rfl ?_
        repeat (first | refine i_len rfl ?_ | refine i_s rfl ?_ | refine i_lenm rfl rfl rfl ?_ | refine sw ?_ | refine i_s0 rfl ?_ | refine i_gt rfl ?_ | refine i_gf rfl ?_ | refine i_gd rfl ?_ | refine c_t rfl ?_ | refine c_f rfl ?_ | refine jc rfl ?_ | refine ja rfl rfl ?_ | refine jb rfl rfl ?_ | refine jg rfl rfl ?_ | refine jf rfl rfl ?_ | refine jd rfl rfl ?_ | refine je rfl rfl ?_ | refine jh rfl rfl ?_ | refine i_stb rfl ?_ | refine i_alloc rfl ?_ | refine i_box rfl rfl ?_ | refine i_nv rfl ?_)
        rw [ec]
        refine e_ret ⟨rfl, _, rfl, rfl, rfl, ⟨_, ?_, restr_stOf _ _, ?_⟩, rfl⟩
        · show V.msl _ _ _ _ = V.msl _ _ _ _
          simp
        · have e1 : (0 + ((ddK l (k + j)).length : Int).toNat) = (ddK l (k + j)).length := by omega
          rw [e1, List.append_assoc, List.take_append_of_le_length (by simp), List.take_take, Nat.min_self, ← List.map_take, List.take_append_of_le_length (Nat.le_refl _), List.take_length]
    · have hne : x ≠ y := by simpa using h
      clear h
      repeat (first | refine i_len rfl ?_ | refine i_s rfl ?_ | refine i_lenm rfl rfl rfl ?_ | refine sw ?_ | refine i_s0 rfl ?_ | refine i_gt rfl ?_ | refine i_gf rfl ?_ | refine i_gd rfl ?_ | refine c_t rfl ?_ | refine c_f rfl ?_ | refine jc rfl ?_ | refine ja rfl rfl ?_ | refine jb rfl rfl ?_ | refine jg rfl rfl ?_ | refine jf rfl rfl ?_ | refine jd rfl rfl ?_ | refine je rfl rfl ?_ | refine jh rfl rfl ?_ | refine i_stb rfl ?_ | refine i_alloc rfl ?_ | refine i_box rfl rfl ?_ | refine i_nv rfl ?_)
      refine e_lp (k + 1) ⟨by omega, by omega, fun j h1 h3 => ?_⟩ (by omega) ft
      by_cases e : j = k
      · subst e; rw [hx, hy]; simpa using hne
      · exact k3 j h1 (by omega)
  · have hke : k = l.length := by have : ¬ (k : Int) < l.length := by simpa using h
                                  omega
    subst hke
    repeat (first | refine i_len rfl ?_ | refine i_s rfl ?_ | refine i_lenm rfl rfl rfl ?_ | refine sw ?_ | refine i_s0 rfl ?_ | refine i_gt rfl ?_ | refine i_gf rfl ?_ | refine i_gd rfl ?_ | refine c_t rfl ?_ | refine c_f rfl ?_ | refine jc rfl ?_ | refine ja rfl rfl ?_ | refine jb rfl rfl ?_ | refine jg rfl rfl ?_ | refine jf rfl rfl ?_ | refine jd rfl rfl ?_ | refine je rfl rfl ?_ | refine jh rfl rfl ?_ | refine i_stb rfl ?_ | refine i_alloc rfl ?_ | refine i_box rfl rfl ?_ | refine i_nv rfl ?_)
    refine e_ret ⟨rfl, _, rfl, rfl, rfl, ?_, rfl⟩
    rw [restr_stOf]
    exact fin (by unfold compL; rw [ddK_all _ (Nat.le_refl _) k3, List.take_length])
theorem take_filter_succ {l : List Int} {p : Int → Bool} {k : Nat} {x : Int} (h : l[k]? = some x) : (l.take (k + 1)).filter p = (l.take k).filter p ++ (if p x = true then [x] else []) := by
  rw [take_succ_get h, List.filter_append]
  congr 1
  cases hx : p x <;> simp [List.filter, hx]
def c_strips_Update : Cmd :=
 (qS [qq 6 (.mov (.c (.sl .nil [])))]
 (qS [qq 7 (.newArr 8576449)]
 (qT (qS [qm 12 0, qn 13 12, qc 14 0]
 (.block 0 (.loop (qS [qu 15 .lss [] 14 13]
 (qT (.cond (.t 15) .skip (.exit 0))
 (qT (.block 1 (qS [qi 16 1 12 14, ql 17 1 16, qm 9 17]
 (qS [qm 19 2, qm 20 9, qk 21 133 [19, 20], qm 18 21, qq 22 (.extract (.t 18) 0), qq 23 (.extract (.t 18) 1), qm 10 22, qm 11 23]
 (qS [qm 24 11, qq 25 (.not (.t 24))]
 (.cond (.t 25) (.ops [qm 26 7, qm 27 9, qq 28 (.bsl 1 [.t 27]), qq 29 (.append 1 8 3 (.t 26) (.t 28)), qm 7 29]) .skip)))))
 (.ops [qv 30 .add [] 14 1, qm 14 30])))))))
 (qS [qm 31 7, qm 32 1, qq 33 (.append 1 8 3 (.t 31) (.t 32)), qm 7 33]
 (qS [qm 34 7, qq 35 (.call (.s [8576449]) (.c (.fn 153 [])) [.t 34])]
 (.seq (.ops [qm 36 7, qq 37 (.call (.s [8576449]) (.c (.fn 154 [])) [.t 36]), qm 6 37]) .ret))))))
def r_strips_Update : List RVar := [.tmp 6]
def n_strips_Update : Nat := 38
theorem k_strips_Update : chkFn Go.Proofs.Tryz.prog 134 n_strips_Update r_strips_Update c_strips_Update = true := by kernel_rfl
theorem f_strips_Update (s add del : List Int) (hs : s.length ≤ 17592186044) (ha : add.length ≤ 17592186044) (hd : del.length ≤ 17592186044) (hdel : SS del) :
    Fc Go.Proofs.Tryz.prog 134 [.sl .p (s.map i64V), .sl .p (add.map i64V), .sl .p (del.map i64V)] (.sl .p ((updL s add del).map i64V)) := by
  have hu : updL s add del = compL (srtL (s.filter (fun x => decide (x ∉ del)) ++ add)) := rfl
  rw [hu]
  generalize hp : (fun x => decide (x ∉ del)) = p
  refine Fn.step mixed k_strips_Update ?_
  repeat (first | refine i_len rfl ?_ | refine i_s rfl ?_ | refine i_lenm rfl rfl rfl ?_ | refine sw ?_ | refine i_s0 rfl ?_ | refine i_gt rfl ?_ | refine i_gf rfl ?_ | refine i_gd rfl ?_ | refine c_t rfl ?_ | refine c_f rfl ?_ | refine jc rfl ?_ | refine ja rfl rfl ?_ | refine jb rfl rfl ?_ | refine jg rfl rfl ?_ | refine jf rfl rfl ?_ | refine jd rfl rfl ?_ | refine je rfl rfl ?_ | refine jh rfl rfl ?_ | refine i_stb rfl ?_ | refine i_alloc rfl ?_ | refine i_box rfl rfl ?_ | refine i_nv rfl ?_)
  refine i_na rfl ?_
  repeat (first | refine i_len rfl ?_ | refine i_s rfl ?_ | refine i_lenm rfl rfl rfl ?_ | refine sw ?_ | refine i_s0 rfl ?_ | refine i_gt rfl ?_ | refine i_gf rfl ?_ | refine i_gd rfl ?_ | refine c_t rfl ?_ | refine c_f rfl ?_ | refine jc rfl ?_ | refine ja rfl rfl ?_ | refine jb rfl rfl ?_ | refine jg rfl rfl ?_ | refine jf rfl rfl ?_ | refine jd rfl rfl ?_ | refine je rfl rfl ?_ | refine jh rfl rfl ?_ | refine i_stb rfl ?_ | refine i_alloc rfl ?_ | refine i_box rfl rfl ?_ | refine i_nv rfl ?_)
  refine c_for s.length (fun k => [(1, .sl .p (add.map i64V)), (2, .sl .p (del.map i64V)), (7, .msl 8576449 ((s.take k).filter p).length 0 ((s.take k).filter p).length), (12, .sl .p (s.map i64V)), (13, .int .i64 s.length), (14, .int .i64 k)])
    (fun k => [(8576449, .arr ((s.take k).filter p).length (((s.take k).filter p).map i64V))]) (fun _ => True) trivial ft fun k hk _ => ?_
  have hfl : ((s.take k).filter p).length ≤ k := Nat.le_trans (List.length_filter_le _ _) (by simp; omega)
  repeat (first | refine i_len rfl ?_ | refine i_s rfl ?_ | refine i_lenm rfl rfl rfl ?_ | refine sw ?_ | refine i_s0 rfl ?_ | refine i_gt rfl ?_ | refine i_gf rfl ?_ | refine i_gd rfl ?_ | refine c_t rfl ?_ | refine c_f rfl ?_ | refine jc rfl ?_ | refine ja rfl rfl ?_ | refine jb rfl rfl ?_ | refine jg rfl rfl ?_ | refine jf rfl rfl ?_ | refine jd rfl rfl ?_ | refine je rfl rfl ?_ | refine jh rfl rfl ?_ | refine i_stb rfl ?_ | refine i_alloc rfl ?_ | refine i_box rfl rfl ?_ | refine i_nv rfl ?_)
  refine c_cond rfl (fun h => ?_) (fun h => ?_)
  · have hlt : k < s.length := by simpa using h
    obtain ⟨x, hx⟩ := get_some hlt
    have hB := f_BinarySearch del x (by omega) hdel
    have ef := take_filter_succ (p := p) hx
    have hpx : p x = !decide (x ∈ del) := by rw [← hp]; simp
    clear h
    repeat (first | refine i_len rfl ?_ | refine i_s rfl ?_ | refine i_lenm rfl rfl rfl ?_ | refine sw ?_ | refine i_s0 rfl ?_ | refine i_gt rfl ?_ | refine i_gf rfl ?_ | refine i_gd rfl ?_ | refine c_t rfl ?_ | refine c_f rfl ?_ | refine jc rfl ?_ | refine ja rfl rfl ?_ | refine jb rfl rfl ?_ | refine jg rfl rfl ?_ | refine jf rfl rfl ?_ | refine jd rfl rfl ?_ | refine je rfl rfl ?_ | refine jh rfl rfl ?_ | refine i_stb rfl ?_ | refine i_alloc rfl ?_ | refine i_box rfl rfl ?_ | refine i_nv rfl ?_ | refine sf rfl rfl hB ?_)
    refine c_cond rfl (fun h => ?_) (fun h => ?_)
    · rw [hpx, if_pos h] at ef
      repeat (first | refine i_len rfl ?_ | refine i_s rfl ?_ | refine i_lenm rfl rfl rfl ?_ | refine sw ?_ | refine i_s0 rfl ?_ | refine i_gt rfl ?_ | refine i_gf rfl ?_ | refine i_gd rfl ?_ | refine c_t rfl ?_ | refine c_f rfl ?_ | refine jc rfl ?_ | refine ja rfl rfl ?_ | refine jb rfl rfl ?_ | refine jg rfl rfl ?_ | refine jf rfl rfl ?_ | refine jd rfl rfl ?_ | refine je rfl rfl ?_ | refine jh rfl rfl ?_ | refine i_stb rfl ?_ | refine i_alloc rfl ?_ | refine i_box rfl rfl ?_ | refine i_nv rfl ?_)
      refine i_appmM [x] rfl rfl rfl rfl rfl (fun c hc => ⟨rfl, rfl⟩) (by simp; omega) (by simp; omega) ?_
      repeat (first | refine i_len rfl ?_ | refine i_s rfl ?_ | refine i_lenm rfl rfl rfl ?_ | refine sw ?_ | refine i_s0 rfl ?_ | refine i_gt rfl ?_ | refine i_gf rfl ?_ | refine i_gd rfl ?_ | refine c_t rfl ?_ | refine c_f rfl ?_ | refine jc rfl ?_ | refine ja rfl rfl ?_ | refine jb rfl rfl ?_ | refine jg rfl rfl ?_ | refine jf rfl rfl ?_ | refine jd rfl rfl ?_ | refine je rfl rfl ?_ | refine jh rfl rfl ?_ | refine i_stb rfl ?_ | refine i_alloc rfl ?_ | refine i_box rfl rfl ?_ | refine i_nv rfl ?_)
      refine e_for hlt trivial ⟨⟨rfl, rfl, ?_, rfl, rfl, rfl, trivial⟩, ⟨?_, trivial⟩, rfl⟩
      · rw [ef, List.length_append]; rfl
      · rw [ef, List.length_append]; rfl
    · rw [hpx, if_neg (by simpa using h), List.append_nil] at ef
      repeat (first | refine i_len rfl ?_ | refine i_s rfl ?_ | refine i_lenm rfl rfl rfl ?_ | refine sw ?_ | refine i_s0 rfl ?_ | refine i_gt rfl ?_ | refine i_gf rfl ?_ | refine i_gd rfl ?_ | refine c_t rfl ?_ | refine c_f rfl ?_ | refine jc rfl ?_ | refine ja rfl rfl ?_ | refine jb rfl rfl ?_ | refine jg rfl rfl ?_ | refine jf rfl rfl ?_ | refine jd rfl rfl ?_ | refine je rfl rfl ?_ | refine jh rfl rfl ?_ | refine i_stb rfl ?_ | refine i_alloc rfl ?_ | refine i_box rfl rfl ?_ | refine i_nv rfl ?_)
      refine e_for hlt trivial ⟨⟨rfl, rfl, ?_, rfl, rfl, rfl, trivial⟩, ⟨?_, trivial⟩, rfl⟩
      · rw [ef]; rfl
      · rw [ef]; rfl
  · have hge : k = s.length := by have : ¬ k < s.length := by simpa using h
                                  omega
    subst hge
    rw [List.take_length] at hfl ⊢
    clear h hk
    generalize s.filter p = F at *
    repeat (first | refine i_len rfl ?_ | refine i_s rfl ?_ | refine i_lenm rfl rfl rfl ?_ | refine sw ?_ | refine i_s0 rfl ?_ | refine i_gt rfl ?_ | refine i_gf rfl ?_ | refine i_gd rfl ?_ | refine c_t rfl ?_ | refine c_f rfl ?_ | refine jc rfl ?_ | refine ja rfl rfl ?_ | refine jb rfl rfl ?_ | refine jg rfl rfl ?_ | refine jf rfl rfl ?_ | refine jd rfl rfl ?_ | refine je rfl rfl ?_ | refine jh rfl rfl ?_ | refine i_stb rfl ?_ | refine i_alloc rfl ?_ | refine i_box rfl rfl ?_ | refine i_nv rfl ?_)
    refine i_appmM add rfl rfl rfl rfl rfl (fun c hc => ⟨rfl, rfl⟩) (by omega) (by omega) ?_
    refine i_s rfl ?_
    refine i_nil ?_
    refine e_seq ?_
    refine c_cut [(7, .msl 8576449 (F.length + 1) 0 (F ++ add).length)] [(8576449, .arr (F.length + 1) ((F ++ add).map i64V))] ft ?_
    have hla : (F ++ add).length ≤ 35184372088 := by simp; omega
    generalize F ++ add = L at *
    repeat (first | refine i_len rfl ?_ | refine i_s rfl ?_ | refine i_lenm rfl rfl rfl ?_ | refine sw ?_ | refine i_s0 rfl ?_ | refine i_gt rfl ?_ | refine i_gf rfl ?_ | refine i_gd rfl ?_ | refine c_t rfl ?_ | refine c_f rfl ?_ | refine jc rfl ?_ | refine ja rfl rfl ?_ | refine jb rfl rfl ?_ | refine jg rfl rfl ?_ | refine jf rfl rfl ?_ | refine jd rfl rfl ?_ | refine je rfl rfl ?_ | refine jh rfl rfl ?_ | refine i_stb rfl ?_ | refine i_alloc rfl ?_ | refine i_box rfl rfl ?_ | refine i_nv rfl ?_)
    refine i_c rfl rfl rfl (c_Sort 8576449 (F.length + 1) L rfl rfl (fun nm h => restr_mem nm h) (by omega)) ?_
    rintro _ _ _ ⟨rfl, rfl, rfl⟩
    refine i_nil ?_
    refine e_seq ?_
    refine c_cut [(7, .msl 8576449 (F.length + 1) 0 (srtL L).length)] [(8576449, .arr (F.length + 1) ((srtL L).map i64V))] ⟨⟨?_, trivial⟩, ⟨rfl, trivial⟩, rfl⟩ ?_
    · rw [srtL_len]; rfl
    repeat (first | refine i_len rfl ?_ | refine i_s rfl ?_ | refine i_lenm rfl rfl rfl ?_ | refine sw ?_ | refine i_s0 rfl ?_ | refine i_gt rfl ?_ | refine i_gf rfl ?_ | refine i_gd rfl ?_ | refine c_t rfl ?_ | refine c_f rfl ?_ | refine jc rfl ?_ | refine ja rfl rfl ?_ | refine jb rfl rfl ?_ | refine jg rfl rfl ?_ | refine jf rfl rfl ?_ | refine jd rfl rfl ?_ | refine je rfl rfl ?_ | refine jh rfl rfl ?_ | refine i_stb rfl ?_ | refine i_alloc rfl ?_ | refine i_box rfl rfl ?_ | refine i_nv rfl ?_)
    refine i_c rfl rfl rfl (c_Compact (F.length + 1) (srtL L) (by rw [srtL_len]; omega) _ _ rfl (fun nm h => restr_mem nm h)) ?_
    rintro _ _ _ ⟨⟨rows, rfl, rfl, hr⟩, rfl⟩
    repeat (first | refine i_len rfl ?_ | refine i_s rfl ?_ | refine i_lenm rfl rfl rfl ?_ | refine sw ?_ | refine i_s0 rfl ?_ | refine i_gt rfl ?_ | refine i_gf rfl ?_ | refine i_gd rfl ?_ | refine c_t rfl ?_ | refine c_f rfl ?_ | refine jc rfl ?_ | refine ja rfl rfl ?_ | refine jb rfl rfl ?_ | refine jg rfl rfl ?_ | refine jf rfl rfl ?_ | refine jd rfl rfl ?_ | refine je rfl rfl ?_ | refine jh rfl rfl ?_ | refine i_stb rfl ?_ | refine i_alloc rfl ?_ | refine i_box rfl rfl ?_ | refine i_nv rfl ?_)
    exact e_ret ⟨rfl, _, rfl, ((er_msl (rows := rows) (i := 0) (len := (compL (srtL L)).length) (n := 5) rfl).trans (by rw [List.drop_zero, hr])).symm⟩
def c_strips_Can : Cmd :=
 (qS [qx 3 6400196 4 0, qb 6 false]
 (.seq (.ops [qm 7 1, qf 8 3 3, ql 9 1 8, qm 10 2, qi 11 4 9 10, qf 12 0 11, ql 13 1 12, qk 14 102 [7, 13], qm 6 14]) .ret))
def r_strips_Can : List RVar := [.tmp 6]
def n_strips_Can : Nat := 15
theorem k_strips_Can : chkFn Go.Proofs.Tryz.prog 100 n_strips_Can r_strips_Can c_strips_Can = true := by kernel_rfl
theorem f_strips_Can (t : STask) (s : List Int) (hs : s.length ≤ 140737488355328) (hss : SS s) (op : Int) (h0 : 0 ≤ op) (o : SOp) (hc : t.ops[op.toNat]? = some o) (hl : o.pre.length ≤ 140737488355328) (hp : SS o.pre) : Fc Go.Proofs.Tryz.prog 100 [skV t, .sl .p (s.map i64V), .int .i64 op] (.bool (inclB o.pre s)) := by
  have h1 := f_strips_Contains s o.pre hs hl hss hp
  refine Fn.step mixed k_strips_Can ?_
  repeat' (first | refine i_len rfl ?_ | refine i_s rfl ?_ | refine i_lenm rfl rfl rfl ?_ | refine sw ?_ | refine i_s0 rfl ?_ | refine i_gt rfl ?_ | refine i_gf rfl ?_ | refine i_gd rfl ?_ | refine c_t rfl ?_ | refine c_f rfl ?_ | refine jc rfl ?_ | refine ja rfl rfl ?_ | refine jb rfl rfl ?_ | refine jg rfl rfl ?_ | refine jf rfl rfl ?_ | refine jd rfl rfl ?_ | refine je rfl rfl ?_ | refine jh rfl rfl ?_ | refine i_stb rfl ?_ | refine i_alloc rfl ?_ | refine i_box rfl rfl ?_ | refine i_nv rfl ?_ | (refine sp ?_ ?_ <;> try intro h) | refine sf rfl rfl h1 ?_ | fail)
  exact e_ret ⟨rfl, _, rfl, rfl⟩
def c_strips_Next : Cmd :=
 (qS [qx 3 6464196 4 0, qq 6 (.mov (.c (.sl .nil [])))]
 (qS [qf 8 3 3, ql 9 1 8, qm 10 2, qi 11 4 9 10, qL 12 4 11, qq 7 (.alloc 6464452 (.agg [.sl .nil [], .sl .nil [], .sl .nil [], .int .i64 0])), qs 4 7 12]
 (.seq (.ops [qm 13 1, qf 14 1 7, ql 15 1 14, qf 16 2 7, ql 17 1 16, qk 18 134 [13, 15, 17], qm 6 18]) .ret)))
def r_strips_Next : List RVar := [.tmp 6]
def n_strips_Next : Nat := 19
theorem k_strips_Next : chkFn Go.Proofs.Tryz.prog 101 n_strips_Next r_strips_Next c_strips_Next = true := by kernel_rfl
theorem f_strips_Next (t : STask) (s : List Int) (hs : s.length ≤ 17592186044) (op : Int) (h0 : 0 ≤ op) (o : SOp) (hc : t.ops[op.toNat]? = some o) (ha : o.add.length ≤ 17592186044) (hd : o.del.length ≤ 17592186044) (hdel : SS o.del) : Fc Go.Proofs.Tryz.prog 101 [skV t, .sl .p (s.map i64V), .int .i64 op] (.sl .p ((updL s o.add o.del).map i64V)) := by
  have h1 := f_strips_Update s o.add o.del hs ha hd hdel
  refine Fn.step mixed k_strips_Next ?_
  repeat' (first | refine i_len rfl ?_ | refine i_s rfl ?_ | refine i_lenm rfl rfl rfl ?_ | refine sw ?_ | refine i_s0 rfl ?_ | refine i_gt rfl ?_ | refine i_gf rfl ?_ | refine i_gd rfl ?_ | refine c_t rfl ?_ | refine c_f rfl ?_ | refine jc rfl ?_ | refine ja rfl rfl ?_ | refine jb rfl rfl ?_ | refine jg rfl rfl ?_ | refine jf rfl rfl ?_ | refine jd rfl rfl ?_ | refine je rfl rfl ?_ | refine jh rfl rfl ?_ | refine i_stb rfl ?_ | refine i_alloc rfl ?_ | refine i_box rfl rfl ?_ | refine i_nv rfl ?_ | (refine sp ?_ ?_ <;> try intro h) | refine sf rfl rfl h1 ?_ | fail)
  exact e_ret ⟨rfl, _, rfl, rfl⟩
def ssV (s : List Int) : V := .sl .p (s.map i64V)
theorem set_le {t : STask} (hv : SV t) {l : List Int} (h : IsSet t.facts l) : l.length ≤ 24 := by
  have := isSet_len h hv.f0
  have := hv.f1
  omega
def c_strips_Run : Cmd :=
 (qS [qx 3 3584196 4 0, qq 6 (.mov (.c (.sl .nil [])))]
 (qS [qm 10 1, qk 11 77 [10], qq 12 (.bslO 3584769 1 [.t 11]), qm 7 12]
 (qT (qS [qm 13 2, qn 14 13, qc 15 0]
 (.block 0 (.loop (qS [qu 16 .lss [] 15 14]
 (qT (.cond (.t 16) .skip (.exit 0))
 (qT (.block 1 (qS [qi 17 1 13 15, ql 18 1 17, qm 9 18]
 (qT (qS [qL 19 4 3, qm 20 1, qm 21 9, qk 22 100 [19, 20, 21], qq 23 (.not (.t 22))]
 (.cond (.t 23) (.exit 0) .skip))
 (qS [qL 24 4 3, qm 25 1, qm 26 9, qk 27 101 [24, 25, 26], qm 1 27]
 (.ops [qm 28 7, qm 29 1, qq 30 (.bsl 1 [.t 29]), qq 31 (.append 1 24 39 (.t 28) (.t 30)), qm 7 31])))))
 (.ops [qv 32 .add [] 15 1, qm 15 32])))))))
 (.seq (.ops [qm 33 7, qm 6 33]) .ret))))
def r_strips_Run : List RVar := [.tmp 6]
def n_strips_Run : Nat := 34
theorem k_strips_Run : chkFn Go.Proofs.Tryz.prog 56 n_strips_Run r_strips_Run c_strips_Run = true := by kernel_rfl
theorem f_strips_Run (t : STask) (hv : SV t) (s : List Int) (hs : IsSet t.facts s) (plan : List Int) (hl : plan.length ≤ 1000000) (hp : ∀ x ∈ plan, 0 ≤ x ∧ x < t.ops.length) : Fc Go.Proofs.Tryz.prog 56 [skV t, .sl .p (s.map i64V), .sl .p (plan.map i64V)] (.sl .p ((s :: runT t s plan).map ssV)) := by
  have hsl := set_le hv hs
  have hC := f_slices_Clone_int s (by omega)
  refine Fn.step mixed k_strips_Run ?_
  repeat (first | refine i_len rfl ?_ | refine i_s rfl ?_ | refine i_lenm rfl rfl rfl ?_ | refine sw ?_ | refine i_s0 rfl ?_ | refine i_gt rfl ?_ | refine i_gf rfl ?_ | refine i_gd rfl ?_ | refine c_t rfl ?_ | refine c_f rfl ?_ | refine jc rfl ?_ | refine ja rfl rfl ?_ | refine jb rfl rfl ?_ | refine jg rfl rfl ?_ | refine jf rfl rfl ?_ | refine jd rfl rfl ?_ | refine je rfl rfl ?_ | refine jh rfl rfl ?_ | refine i_stb rfl ?_ | refine i_alloc rfl ?_ | refine i_box rfl rfl ?_ | refine i_nv rfl ?_ | refine sf rfl rfl hC ?_)
  refine i_bslo rfl rfl rfl rfl ?_
  repeat (first | refine i_len rfl ?_ | refine i_s rfl ?_ | refine i_lenm rfl rfl rfl ?_ | refine sw ?_ | refine i_s0 rfl ?_ | refine i_gt rfl ?_ | refine i_gf rfl ?_ | refine i_gd rfl ?_ | refine c_t rfl ?_ | refine c_f rfl ?_ | refine jc rfl ?_ | refine ja rfl rfl ?_ | refine jb rfl rfl ?_ | refine jg rfl rfl ?_ | refine jf rfl rfl ?_ | refine jd rfl rfl ?_ | refine je rfl rfl ?_ | refine jh rfl rfl ?_ | refine i_stb rfl ?_ | refine i_alloc rfl ?_ | refine i_box rfl rfl ?_ | refine i_nv rfl ?_)
  refine c_lp (ι := Nat × List Int × List (List Int)) (fun i => [(1, .sl .p (i.2.1.map i64V)), (3, .bptr 3584196 0), (7, .sl (.own 3584769) (i.2.2.map ssV)), (13, .sl .p (plan.map i64V)), (14, .int .i64 plan.length), (15, .int .i64 i.1)])
    (fun i => [(3584196, .box (skV t)), (3584769, .vec i.2.2.length)])
    (fun i => i.1 ≤ plan.length ∧ i.2.2.length = i.1 + 1 ∧ IsSet t.facts i.2.1 ∧ i.2.2 ++ runT t i.2.1 (plan.drop i.1) = s :: runT t s plan) (fun i => plan.length - i.1) (0, s, [s]) ⟨Nat.zero_le _, rfl, hs, rfl⟩ ft fun i hi => ?_
  obtain ⟨k, u, acc⟩ := i
  obtain ⟨h1, h2, h3, h4⟩ := hi
  simp only at h1 h2 h3 h4
  have hul := set_le hv h3
  clear hC hs hsl
  repeat (first | refine i_len rfl ?_ | refine i_s rfl ?_ | refine i_lenm rfl rfl rfl ?_ | refine sw ?_ | refine i_s0 rfl ?_ | refine i_gt rfl ?_ | refine i_gf rfl ?_ | refine i_gd rfl ?_ | refine c_t rfl ?_ | refine c_f rfl ?_ | refine jc rfl ?_ | refine ja rfl rfl ?_ | refine jb rfl rfl ?_ | refine jg rfl rfl ?_ | refine jf rfl rfl ?_ | refine jd rfl rfl ?_ | refine je rfl rfl ?_ | refine jh rfl rfl ?_ | refine i_stb rfl ?_ | refine i_alloc rfl ?_ | refine i_box rfl rfl ?_ | refine i_nv rfl ?_)
  refine c_cond rfl (fun h => ?_) (fun h => ?_)
  · have hlt : k < plan.length := by simpa using h
    obtain ⟨x, hx⟩ := get_some hlt
    obtain ⟨x0, x1⟩ := hp x (mem_get hx)
    obtain ⟨o, hc⟩ := get_some (l := t.ops) (k := x.toNat) (by omega)
    have hoo := hv.op o (mem_get hc)
    have hC := f_strips_Can t u (by omega) h3.ss x x0 o hc (by have := set_le hv hoo.pre; omega) hoo.pre.ss
    have hN := f_strips_Next t u (by omega) x x0 o hc (by have := set_le hv hoo.add; omega) (by have := set_le hv hoo.del; omega) hoo.del.ss
    have ed : plan.drop k = x :: plan.drop (k + 1) := by
      obtain ⟨h5, h6⟩ := List.getElem?_eq_some_iff.1 hx
      rw [← h6]; exact List.drop_eq_getElem_cons hlt
    have hst := stepS_op (s := u) hc
    rw [ed] at h4
    simp only [runT, hst] at h4
    clear h
    cases hi : inclB o.pre u with
    | true =>
      rw [hi] at hC
      rw [hi, if_pos rfl] at h4
      repeat (first | refine i_len rfl ?_ | refine i_s rfl ?_ | refine i_lenm rfl rfl rfl ?_ | refine sw ?_ | refine i_s0 rfl ?_ | refine i_gt rfl ?_ | refine i_gf rfl ?_ | refine i_gd rfl ?_ | refine c_t rfl ?_ | refine c_f rfl ?_ | refine jc rfl ?_ | refine ja rfl rfl ?_ | refine jb rfl rfl ?_ | refine jg rfl rfl ?_ | refine jf rfl rfl ?_ | refine jd rfl rfl ?_ | refine je rfl rfl ?_ | refine jh rfl rfl ?_ | refine i_stb rfl ?_ | refine i_alloc rfl ?_ | refine i_box rfl rfl ?_ | refine i_nv rfl ?_ | refine sf rfl rfl hC ?_ | refine sf rfl rfl hN ?_)
      refine i_appM (f := ssV) (c := updL u o.add o.del) rfl rfl rfl rfl rfl (by dsimp only; omega) (by dsimp only; omega) ?_
      repeat (first | refine i_len rfl ?_ | refine i_s rfl ?_ | refine i_lenm rfl rfl rfl ?_ | refine sw ?_ | refine i_s0 rfl ?_ | refine i_gt rfl ?_ | refine i_gf rfl ?_ | refine i_gd rfl ?_ | refine c_t rfl ?_ | refine c_f rfl ?_ | refine jc rfl ?_ | refine ja rfl rfl ?_ | refine jb rfl rfl ?_ | refine jg rfl rfl ?_ | refine jf rfl rfl ?_ | refine jd rfl rfl ?_ | refine je rfl rfl ?_ | refine jh rfl rfl ?_ | refine i_stb rfl ?_ | refine i_alloc rfl ?_ | refine i_box rfl rfl ?_ | refine i_nv rfl ?_)
      exact e_lp (k + 1, updL u o.add o.del, acc ++ [updL u o.add o.del]) ⟨hlt, by simp [h2], updL_set h3 hoo.add, by simpa using h4⟩ (by simp only; omega) ⟨⟨rfl, rfl, rfl, rfl, rfl, rfl, trivial⟩, ⟨rfl, by simp; rfl, trivial⟩, rfl⟩
    | false =>
      rw [hi] at hC
      rw [hi, if_neg (by simp), List.append_nil] at h4
      repeat (first | refine i_len rfl ?_ | refine i_s rfl ?_ | refine i_lenm rfl rfl rfl ?_ | refine sw ?_ | refine i_s0 rfl ?_ | refine i_gt rfl ?_ | refine i_gf rfl ?_ | refine i_gd rfl ?_ | refine c_t rfl ?_ | refine c_f rfl ?_ | refine jc rfl ?_ | refine ja rfl rfl ?_ | refine jb rfl rfl ?_ | refine jg rfl rfl ?_ | refine jf rfl rfl ?_ | refine jd rfl rfl ?_ | refine je rfl rfl ?_ | refine jh rfl rfl ?_ | refine i_stb rfl ?_ | refine i_alloc rfl ?_ | refine i_box rfl rfl ?_ | refine i_nv rfl ?_ | refine sf rfl rfl hC ?_ | refine sf rfl rfl hN ?_)
      exact e_ret ⟨rfl, _, rfl, by rw [h4]; rfl⟩
  · have hge : k = plan.length := by have : ¬ k < plan.length := by simpa using h
                                     omega
    subst hge
    rw [List.drop_length] at h4
    simp only [runT, List.append_nil] at h4
    repeat (first | refine i_len rfl ?_ | refine i_s rfl ?_ | refine i_lenm rfl rfl rfl ?_ | refine sw ?_ | refine i_s0 rfl ?_ | refine i_gt rfl ?_ | refine i_gf rfl ?_ | refine i_gd rfl ?_ | refine c_t rfl ?_ | refine c_f rfl ?_ | refine jc rfl ?_ | refine ja rfl rfl ?_ | refine jb rfl rfl ?_ | refine jg rfl rfl ?_ | refine jf rfl rfl ?_ | refine jd rfl rfl ?_ | refine je rfl rfl ?_ | refine jh rfl rfl ?_ | refine i_stb rfl ?_ | refine i_alloc rfl ?_ | refine i_box rfl rfl ?_ | refine i_nv rfl ?_)
    exact e_ret ⟨rfl, _, rfl, by rw [h4]; rfl⟩
def playF (t : STask) (s plan : List Int) : Flt := if stFault t s = okF then (if stepsF t.ops.length plan = okF then (if (runT t s plan).length = plan.length then okF else ⟨11, (runT t s plan).length⟩) else stepsF t.ops.length plan) else stFault t s
def playL (t : STask) (s plan : List Int) : List (List Int) := if playF t s plan = okF then s :: runT t s plan else []
def c_strips_Play : Cmd :=
 (qS [qx 3 1280196 4 0, qq 6 (.mov (.c (.sl .nil []))), qq 7 (.alloc 1280450 (.agg [.int .i64 0, .int .i64 0]))]
 (qS [qL 10 4 3, qm 11 1, qk 12 54 [10, 11], qq 8 (.alloc 1280514 (.agg [.int .i64 0, .int .i64 0])), qs 2 8 12]
 (qT (qS [qL 13 2 8, qq 14 (.build [.int .i64 0, .int .i64 0] []), qq 15 (.bin .eql true [.i, .i] (.t 13) (.t 14))]
 (.cond (.t 15) (.ops [qf 16 3 3, ql 17 1 16, qn 18 17, qm 19 2, qk 20 55 [18, 19], qs 2 8 20]) .skip))
 (qT (qS [qL 21 2 8, qq 22 (.build [.int .i64 0, .int .i64 0] []), qq 23 (.bin .neq true [.i, .i] (.t 21) (.t 22))]
 (.cond (.t 23) (.seq (.ops [qL 24 2 8, qq 6 (.mov (.c (.sl .nil []))), qs 2 7 24]) .ret) .skip))
 (qS [qL 25 4 3, qm 26 1, qm 27 2, qk 28 56 [25, 26, 27], qm 9 28]
 (qT (qS [qm 29 9, qn 30 29, qm 31 2, qn 32 31, qu 33 .leq [] 30 32]
 (.cond (.t 33) (.seq (.ops [qm 34 9, qn 35 34, qv 36 .sub [] 35 1, qq 37 (.build [.int .i64 0, .int .i64 0] [(0 , 1 , .c (.int .i64 11)), (1 , 1 , .t 36)]), qq 6 (.mov (.c (.sl .nil []))), qs 2 7 37]) .ret) .skip))
 (.seq (.ops [qm 38 9, qq 39 (.build [.int .i64 0, .int .i64 0] []), qm 6 38, qs 2 7 39]) .ret)))))))
def r_strips_Play : List RVar := [.tmp 6, .cell true 2 7]
def n_strips_Play : Nat := 40
theorem k_strips_Play : chkFn Go.Proofs.Tryz.prog 20 n_strips_Play r_strips_Play c_strips_Play = true := by kernel_rfl
theorem f_strips_Play (t : STask) (ho : SkOk t) (s : List Int) (hs : s.length ≤ 140737488355328) (plan : List Int) (hl : plan.length ≤ 140737488355328) : Fc Go.Proofs.Tryz.prog 20 [skV t, .sl .p (s.map i64V), .sl .p (plan.map i64V)] (.tup [.sl .p ((playL t s plan).map ssV), ftV (playF t s plan)]) := by
  have hF := f_strips_StateFault t ho s hs
  have hS := f_strips_Steps t.ops.length plan hl
  have l5 := ho.o
  by_cases h1 : stFault t s = okF
  · rw [h1] at hF
    obtain ⟨hv, hss, _⟩ := stFault_ok h1
    by_cases h2 : stepsF t.ops.length plan = okF
    · rw [h2] at hS
      obtain ⟨h60, hr⟩ := stepsF_ok h2
      have hR := f_strips_Run t hv s hss plan (by omega) hr
      have hle := run_len_le t plan s
      by_cases h3 : (runT t s plan).length = plan.length
      · have e : playF t s plan = okF := by unfold playF; rw [if_pos h1, if_pos h2, if_pos h3]
        unfold playL
        rw [e, if_pos rfl]
        have hl2 : (s :: runT t s plan).length = plan.length + 1 := by simp [h3]
        generalize s :: runT t s plan = L at *
        refine Fn.step mixed k_strips_Play ?_
        repeat' (first | refine i_len rfl ?_ | refine i_s rfl ?_ | refine i_lenm rfl rfl rfl ?_ | refine sw ?_ | refine i_s0 rfl ?_ | refine i_gt rfl ?_ | refine i_gf rfl ?_ | refine i_gd rfl ?_ | refine c_t rfl ?_ | refine c_f rfl ?_ | refine jc rfl ?_ | refine ja rfl rfl ?_ | refine jb rfl rfl ?_ | refine jg rfl rfl ?_ | refine jf rfl rfl ?_ | refine jd rfl rfl ?_ | refine je rfl rfl ?_ | refine jh rfl rfl ?_ | refine i_stb rfl ?_ | refine i_alloc rfl ?_ | refine i_box rfl rfl ?_ | refine i_nv rfl ?_ | (refine sp ?_ ?_ <;> try intro h) | refine sf rfl rfl hF ?_ | refine sf rfl rfl hS ?_ | refine sf rfl rfl hR ?_ | fail)
        all_goals first
          | exact e_ret ⟨rfl, _, rfl, rfl⟩
          | (exfalso; clear hF hS hR ho hv hss; simp at *; omega)
      · have e : playF t s plan = ⟨11, (runT t s plan).length⟩ := by unfold playF; rw [if_pos h1, if_pos h2, if_neg h3]
        unfold playL
        rw [e, if_neg (by simp [okF])]
        have hl2 : (s :: runT t s plan).length = (runT t s plan).length + 1 := by simp
        generalize hR2 : (runT t s plan).length = rl at *
        generalize s :: runT t s plan = L at *
        refine Fn.step mixed k_strips_Play ?_
        repeat' (first | refine i_len rfl ?_ | refine i_s rfl ?_ | refine i_lenm rfl rfl rfl ?_ | refine sw ?_ | refine i_s0 rfl ?_ | refine i_gt rfl ?_ | refine i_gf rfl ?_ | refine i_gd rfl ?_ | refine c_t rfl ?_ | refine c_f rfl ?_ | refine jc rfl ?_ | refine ja rfl rfl ?_ | refine jb rfl rfl ?_ | refine jg rfl rfl ?_ | refine jf rfl rfl ?_ | refine jd rfl rfl ?_ | refine je rfl rfl ?_ | refine jh rfl rfl ?_ | refine i_stb rfl ?_ | refine i_alloc rfl ?_ | refine i_box rfl rfl ?_ | refine i_nv rfl ?_ | (refine sp ?_ ?_ <;> try intro h) | refine sf rfl rfl hF ?_ | refine sf rfl rfl hS ?_ | refine sf rfl rfl hR ?_ | fail)
        all_goals first
          | (refine e_ret ⟨rfl, _, rfl, ?_⟩
             show _ = V.tup [.sl .p [], .agg [.int .i64 11, .int .i64 ((L.length : Int) - 1)]]
             rw [show ((L.length : Int) - 1) = rl from by omega]
             rfl)
          | (exfalso; clear hF hS hR ho hv hss; simp at *; omega)
    · have e : playF t s plan = stepsF t.ops.length plan := by unfold playF; rw [if_pos h1, if_neg h2]
      unfold playL
      rw [e, if_neg h2]
      refine Fn.step mixed k_strips_Play ?_
      repeat' (first | refine i_len rfl ?_ | refine i_s rfl ?_ | refine i_lenm rfl rfl rfl ?_ | refine sw ?_ | refine i_s0 rfl ?_ | refine i_gt rfl ?_ | refine i_gf rfl ?_ | refine i_gd rfl ?_ | refine c_t rfl ?_ | refine c_f rfl ?_ | refine jc rfl ?_ | refine ja rfl rfl ?_ | refine jb rfl rfl ?_ | refine jg rfl rfl ?_ | refine jf rfl rfl ?_ | refine jd rfl rfl ?_ | refine je rfl rfl ?_ | refine jh rfl rfl ?_ | refine i_stb rfl ?_ | refine i_alloc rfl ?_ | refine i_box rfl rfl ?_ | refine i_nv rfl ?_ | (refine sp ?_ ?_ <;> try intro h) | refine sf rfl rfl hF ?_ | refine sf rfl rfl hS ?_ | fail)
      · exact e_ret ⟨rfl, _, rfl, rfl⟩
      all_goals exact absurd (eq_ok (by assumption)) h2
  · have e : playF t s plan = stFault t s := by unfold playF; rw [if_neg h1]
    unfold playL
    rw [e, if_neg h1]
    refine Fn.step mixed k_strips_Play ?_
    repeat' (first | refine i_len rfl ?_ | refine i_s rfl ?_ | refine i_lenm rfl rfl rfl ?_ | refine sw ?_ | refine i_s0 rfl ?_ | refine i_gt rfl ?_ | refine i_gf rfl ?_ | refine i_gd rfl ?_ | refine c_t rfl ?_ | refine c_f rfl ?_ | refine jc rfl ?_ | refine ja rfl rfl ?_ | refine jb rfl rfl ?_ | refine jg rfl rfl ?_ | refine jf rfl rfl ?_ | refine jd rfl rfl ?_ | refine je rfl rfl ?_ | refine jh rfl rfl ?_ | refine i_stb rfl ?_ | refine i_alloc rfl ?_ | refine i_box rfl rfl ?_ | refine i_nv rfl ?_ | (refine sp ?_ ?_ <;> try intro h) | refine sf rfl rfl hF ?_ | refine sf rfl rfl hS ?_ | fail)
    all_goals first
      | exact e_ret ⟨rfl, _, rfl, rfl⟩
      | exact absurd (eq_ok' (by assumption)) h1
      | exact absurd (eq_ok (by assumption)) h1
end Hm
end
section
namespace Hm
open Go
set_option maxRecDepth 100000
set_option maxHeartbeats 4000000
structure GrOk (g : Grd) : Prop where
  sk : SkOk g.task
  f : GFOk g.facts
  n : g.insts.length ≤ 1000000
  a : ∀ i ∈ g.insts, i.2.length ≤ 1000
theorem grZ_ok : GrOk grZ := by
  refine ⟨⟨by simp [grZ, skZ], by simp [grZ, skZ], by simp [grZ, skZ], fun o ho => by simp [grZ, skZ] at ho⟩, ⟨by simp [grZ], fun x hx => by simp [grZ] at hx⟩, by simp [grZ], fun i hi => by simp [grZ] at hi⟩
theorem nums_len (F l : List Lit) : (nums F l).length ≤ F.length := selK_len _ _
theorem buildG_ok {d : Dom} {F : List Lit} {L : List Ac} (hF : GFOk F) (hL : L.length ≤ 1000000) (ha : ∀ a ∈ L, a.args.length ≤ 1000) : GrOk (buildG d F L) := by
  unfold buildG
  split
  · exact grZ_ok
  · have := hF.len
    refine ⟨⟨?_, ?_, ?_, fun o ho => ?_⟩, hF, by simpa [grdOf] using hL, fun i hi => ?_⟩
    · have h := selK_len (trueAt d F) F.length
      show (initOf d F).length ≤ _
      unfold initOf
      omega
    · have h := nums_len F d.goal
      show (nums F d.goal).length ≤ _
      omega
    · simp only [grdOf, List.length_map]; omega
    · simp only [grdOf, List.mem_map] at ho
      obtain ⟨a, h1, rfl⟩ := ho
      have q1 := nums_len F a.pre
      have q2 := nums_len F a.add
      have q3 := nums_len F a.del
      simp only [opOf]
      exact ⟨by omega, by omega, by omega⟩
    · simp only [grdOf, List.mem_map] at hi
      obtain ⟨a, h1, rfl⟩ := hi
      exact ha a h1
theorem actsP_args {d : Dom} (hd : DomV d) {a : Ac} (h : a ∈ actsP d) : a.args.length ≤ 1000 := by
  obtain ⟨i, s, args, n, hs, hl, _, _, rfl⟩ := actsP_mem h
  have := (argL_rng hl).1
  have := (schV2_of hd hs).val.types.1
  simp only
  omega
theorem fuG_ok (d : Dom) : GrOk (fuG d) := by
  unfold fuG
  split
  · rename_i h
    have hd := domV_of (atF_dom h).1
    exact buildG_ok (factL_ok hd) (by have := actsP_len hd; omega) (fun a ha => actsP_args hd ha)
  · exact grZ_ok
theorem buildG_valid {d : Dom} (hd : DomV d) {F : List Lit} {L : List Ac} (h : (buildF F L).code = 0) (ha : ∀ a ∈ L, a ∈ actsP d) : SV (buildG d F L).task ∧ bigG F L = false := by
  have hb : bigG F L = false := by
    cases hb : bigG F L with
    | false => rfl
    | true => unfold buildF at h; rw [if_pos hb] at h; cases h
  unfold buildG
  rw [if_neg (by rw [hb]; simp)]
  exact ⟨grd_valid (doVal_of hd) hb ha, hb⟩
theorem fu_valid {d : Dom} (h : (fuF d).code = 0) : atF d = okF ∧ SV (fuG d).task ∧ bigG (factL d) (actsP d) = false := by
  have ha : atF d = okF := Classical.byContradiction fun h' => by
    unfold fuF at h; rw [if_neg h'] at h; exact atF_code h' h
  have hd := domV_of (atF_dom ha).1
  unfold fuF at h
  rw [if_pos ha] at h
  unfold fuG
  rw [if_pos ha]
  exact ⟨ha, buildG_valid hd h (fun a h => h)⟩
theorem fu_eq {d : Dom} (h : (fuF d).code = 0) : fuG d = fullT d := by
  obtain ⟨h1, _, h2⟩ := fu_valid h
  unfold fuG buildG
  rw [if_pos h1, if_neg (by rw [h2]; simp)]
  rfl
theorem fu_none {d : Dom} (h : (fuF d).code ≠ 0) : (fuG d).facts = [] := by
  unfold fuG
  split
  · rename_i ha
    unfold fuF at h
    rw [if_pos ha] at h
    unfold buildG
    split
    · rfl
    · rename_i hb
      unfold buildF at h
      rw [if_neg hb] at h
      exact absurd rfl h
  · rfl
theorem playF_okG {t : STask} {s plan : List Int} (h : playF t s plan = okF) : stFault t s = okF ∧ stepsF t.ops.length plan = okF ∧ ∃ e, endS t s plan = some e := by
  unfold playF at h
  split at h
  · rename_i h1
    split at h
    · rename_i h2
      split at h
      · rename_i h3
        exact ⟨h1, h2, Option.isSome_iff_exists.1 ((run_len_eq t plan s).1 h3)⟩
      · cases h
    · rename_i h2; exact absurd h h2
  · rename_i h1; exact absurd h h1
theorem playF_codeG {t : STask} {s plan : List Int} (h : (playF t s plan).code = 0) : playF t s plan = okF := by
  unfold playF at h ⊢
  split
  · rename_i h1
    rw [if_pos h1] at h
    split
    · rename_i h2
      rw [if_pos h2] at h
      split
      · rfl
      · rename_i h3
        rw [if_neg h3] at h
        cases h
    · rename_i h2
      rw [if_neg h2] at h
      exact (stepsF_iff _ _).1 h
  · rename_i h1
    rw [if_neg h1] at h
    exact (stFault_iff _ _).1 h
def c_L1_GroundLiteralsExclude : Cmd :=
 (qS [qx 2 384134 6 0, qb 4 false]
 (qT (qS [qk 12 10 [], qq 13 (.not (.t 12))]
 (.cond (.t 13) (.seq (.ops [qb 4 false]) .ret) .skip))
 (qS [qL 15 6 2, qk 16 13 [15], qm 14 16, qq 17 (.extract (.t 14) 0), qq 18 (.extract (.t 14) 1), qq 5 (.alloc 384326 (.agg [.int .i64 0, .sl .nil [], .sl .nil [], .sl .nil [], .sl .nil [], .sl .nil []])), qq 6 (.alloc 384386 (.agg [.int .i64 0, .int .i64 0])), qs 6 5 17, qs 2 6 18]
 (qT (qS [qf 19 0 6, ql 20 1 19, qv 21 .neq [.i] 20 0]
 (.cond (.t 21) (.seq (.ops [qf 22 4 5, ql 23 1 22, qn 24 23, qv 25 .eql [.i] 24 0, qm 4 25]) .ret) .skip))
 (qS [qf 27 0 5, qL 28 4 27, qf 29 0 5, qf 30 1 29, ql 31 1 30, qm 32 1, qk 33 20 [28, 31, 32], qm 26 33, qq 34 (.extract (.t 26) 0), qq 35 (.extract (.t 26) 1), qq 8 (.alloc 384514 (.agg [.int .i64 0, .int .i64 0])), qm 7 34, qs 2 8 35]
 (qT (qS [qf 36 0 8, ql 37 1 36, qv 38 .neq [.i] 37 0, qm 39 38, qg 40 39 false (.mov (.t 7)), qg 41 39 false (.len false (.t 40)), qg 42 39 false (.bin .eql false [.i] (.t 41) (.c (.int .i64 0))), qq 43 (.pick (.t 39) (.c (.bool true)) (.t 42))]
 (.cond (.t 43) (.seq (.ops [qf 44 0 8, ql 45 1 44, qv 46 .neq [.i] 45 0, qm 47 46, qg 48 47 true (.mov (.t 7)), qg 49 47 true (.len false (.t 48)), qg 50 47 true (.bin .eql false [.i] (.t 49) (.c (.int .i64 0))), qq 51 (.pick (.t 47) (.t 50) (.c (.bool false))), qm 4 51]) .ret) .skip))
 (qS [qm 52 7, qm 53 7, qn 54 53, qv 55 .sub [] 54 1, qi 56 1 52 55, ql 57 1 56, qm 9 57]
 (qT (qS [qc 10 0]
 (.block 0 (.loop (qT (qS [qm 58 10, qf 59 4 5, ql 60 1 59, qn 61 60, qu 62 .lss [] 58 61]
 (.cond (.t 62) .skip (.exit 0)))
 (qT (.block 1 (qS [qc 11 0]
 (.block 2 (.loop (qT (qS [qm 65 11, qf 66 4 5, ql 67 1 66, qn 68 67, qu 69 .lss [] 65 68]
 (.cond (.t 69) .skip (.exit 2)))
 (qT (.block 3 (qS [qf 72 4 5, ql 73 1 72, qm 74 10, qi 75 3 73 74, qL 76 3 75, qf 77 4 5, ql 78 1 77, qm 79 11, qi 80 3 78 79, qL 81 3 80, qk 82 21 [81], qk 83 19 [76, 82], qv 84 .eql [.i] 83 0, qm 85 84, qg 86 85 true (.mov (.t 9)), qg 87 85 true (.mov (.t 10)), qg 88 85 true (.call .f (.c (.fn 22 [])) [.t 86, .t 87]), qg 89 85 true (.mov (.t 9)), qg 90 85 true (.mov (.t 11)), qg 91 85 true (.call .f (.c (.fn 22 [])) [.t 89, .t 90]), qg 92 85 true (.bin .eql false [.b] (.t 88) (.t 91)), qq 93 (.pick (.t 85) (.t 92) (.c (.bool false)))]
 (.cond (.t 93) (.seq (.ops [qb 4 false]) .ret) .skip)))
 (.ops [qm 70 11, qv 71 .add [] 70 1, qm 11 71])))))))
 (.ops [qm 63 10, qv 64 .add [] 63 1, qm 10 64]))))))
 (.seq (.ops [qb 4 true]) .ret)))))))))
def r_L1_GroundLiteralsExclude : List RVar := [.tmp 4]
def n_L1_GroundLiteralsExclude : Nat := 94
theorem k_L1_GroundLiteralsExclude : chkFn Go.Proofs.Tryz.prog 6 n_L1_GroundLiteralsExclude r_L1_GroundLiteralsExclude c_L1_GroundLiteralsExclude = true := by kernel_rfl
theorem f_L1_GroundLiteralsExclude (d : Dom) (ho : DoOk d) (plan : List Int) (hl : plan.length ≤ 17592186044416) : Fc Go.Proofs.Tryz.prog 6 [domV d, .sl .p (plan.map i64V)] (.bool true) := by
  have hG := f_L1_grounds
  have hF := f_Full d ho
  by_cases hf : (fuF d).code = 0
  · obtain ⟨haf, hsv, _⟩ := fu_valid hf
    have hsk := (fuG_ok d).sk
    have hfo := (fuG_ok d).f
    have hP := f_strips_Play (fuG d).task hsk (fuG d).task.init (by have := hsk.i; omega) plan (by omega)
    by_cases hp : playF (fuG d).task (fuG d).task.init plan = okF
    · obtain ⟨_, _, e, he⟩ := playF_okG hp
      have hes := endS_set hsv plan _ e hsv.init he
      have hel := set_le hsv hes
      have hex : Excl (fuG d).facts e := by
        rw [fu_eq hf] at he ⊢
        exact excl_end (factL d) (fun a h => h) plan _ e (excl_init d (factL d)) he
      have hrl : (runT (fuG d).task (fuG d).task.init plan).length = plan.length := (run_len_eq _ _ _).2 (by rw [he]; rfl)
      have hg := run_get (fuG d).task plan (fuG d).task.init
      rw [he] at hg
      have hL : playL (fuG d).task (fuG d).task.init plan = (fuG d).task.init :: runT (fuG d).task (fuG d).task.init plan := if_pos hp
      rw [hp, hL] at hP
      have hLl : ((fuG d).task.init :: runT (fuG d).task (fuG d).task.init plan).length = plan.length + 1 := by simp [hrl]
      generalize (fuG d).task.init :: runT (fuG d).task (fuG d).task.init plan = L at *
      have hq : L[((L.length : Int) - 1).toNat]? = some e := by
        rw [show ((L.length : Int) - 1).toNat = plan.length from by omega]; exact hg
      clear hL hrl he hes hsv hsk hp hg haf
      generalize fuG d = a at *
      generalize fuF d = f at *
      have hal := hfo.len
      refine Fn.step mixed k_L1_GroundLiteralsExclude ?_
      repeat' (first | refine i_len rfl ?_ | refine i_s rfl ?_ | refine i_lenm rfl rfl rfl ?_ | refine sw ?_ | refine i_s0 rfl ?_ | refine i_gt rfl ?_ | refine i_gf rfl ?_ | refine i_gd rfl ?_ | refine c_t rfl ?_ | refine c_f rfl ?_ | refine jc rfl ?_ | refine ja rfl rfl ?_ | refine jb rfl rfl ?_ | refine jg rfl rfl ?_ | refine jf rfl rfl ?_ | refine jd rfl rfl ?_ | refine je rfl rfl ?_ | refine jh rfl rfl ?_ | refine i_stb rfl ?_ | refine i_alloc rfl ?_ | refine i_box rfl rfl ?_ | refine i_nv rfl ?_ | (refine sp ?_ ?_ <;> try intro h) | refine sf rfl rfl hG ?_ | refine sf rfl rfl hF ?_ | refine sf rfl rfl hP ?_ | fail)
      all_goals first
        | (exfalso; clear hG hF hP hex; simp at *; done)
        | (exfalso; clear hG hF hP hex; simp at *; omega)
        | (exfalso; have := eq_of_beq h; omega)
        | (exfalso; clear hG hF hP hex; simp_all [okF]; done)
        | skip
      clear hG hF hP
      refine c_for a.facts.length (fun i => [(5, .bptr 384326 0), (9, .sl .p (e.map i64V)), (10, .int .i64 i)]) (fun _ => [(384326, .box (grdV a))]) (fun _ => True) trivial ft fun i hi _ => ?_
      by_cases hlt : i < a.facts.length
      · obtain ⟨x, hx⟩ := get_some hlt
        repeat' (first | refine i_len rfl ?_ | refine i_s rfl ?_ | refine i_lenm rfl rfl rfl ?_ | refine sw ?_ | refine i_s0 rfl ?_ | refine i_gt rfl ?_ | refine i_gf rfl ?_ | refine i_gd rfl ?_ | refine c_t rfl ?_ | refine c_f rfl ?_ | refine jc rfl ?_ | refine ja rfl rfl ?_ | refine jb rfl rfl ?_ | refine jg rfl rfl ?_ | refine jf rfl rfl ?_ | refine jd rfl rfl ?_ | refine je rfl rfl ?_ | refine jh rfl rfl ?_ | refine i_stb rfl ?_ | refine i_alloc rfl ?_ | refine i_box rfl rfl ?_ | refine i_nv rfl ?_ | (refine sp ?_ ?_ <;> try intro h) | fail)
        all_goals first
          | (exfalso; simp at *; done)
          | (exfalso; simp at *; omega)
          | skip
        refine c_for a.facts.length (fun k => [(5, .bptr 384326 0), (9, .sl .p (e.map i64V)), (10, .int .i64 i), (11, .int .i64 k)]) (fun _ => [(384326, .box (grdV a))]) (fun _ => True) trivial ft fun k hk _ => ?_
        by_cases hlk : k < a.facts.length
        · obtain ⟨y, hy⟩ := get_some hlk
          have hO := f_R2_Opposite y
          have hC := f_R2_LiteralOrder x (opp y) (hfo.ok x (mem_get hx)) (show AtOk y.at_ from hfo.ok y (mem_get hy))
          have h1 := f_R1_Has e (i : Int) (by omega)
          have h2 := f_R1_Has e (k : Int) (by omega)
          by_cases hz : litOrd x (opp y) = 0
          · rw [hz] at hC
            have e1 := litOrd_zero.1 hz
            have hiff := hex i k x hx (by rw [hy, e1, opp_opp])
            by_cases hm : (k : Int) ∈ e
            · have hm2 : ¬ (i : Int) ∈ e := fun h => hiff.1 h hm
              rw [decide_eq_false hm2] at h1
              rw [decide_eq_true hm] at h2
              clear hex hiff
              repeat' (first | refine i_len rfl ?_ | refine i_s rfl ?_ | refine i_lenm rfl rfl rfl ?_ | refine sw ?_ | refine i_s0 rfl ?_ | refine i_gt rfl ?_ | refine i_gf rfl ?_ | refine i_gd rfl ?_ | refine c_t rfl ?_ | refine c_f rfl ?_ | refine jc rfl ?_ | refine ja rfl rfl ?_ | refine jb rfl rfl ?_ | refine jg rfl rfl ?_ | refine jf rfl rfl ?_ | refine jd rfl rfl ?_ | refine je rfl rfl ?_ | refine jh rfl rfl ?_ | refine i_stb rfl ?_ | refine i_alloc rfl ?_ | refine i_box rfl rfl ?_ | refine i_nv rfl ?_ | (refine sp ?_ ?_ <;> try intro h) | refine sf rfl rfl hO ?_ | refine sf rfl rfl hC ?_ | refine sf rfl rfl h1 ?_ | refine sf rfl rfl h2 ?_ | fail)
              all_goals first
                | exact e_for hlk trivial ft
                | (exfalso; clear hO hC h1 h2; simp at *; done)
                | (exfalso; clear hO hC h1 h2; simp at *; omega)
            · have hm2 : (i : Int) ∈ e := hiff.2 hm
              rw [decide_eq_true hm2] at h1
              rw [decide_eq_false hm] at h2
              clear hex hiff
              repeat' (first | refine i_len rfl ?_ | refine i_s rfl ?_ | refine i_lenm rfl rfl rfl ?_ | refine sw ?_ | refine i_s0 rfl ?_ | refine i_gt rfl ?_ | refine i_gf rfl ?_ | refine i_gd rfl ?_ | refine c_t rfl ?_ | refine c_f rfl ?_ | refine jc rfl ?_ | refine ja rfl rfl ?_ | refine jb rfl rfl ?_ | refine jg rfl rfl ?_ | refine jf rfl rfl ?_ | refine jd rfl rfl ?_ | refine je rfl rfl ?_ | refine jh rfl rfl ?_ | refine i_stb rfl ?_ | refine i_alloc rfl ?_ | refine i_box rfl rfl ?_ | refine i_nv rfl ?_ | (refine sp ?_ ?_ <;> try intro h) | refine sf rfl rfl hO ?_ | refine sf rfl rfl hC ?_ | refine sf rfl rfl h1 ?_ | refine sf rfl rfl h2 ?_ | fail)
              all_goals first
                | exact e_for hlk trivial ft
                | (exfalso; clear hO hC h1 h2; simp at *; done)
                | (exfalso; clear hO hC h1 h2; simp at *; omega)
          · generalize litOrd x (opp y) = o at *
            clear hex
            repeat' (first | refine i_len rfl ?_ | refine i_s rfl ?_ | refine i_lenm rfl rfl rfl ?_ | refine sw ?_ | refine i_s0 rfl ?_ | refine i_gt rfl ?_ | refine i_gf rfl ?_ | refine i_gd rfl ?_ | refine c_t rfl ?_ | refine c_f rfl ?_ | refine jc rfl ?_ | refine ja rfl rfl ?_ | refine jb rfl rfl ?_ | refine jg rfl rfl ?_ | refine jf rfl rfl ?_ | refine jd rfl rfl ?_ | refine je rfl rfl ?_ | refine jh rfl rfl ?_ | refine i_stb rfl ?_ | refine i_alloc rfl ?_ | refine i_box rfl rfl ?_ | refine i_nv rfl ?_ | (refine sp ?_ ?_ <;> try intro h) | refine sf rfl rfl hO ?_ | refine sf rfl rfl hC ?_ | refine sf rfl rfl h1 ?_ | refine sf rfl rfl h2 ?_ | fail)
            all_goals first
              | exact e_for hlk trivial ft
              | (exfalso; clear hO hC h1 h2; simp at *; done)
              | (exfalso; clear hO hC h1 h2; simp at *; omega)
        have hge : k = a.facts.length := by omega
        subst hge
        repeat' (first | refine i_len rfl ?_ | refine i_s rfl ?_ | refine i_lenm rfl rfl rfl ?_ | refine sw ?_ | refine i_s0 rfl ?_ | refine i_gt rfl ?_ | refine i_gf rfl ?_ | refine i_gd rfl ?_ | refine c_t rfl ?_ | refine c_f rfl ?_ | refine jc rfl ?_ | refine ja rfl rfl ?_ | refine jb rfl rfl ?_ | refine jg rfl rfl ?_ | refine jf rfl rfl ?_ | refine jd rfl rfl ?_ | refine je rfl rfl ?_ | refine jh rfl rfl ?_ | refine i_stb rfl ?_ | refine i_alloc rfl ?_ | refine i_box rfl rfl ?_ | refine i_nv rfl ?_ | (refine sp ?_ ?_ <;> try intro h) | fail)
        all_goals first
          | exact e_for hlt trivial ft
          | (exfalso; simp at *; done)
          | (exfalso; simp at *; omega)
      have hge : i = a.facts.length := by omega
      subst hge
      repeat' (first | refine i_len rfl ?_ | refine i_s rfl ?_ | refine i_lenm rfl rfl rfl ?_ | refine sw ?_ | refine i_s0 rfl ?_ | refine i_gt rfl ?_ | refine i_gf rfl ?_ | refine i_gd rfl ?_ | refine c_t rfl ?_ | refine c_f rfl ?_ | refine jc rfl ?_ | refine ja rfl rfl ?_ | refine jb rfl rfl ?_ | refine jg rfl rfl ?_ | refine jf rfl rfl ?_ | refine jd rfl rfl ?_ | refine je rfl rfl ?_ | refine jh rfl rfl ?_ | refine i_stb rfl ?_ | refine i_alloc rfl ?_ | refine i_box rfl rfl ?_ | refine i_nv rfl ?_ | (refine sp ?_ ?_ <;> try intro h) | fail)
      all_goals first
        | exact e_ret ⟨rfl, _, rfl, rfl⟩
        | (exfalso; simp at *; done)
        | (exfalso; simp at *; omega)
    · have hpc : (playF (fuG d).task (fuG d).task.init plan).code ≠ 0 := fun h => hp (playF_codeG h)
      have hL : playL (fuG d).task (fuG d).task.init plan = [] := if_neg hp
      rw [hL] at hP
      clear hp hL hsv haf
      generalize playF (fuG d).task (fuG d).task.init plan = g at *
      generalize fuG d = a at *
      generalize fuF d = f at *
      refine Fn.step mixed k_L1_GroundLiteralsExclude ?_
      repeat' (first | refine i_len rfl ?_ | refine i_s rfl ?_ | refine i_lenm rfl rfl rfl ?_ | refine sw ?_ | refine i_s0 rfl ?_ | refine i_gt rfl ?_ | refine i_gf rfl ?_ | refine i_gd rfl ?_ | refine c_t rfl ?_ | refine c_f rfl ?_ | refine jc rfl ?_ | refine ja rfl rfl ?_ | refine jb rfl rfl ?_ | refine jg rfl rfl ?_ | refine jf rfl rfl ?_ | refine jd rfl rfl ?_ | refine je rfl rfl ?_ | refine jh rfl rfl ?_ | refine i_stb rfl ?_ | refine i_alloc rfl ?_ | refine i_box rfl rfl ?_ | refine i_nv rfl ?_ | (refine sp ?_ ?_ <;> try intro h) | refine sf rfl rfl hG ?_ | refine sf rfl rfl hF ?_ | refine sf rfl rfl hP ?_ | fail)
      all_goals first
        | exact e_ret ⟨rfl, _, rfl, rfl⟩
        | (exfalso; clear hG hF hP; simp at *; done)
        | (exfalso; clear hG hF hP; simp at *; omega)
        | (exfalso; clear hG hF hP; simp_all; done)
        | exact e_ret ⟨rfl, _, rfl, congrArg V.bool (by simp_all)⟩
  · have hn := fu_none hf
    generalize fuF d = f at *
    have hgr : grdV (fuG d) = .agg [.int .i64 (fuG d).task.facts, .sl .p ((fuG d).task.init.map i64V), .sl .p ((fuG d).task.goal.map i64V), .sl .p ((fuG d).task.ops.map soV), .sl .p [], .sl .p ((fuG d).insts.map insV)] := by
      unfold grdV; rw [hn]; rfl
    rw [hgr] at hF
    clear hgr hn
    generalize fuG d = a at *
    refine Fn.step mixed k_L1_GroundLiteralsExclude ?_
    repeat' (first | refine i_len rfl ?_ | refine i_s rfl ?_ | refine i_lenm rfl rfl rfl ?_ | refine sw ?_ | refine i_s0 rfl ?_ | refine i_gt rfl ?_ | refine i_gf rfl ?_ | refine i_gd rfl ?_ | refine c_t rfl ?_ | refine c_f rfl ?_ | refine jc rfl ?_ | refine ja rfl rfl ?_ | refine jb rfl rfl ?_ | refine jg rfl rfl ?_ | refine jf rfl rfl ?_ | refine jd rfl rfl ?_ | refine je rfl rfl ?_ | refine jh rfl rfl ?_ | refine i_stb rfl ?_ | refine i_alloc rfl ?_ | refine i_box rfl rfl ?_ | refine i_nv rfl ?_ | (refine sp ?_ ?_ <;> try intro h) | refine sf rfl rfl hG ?_ | refine sf rfl rfl hF ?_ | fail)
    all_goals first
      | exact e_ret ⟨rfl, _, rfl, rfl⟩
      | (exfalso; clear hG hF; simp at *; done)
      | (exfalso; clear hG hF; simp at *; omega)
end Hm
end
