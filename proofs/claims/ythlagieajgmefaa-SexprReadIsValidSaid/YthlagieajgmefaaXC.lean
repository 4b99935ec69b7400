/- Contracts: writing bytes and strings with a builder. -/
import Derived.Test.YthlagieajgmefaaXB
import Derived.Test.YthlagieajgmefaaXA
section
/- Contracts: writing bytes and strings with a builder. -/
namespace Go.Proofs
open Go.Shelf
def Try.bl_ren : Go.Shelf.Ren := ⟨fun | 240 => 30 | 276 => 35 | 169 => 25 | _ => 0,
  fun | 0 => 0 | 3 => 3 | 4 => 4 | 5 => 5 | 9 => 9 | 20 => 20 | 37 => 44 | 70 => 43 | 72 => 46 | 127 => 61 | 164 => 66 | _ => 0, fun x => x⟩
theorem Try.bl_240 : Lays.n240 Try.prog Try.bl_ren :=
  { mixed := by kernel_rfl,
    f240 := Try.func30.trans (congrArg some (by kernel_rfl)),
    f276 := Try.func35.trans (congrArg some (by kernel_rfl)),
    t0 := Try.underlying0, a0 := Try.isAgg0, z0 := Try.sizeOf0, v0 := Try.zeroValue0,
    t4 := Try.underlying4, a4 := Try.isAgg4, z4 := Try.sizeOf4, v4 := Try.zeroValue4,
    t9 := Try.underlying9, a9 := Try.isAgg9, z9 := Try.sizeOf9, v9 := Try.zeroValue9,
    t20 := Try.underlying20, a20 := Try.isAgg20, z20 := Try.sizeOf20, v20 := Try.zeroValue20,
    t70 := Try.underlying43, a70 := Try.isAgg43, z70 := Try.sizeOf43, v70 := Try.zeroValue43,
    t72 := Try.underlying46, a72 := Try.isAgg46, z72 := Try.sizeOf46, v72 := Try.zeroValue46,
    t164 := Try.underlying66, a164 := Try.isAgg66, z164 := Try.sizeOf66, v164 := Try.zeroValue66 }
theorem Try.bl_169 : Lays.n169 Try.prog Try.bl_ren :=
  { mixed := by kernel_rfl,
    f169 := Try.func25.trans (congrArg some (by kernel_rfl)),
    t0 := Try.underlying0, a0 := Try.isAgg0, z0 := Try.sizeOf0, v0 := Try.zeroValue0,
    t3 := Try.underlying3, a3 := Try.isAgg3, z3 := Try.sizeOf3, v3 := Try.zeroValue3,
    t9 := Try.underlying9, a9 := Try.isAgg9, z9 := Try.sizeOf9, v9 := Try.zeroValue9,
    t37 := Try.underlying44, a37 := Try.isAgg44, z37 := Try.sizeOf44, v37 := Try.zeroValue44,
    t70 := Try.underlying43, a70 := Try.isAgg43, z70 := Try.sizeOf43, v70 := Try.zeroValue43,
    t72 := Try.underlying46, a72 := Try.isAgg46, z72 := Try.sizeOf46, v72 := Try.zeroValue46,
    t127 := Try.underlying61, a127 := Try.isAgg61, z127 := Try.sizeOf61, v127 := Try.zeroValue61 }
theorem Try.bl_x : Builder.Extra Try.prog Try.bl_ren :=
  { sizeBuilder := by kernel_rfl, liesBuilder := by kernel_rfl, t5 := Try.underlying5, a5 := Try.isAgg5, z5 := Try.sizeOf5, v5 := Try.zeroValue5,
    infoByte := by kernel_rfl, cellsByte := by kernel_rfl, sizeByte := by kernel_rfl, neB5 := by decide }
end Go.Proofs
namespace Hm
open Go
set_option maxRecDepth 100000
set_option maxHeartbeats 4000000
set_option linter.unusedSimpArgs false
set_option linter.unusedVariables false
section
variable {G : Type} {P : Program} {H : HT G} {pn : List Nat} {Q : Exit → Env → Store → G → Prop} {fs : List (Frm G)} {ρ : Env} {σ : Store} {g : G} {r : List GItem} {d : Nat}
theorem i_apps {l s : List UInt8} {bytes et nm k : Nat} {x y : Opd} (hx : ev ρ x = .sl (.own nm) (l.map u8V)) (hy : ev ρ y = .str s) (hs : σ nm = .vec k) (hk : l.length = k) (hw : (Nat.beq (wd nm) 1 && tyOkB nm et) = true)
    (h1 : (k + s.length) * bytes ≤ 140737488355328) (h2 : k + s.length ≤ 140737488355328)
    (h : WI P H pn Q fs r (upd ρ d (.sl (.own nm) ((l ++ s).map u8V))) (ups σ nm (.vec (k + s.length))) g) : WI P H pn Q fs (.op (some d) none (.append 1 bytes et x y) :: r) ρ σ g := i_out (by
  have e : (s.map fun c => V.int .u8 c.toNat).length = s.length := by simp
  simp only [AWop, hx, hy, srcR, hs, e]
  refine ⟨by simpa using hk, hw, fun row hrow => ?_, h1, h2, ?_⟩
  · obtain ⟨c, _, rfl⟩ := List.mem_map.1 hrow
    exact ⟨rfl, rfl⟩
  · rw [List.map_append] at h
    exact h.out)
end
def bldS (p : V) (s : List UInt8) : List (Nat × Blk) := [(51677047145794, .box (.agg [p, .sl (.own 6597070409921) (s.map u8V)])), (6597070409921, .vec s.length)]
def bldN : V := .bptr 51677047145794 0
theorem bld_eq {σ : Store} {p : V} {s : List UInt8} (h1 : σ 51677047145794 = .box (.agg [p, .sl (.own 6597070409921) (s.map u8V)])) (h2 : σ 6597070409921 = .vec s.length)
    (hpn : ∀ nm, σ nm ≠ .unused → nm ∈ [51677047145794, 6597070409921]) : σ = stOf (bldS p s) := by
  funext k
  simp only [stOf, bldS]
  cases e1 : Nat.beq k 51677047145794 with
  | true => rw [Nat.eq_of_beq_eq_true e1]; exact h1
  | false =>
    cases e2 : Nat.beq k 6597070409921 with
    | true => rw [Nat.eq_of_beq_eq_true e2]; exact h2
    | false =>
      refine Classical.byContradiction fun h => ?_
      have := hpn k h
      simp only [List.mem_cons, List.not_mem_nil, or_false] at this
      rcases this with rfl | rfl
      · rw [Nat.beq_refl] at e1; cases e1
      · rw [Nat.beq_refl] at e2; cases e2
theorem ct_cc {G : Type} {H : HT G} (p : V) (hp : p = .nilptr ∨ p = bldN) (s : List UInt8) (σ : Store) (hσ : σ = stOf (bldS p s)) (g : G) : Cc Go.Proofs.Try.prog H 30 [bldN] [51677047145794, 6597070409921] σ g fun r σ' g' => r = .tup [] ∧ σ' = stOf (bldS bldN s) ∧ g' = g := by
  subst hσ
  refine Cc_mono (fun v σ' g' h => ?_) ⟨ct_copyCheck (ρ := Go.Proofs.Try.bl_ren) Go.Proofs.Try.bl_240 Go.Proofs.Try.bl_x.toX72 51677047145794 p (.sl (.own 6597070409921) (s.map u8V)) (by decide +kernel) rfl hp (fun nm h => Classical.byContradiction fun h' => h (stOf_mem (bldS p s) nm h'))⟩
  obtain ⟨rfl, rfl, rfl⟩ := h
  refine ⟨rfl, ?_, rfl⟩
  funext k
  simp only [ups, stOf, bldS, bldN]
  cases Nat.beq k 51677047145794 <;> rfl
def c_strings_Builder_WriteByte : Cmd :=
  (.seq
   (.ops [
   .op (some 4) none (.mov (.c (.any)))])
   (.cut
   (.seq
   (.ops [
   .op (some 5) none (.mov (.t 0)),
   .op (some 6) none (.call (.s [51677047145794,6597070409921]) (.c (.fn 30 [])) [.t 5])])
   (.cut
   (.seq
   (.ops [
   .op (some 7) none (.mov (.t 0)),
   .op (some 8) none (.mov (.t 0)),
   .op (some 9) none (.nilck (.t 8)),
   .op (some 10) none (.faddr 1 (.t 9)),
   .op (some 11) none (.load false 1 (.t 10)),
   .op (some 12) none (.mov (.t 1)),
   .op (some 13) none (.bsl 1 [.t 12]),
   .op (some 14) none (.append 1 1 5 (.t 11) (.t 13)),
   .op (some 15) none (.nilck (.t 7)),
   .op (some 16) none (.faddr 1 (.t 15)),
   .op none none (.store 1 (.t 16) (.t 14))])
   (.cut
   (.seq
   (.ops [
   .op (some 4) none (.mov (.c (.any)))])
   .ret)))))))
def r_strings_Builder_WriteByte : List RVar := [.tmp 4]
def n_strings_Builder_WriteByte : Nat := 17
theorem k_strings_Builder_WriteByte : chkFn Go.Proofs.Try.prog 24 n_strings_Builder_WriteByte r_strings_Builder_WriteByte c_strings_Builder_WriteByte = true := by kernel_rfl
theorem ct_WriteByte {G : Type} {H : HT G} (p : V) (hp : p = .nilptr ∨ p = bldN) (s : List UInt8) (c : UInt8) (hl : s.length ≤ 1000000) (σ : Store) (hσ : σ = stOf (bldS p s)) (g : G) :
    Cc Go.Proofs.Try.prog H 24 [bldN, u8V c] [51677047145794, 6597070409921] σ g fun r σ' g' => r = .any ∧ σ' = stOf (bldS bldN (s ++ [c])) ∧ g' = g := by
  subst hσ
  rcases hp with rfl | rfl
  all_goals
    refine CT.step _ mixed k_strings_Builder_WriteByte (fun nm h => stOf_mem (bldS _ s) nm h) fun hM => ?_
    repeat (first | refine i_len rfl ?_ | refine i_s rfl ?_ | refine i_lenm rfl rfl rfl ?_ | refine c_seq ?_ | refine c_cut0 ?_ | refine c_ops ?_ | refine i_nil ?_ | refine e_seq ?_ | refine e_block ?_ | refine c_block ?_ | refine c_skip ?_ | refine c_ret ?_ | refine c_exit ?_ | refine e_exit rfl ?_ | refine i_s0 rfl ?_ | refine c_leaf ?_ | refine i_gt rfl ?_ | refine i_gf rfl ?_ | refine i_gd rfl ?_ | refine c_t rfl ?_ | refine c_f rfl ?_ | refine i_conv rfl (by simp only [InR, List.length_map]; omega) ?_ | refine i_add rfl rfl (by simp only [InR, List.length_map]; omega) ?_ | refine i_sub rfl rfl (by simp only [InR, List.length_map]; omega) ?_ | refine i_ixm rfl rfl (by assumption) ?_ | refine i_iai rfl rfl (by omega) (by assumption) rfl ?_ | refine i_iam rfl rfl (by assumption) rfl ?_ | refine i_tk rfl rfl (by omega) ?_ | refine i_stb rfl ?_ | refine i_alloc rfl ?_ | refine i_box rfl rfl ?_ | refine i_nv rfl ?_)
    refine i_c rfl rfl rfl (ct_cc _ (by first | exact .inl rfl | exact .inr rfl) s _ (bld_eq rfl rfl fun nm h => restr_mem nm h) g) ?_
    rintro _ _ _ ⟨rfl, rfl, rfl⟩
    repeat (first | refine i_len rfl ?_ | refine i_s rfl ?_ | refine i_lenm rfl rfl rfl ?_ | refine c_seq ?_ | refine c_cut0 ?_ | refine c_ops ?_ | refine i_nil ?_ | refine e_seq ?_ | refine e_block ?_ | refine c_block ?_ | refine c_skip ?_ | refine c_ret ?_ | refine c_exit ?_ | refine e_exit rfl ?_ | refine i_s0 rfl ?_ | refine c_leaf ?_ | refine i_gt rfl ?_ | refine i_gf rfl ?_ | refine i_gd rfl ?_ | refine c_t rfl ?_ | refine c_f rfl ?_ | refine i_conv rfl (by simp only [InR, List.length_map]; omega) ?_ | refine i_add rfl rfl (by simp only [InR, List.length_map]; omega) ?_ | refine i_sub rfl rfl (by simp only [InR, List.length_map]; omega) ?_ | refine i_ixm rfl rfl (by assumption) ?_ | refine i_iai rfl rfl (by omega) (by assumption) rfl ?_ | refine i_iam rfl rfl (by assumption) rfl ?_ | refine i_tk rfl rfl (by omega) ?_ | refine i_stb rfl ?_ | refine i_alloc rfl ?_ | refine i_box rfl rfl ?_ | refine i_nv rfl ?_)
    refine i_appM rfl rfl rfl rfl rfl (by omega) (by omega) ?_
    repeat (first | refine i_len rfl ?_ | refine i_s rfl ?_ | refine i_lenm rfl rfl rfl ?_ | refine c_seq ?_ | refine c_cut0 ?_ | refine c_ops ?_ | refine i_nil ?_ | refine e_seq ?_ | refine e_block ?_ | refine c_block ?_ | refine c_skip ?_ | refine c_ret ?_ | refine c_exit ?_ | refine e_exit rfl ?_ | refine i_s0 rfl ?_ | refine c_leaf ?_ | refine i_gt rfl ?_ | refine i_gf rfl ?_ | refine i_gd rfl ?_ | refine c_t rfl ?_ | refine c_f rfl ?_ | refine i_conv rfl (by simp only [InR, List.length_map]; omega) ?_ | refine i_add rfl rfl (by simp only [InR, List.length_map]; omega) ?_ | refine i_sub rfl rfl (by simp only [InR, List.length_map]; omega) ?_ | refine i_ixm rfl rfl (by assumption) ?_ | refine i_iai rfl rfl (by omega) (by assumption) rfl ?_ | refine i_iam rfl rfl (by assumption) rfl ?_ | refine i_tk rfl rfl (by omega) ?_ | refine i_stb rfl ?_ | refine i_alloc rfl ?_ | refine i_box rfl rfl ?_ | refine i_nv rfl ?_)
    refine e_ret ⟨rfl, _, rfl, rfl, rfl, rfl, ?_, rfl⟩
    refine bld_eq rfl ?_ fun nm h => restr_mem nm h
    rw [List.length_append]
    rfl
def c_strings_Builder_WriteString : Cmd :=
  (.seq
   (.ops [
   .op (some 4) none (.mov (.c (.int .i64 (0)))),
   .op (some 5) none (.mov (.c (.any)))])
   (.cut
   (.seq
   (.ops [
   .op (some 6) none (.mov (.t 0)),
   .op (some 7) none (.call (.s [51677047145794,6597070409921]) (.c (.fn 30 [])) [.t 6])])
   (.cut
   (.seq
   (.ops [
   .op (some 8) none (.mov (.t 0)),
   .op (some 9) none (.mov (.t 0)),
   .op (some 10) none (.nilck (.t 9)),
   .op (some 11) none (.faddr 1 (.t 10)),
   .op (some 12) none (.load false 1 (.t 11)),
   .op (some 13) none (.mov (.t 1)),
   .op (some 14) none (.append 1 1 5 (.t 12) (.t 13)),
   .op (some 15) none (.nilck (.t 8)),
   .op (some 16) none (.faddr 1 (.t 15)),
   .op none none (.store 1 (.t 16) (.t 14))])
   (.cut
   (.seq
   (.ops [
   .op (some 17) none (.mov (.t 1)),
   .op (some 18) none (.len true (.t 17)),
   .op (some 4) none (.mov (.t 18)),
   .op (some 5) none (.mov (.c (.any)))])
   .ret)))))))
def r_strings_Builder_WriteString : List RVar := [.tmp 4, .tmp 5]
def n_strings_Builder_WriteString : Nat := 19
theorem k_strings_Builder_WriteString : chkFn Go.Proofs.Try.prog 23 n_strings_Builder_WriteString r_strings_Builder_WriteString c_strings_Builder_WriteString = true := by kernel_rfl
theorem ct_WriteString {G : Type} {H : HT G} (p : V) (hp : p = .nilptr ∨ p = bldN) (s c : List UInt8) (hl : s.length ≤ 1000000) (hc : c.length ≤ 1000000) (σ : Store) (hσ : σ = stOf (bldS p s)) (g : G) :
    Cc Go.Proofs.Try.prog H 23 [bldN, .str c] [51677047145794, 6597070409921] σ g fun r σ' g' => r = .tup [.int .i64 c.length, .any] ∧ σ' = stOf (bldS bldN (s ++ c)) ∧ g' = g := by
  subst hσ
  rcases hp with rfl | rfl
  all_goals
    refine CT.step _ mixed k_strings_Builder_WriteString (fun nm h => stOf_mem (bldS _ s) nm h) fun hM => ?_
    repeat (first | refine i_len rfl ?_ | refine i_s rfl ?_ | refine i_lenm rfl rfl rfl ?_ | refine c_seq ?_ | refine c_cut0 ?_ | refine c_ops ?_ | refine i_nil ?_ | refine e_seq ?_ | refine e_block ?_ | refine c_block ?_ | refine c_skip ?_ | refine c_ret ?_ | refine c_exit ?_ | refine e_exit rfl ?_ | refine i_s0 rfl ?_ | refine c_leaf ?_ | refine i_gt rfl ?_ | refine i_gf rfl ?_ | refine i_gd rfl ?_ | refine c_t rfl ?_ | refine c_f rfl ?_ | refine i_conv rfl (by simp only [InR, List.length_map]; omega) ?_ | refine i_add rfl rfl (by simp only [InR, List.length_map]; omega) ?_ | refine i_sub rfl rfl (by simp only [InR, List.length_map]; omega) ?_ | refine i_ixm rfl rfl (by assumption) ?_ | refine i_iai rfl rfl (by omega) (by assumption) rfl ?_ | refine i_iam rfl rfl (by assumption) rfl ?_ | refine i_tk rfl rfl (by omega) ?_ | refine i_stb rfl ?_ | refine i_alloc rfl ?_ | refine i_box rfl rfl ?_ | refine i_nv rfl ?_)
    refine i_c rfl rfl rfl (ct_cc _ (by first | exact .inl rfl | exact .inr rfl) s _ (bld_eq rfl rfl fun nm h => restr_mem nm h) g) ?_
    rintro _ _ _ ⟨rfl, rfl, rfl⟩
    repeat (first | refine i_len rfl ?_ | refine i_s rfl ?_ | refine i_lenm rfl rfl rfl ?_ | refine c_seq ?_ | refine c_cut0 ?_ | refine c_ops ?_ | refine i_nil ?_ | refine e_seq ?_ | refine e_block ?_ | refine c_block ?_ | refine c_skip ?_ | refine c_ret ?_ | refine c_exit ?_ | refine e_exit rfl ?_ | refine i_s0 rfl ?_ | refine c_leaf ?_ | refine i_gt rfl ?_ | refine i_gf rfl ?_ | refine i_gd rfl ?_ | refine c_t rfl ?_ | refine c_f rfl ?_ | refine i_conv rfl (by simp only [InR, List.length_map]; omega) ?_ | refine i_add rfl rfl (by simp only [InR, List.length_map]; omega) ?_ | refine i_sub rfl rfl (by simp only [InR, List.length_map]; omega) ?_ | refine i_ixm rfl rfl (by assumption) ?_ | refine i_iai rfl rfl (by omega) (by assumption) rfl ?_ | refine i_iam rfl rfl (by assumption) rfl ?_ | refine i_tk rfl rfl (by omega) ?_ | refine i_stb rfl ?_ | refine i_alloc rfl ?_ | refine i_box rfl rfl ?_ | refine i_nv rfl ?_)
    refine i_apps rfl rfl rfl rfl rfl (by omega) (by omega) ?_
    repeat (first | refine i_len rfl ?_ | refine i_s rfl ?_ | refine i_lenm rfl rfl rfl ?_ | refine c_seq ?_ | refine c_cut0 ?_ | refine c_ops ?_ | refine i_nil ?_ | refine e_seq ?_ | refine e_block ?_ | refine c_block ?_ | refine c_skip ?_ | refine c_ret ?_ | refine c_exit ?_ | refine e_exit rfl ?_ | refine i_s0 rfl ?_ | refine c_leaf ?_ | refine i_gt rfl ?_ | refine i_gf rfl ?_ | refine i_gd rfl ?_ | refine c_t rfl ?_ | refine c_f rfl ?_ | refine i_conv rfl (by simp only [InR, List.length_map]; omega) ?_ | refine i_add rfl rfl (by simp only [InR, List.length_map]; omega) ?_ | refine i_sub rfl rfl (by simp only [InR, List.length_map]; omega) ?_ | refine i_ixm rfl rfl (by assumption) ?_ | refine i_iai rfl rfl (by omega) (by assumption) rfl ?_ | refine i_iam rfl rfl (by assumption) rfl ?_ | refine i_tk rfl rfl (by omega) ?_ | refine i_stb rfl ?_ | refine i_alloc rfl ?_ | refine i_box rfl rfl ?_ | refine i_nv rfl ?_)
    refine e_ret ⟨rfl, _, rfl, rfl, rfl, rfl, ?_, rfl⟩
    refine bld_eq rfl ?_ fun nm h => restr_mem nm h
    rw [List.length_append]
    rfl
def wrF (l : List Sx) : V := .fn 22 [.cptr .p (.sl .p (l.map sxV)) 0, bldN, .bptr 640385 0]
def bld3 (l : List Sx) (p : V) (s : List UInt8) : List (Nat × Blk) := [(51677047145794, .box (.agg [p, .sl (.own 6597070409921) (s.map u8V)])), (6597070409921, .vec s.length), (640385, .box (wrF l))]
theorem bld3_eq {σ : Store} {l : List Sx} {p : V} {s : List UInt8} (h1 : σ 51677047145794 = .box (.agg [p, .sl (.own 6597070409921) (s.map u8V)])) (h2 : σ 6597070409921 = .vec s.length) (h3 : σ 640385 = .box (wrF l))
    (hpn : ∀ nm, σ nm ≠ .unused → nm ∈ [51677047145794, 6597070409921, 640385]) : σ = stOf (bld3 l p s) := by
  funext k
  simp only [stOf, bld3]
  cases e1 : Nat.beq k 51677047145794 with
  | true => rw [Nat.eq_of_beq_eq_true e1]; exact h1
  | false =>
    cases e2 : Nat.beq k 6597070409921 with
    | true => rw [Nat.eq_of_beq_eq_true e2]; exact h2
    | false =>
      cases e3 : Nat.beq k 640385 with
      | true => rw [Nat.eq_of_beq_eq_true e3]; exact h3
      | false =>
        refine Classical.byContradiction fun h => ?_
        have := hpn k h
        simp only [List.mem_cons, List.not_mem_nil, or_false] at this
        rcases this with rfl | rfl | rfl
        · rw [Nat.beq_refl] at e1; cases e1
        · rw [Nat.beq_refl] at e2; cases e2
        · rw [Nat.beq_refl] at e3; cases e3
theorem joinF_take_len (xs : List (List UInt8)) : ∀ k, (joinF (xs.take k)).length ≤ (joinF xs).length := by
  induction xs with
  | nil => intro k; simp
  | cons a xs ih =>
    intro k
    cases k with
    | zero => simp [joinF]
    | succ k =>
      cases xs with
      | nil => simp [joinF]
      | cons b r =>
        have := ih k
        rw [List.take_succ_cons]
        cases k with
        | zero => simp [joinF]
        | succ k =>
          rw [List.take_succ_cons] at this ⊢
          simp only [joinF, List.length_append, List.length_cons] at this ⊢
          omega
def c_sexpr_Print_1 : Cmd :=
  (.seq
   (.seq
   (.ops [
   .op (some 7) none (.load false 1 (.t 1)),
   .op (some 8) none (.mov (.t 0)),
   .op (some 9) none (.iaddr 2 (.t 7) (.t 8)),
   .op (some 10) none (.faddr 0 (.t 9)),
   .op (some 11) none (.load false 1 (.t 10)),
   .op (some 12) none (.bin .neq false [.s] (.t 11) (.c (.str [])))])
   (.cut
   (.cond (.t 12)
   (.seq
   (.ops [
   .op (some 13) none (.load false 1 (.t 1)),
   .op (some 14) none (.mov (.t 0)),
   .op (some 15) none (.iaddr 2 (.t 13) (.t 14)),
   .op (some 16) none (.faddr 0 (.t 15)),
   .op (some 17) none (.load false 1 (.t 16)),
   .op (some 18) none (.call (.s [51677047145794,6597070409921]) (.c (.fn 23 [])) [.t 2, .t 17])])
   .ret)
   .skip)))
   (.cut
   (.seq
   (.ops [
   .op (some 19) none (.call (.s [51677047145794,6597070409921]) (.c (.fn 24 [])) [.t 2, .c (.int .u8 (40))])])
   (.cut
   (.seq
   (.seq
   (.ops [
   .op (some 20) none (.load false 1 (.t 1)),
   .op (some 21) none (.mov (.t 0)),
   .op (some 22) none (.iaddr 2 (.t 20) (.t 21)),
   .op (some 23) none (.faddr 1 (.t 22)),
   .op (some 24) none (.load false 1 (.t 23)),
   .op (some 25) none (.len false (.t 24)),
   .op (some 26) none (.mov (.c (.int .i64 (0))))])
   (.cut
   (.block 0
   (.loop
   (.seq
   (.ops [
   .op (some 27) none (.bin .lss false [] (.t 26) (.t 25))])
   (.cut
   (.seq
   (.cond (.t 27)
   .skip
   (.exit 0))
   (.cut
   (.seq
   (.block 1
   (.seq
   (.ops [
   .op (some 28) none (.mov (.t 26)),
   .op (some 29) none (.iaddr 1 (.t 24) (.t 26)),
   .op (some 30) none (.load false 1 (.t 29)),
   .op (some 5) none (.mov (.t 28)),
   .op (some 6) none (.mov (.t 30))])
   (.cut
   (.seq
   (.seq
   (.ops [
   .op (some 31) none (.mov (.t 5)),
   .op (some 32) none (.bin .gtr false [] (.t 31) (.c (.int .i64 (0))))])
   (.cut
   (.cond (.t 32)
   (.ops [
   .op (some 33) none (.call (.s [51677047145794,6597070409921]) (.c (.fn 24 [])) [.t 2, .c (.int .u8 (32))])])
   .skip)))
   (.cut
   (.ops [
   .op (some 34) none (.load false 1 (.t 3)),
   .op (some 35) none (.mov (.t 6)),
   .op (some 36) none (.call (.s [51677047145794,6597070409921,640385]) (.t 34) [.t 35])]))))))
   (.cut
   (.ops [
   .op (some 37) none (.bin .add false [] (.t 26) (.c (.int .i64 (1)))),
   .op (some 26) none (.mov (.t 37))])))))))))))
   (.cut
   (.ops [
   .op (some 38) none (.call (.s [51677047145794,6597070409921]) (.c (.fn 24 [])) [.t 2, .c (.int .u8 (41))])])))))))
def r_sexpr_Print_1 : List RVar := []
def n_sexpr_Print_1 : Nat := 39
theorem k_sexpr_Print_1 : chkFn Go.Proofs.Try.prog 22 n_sexpr_Print_1 r_sexpr_Print_1 c_sexpr_Print_1 = true := by kernel_rfl
theorem ct_write {G : Type} {H : HT G} (l : List Sx) (ho : SxsOk l) (hv : okTo l l.length) : ∀ (i : Nat), i < l.length → ∀ (p : V), (p = .nilptr ∨ p = bldN) → ∀ (acc : List UInt8), acc.length + (tx l i).length ≤ 100000 → ∀ (σ : Store), σ = stOf (bld3 l p acc) → ∀ g : G,
    Cc Go.Proofs.Try.prog H 22 [.int .i64 i, .cptr .p (.sl .p (l.map sxV)) 0, bldN, .bptr 640385 0] [51677047145794, 6597070409921, 640385] σ g fun r σ' g' => r = .tup [] ∧ σ' = stOf (bld3 l bldN (acc ++ tx l i)) ∧ g' = g := by
  intro i
  induction i using Nat.strongRecOn with
  | ind i ih =>
    intro hi p hp acc hacc σ hσ g
    subst hσ
    obtain ⟨n, hn⟩ := get_some hi
    have hlow : lowTo l (i + 1) := fun j hj => hv.low j (by omega)
    have htx := tx_eq hlow hn
    have hcl := (ho.e n (mem_get hn)).2
    by_cases c1 : n.sym = []
    · rw [if_pos c1] at htx
      rw [htx] at hacc ⊢
      simp only [List.length_cons, List.length_append, List.length_nil] at hacc
      rcases hp with rfl | rfl
      all_goals
        refine CT.step _ mixed k_sexpr_Print_1 (fun nm h => stOf_mem (bld3 l _ acc) nm h) fun hM => ?_
        repeat' (first | refine i_len rfl ?_ | refine i_s rfl ?_ | refine i_lenm rfl rfl rfl ?_ | refine c_seq ?_ | refine c_cut0 ?_ | refine c_ops ?_ | refine i_nil ?_ | refine e_seq ?_ | refine e_block ?_ | refine c_block ?_ | refine c_skip ?_ | refine c_ret ?_ | refine c_exit ?_ | refine e_exit rfl ?_ | refine i_s0 rfl ?_ | refine c_leaf ?_ | refine i_gt rfl ?_ | refine i_gf rfl ?_ | refine i_gd rfl ?_ | refine c_t rfl ?_ | refine c_f rfl ?_ | refine i_conv rfl (by simp only [InR, List.length_map]; omega) ?_ | refine i_add rfl rfl (by simp only [InR, List.length_map]; omega) ?_ | refine i_sub rfl rfl (by simp only [InR, List.length_map]; omega) ?_ | refine i_ixm rfl rfl (by assumption) ?_ | refine i_iai rfl rfl (by omega) (by assumption) rfl ?_ | refine i_iam rfl rfl (by assumption) rfl ?_ | refine i_tk rfl rfl (by omega) ?_ | refine i_stb rfl ?_ | refine i_alloc rfl ?_ | refine i_box rfl rfl ?_ | refine i_nv rfl ?_ | refine c_node ?_ ?_ | refine i_g rfl (fun h => ?_) (fun h => ?_) | refine c_cond rfl (fun h => ?_) (fun h => ?_))
        all_goals first
          | (exfalso; clear ih ho hv; simp_all; done)
          | skip
        refine i_c rfl rfl rfl (ct_WriteByte _ (by first | exact .inl rfl | exact .inr rfl) acc 40 (by omega) _ (bld_eq rfl rfl fun nm h => restr_mem nm h) g) ?_
        rintro _ _ g ⟨rfl, rfl, rfl⟩
        repeat (first | refine i_len rfl ?_ | refine i_s rfl ?_ | refine i_lenm rfl rfl rfl ?_ | refine c_seq ?_ | refine c_cut0 ?_ | refine c_ops ?_ | refine i_nil ?_ | refine e_seq ?_ | refine e_block ?_ | refine c_block ?_ | refine c_skip ?_ | refine c_ret ?_ | refine c_exit ?_ | refine e_exit rfl ?_ | refine i_s0 rfl ?_ | refine c_leaf ?_ | refine i_gt rfl ?_ | refine i_gf rfl ?_ | refine i_gd rfl ?_ | refine c_t rfl ?_ | refine c_f rfl ?_ | refine i_conv rfl (by simp only [InR, List.length_map]; omega) ?_ | refine i_add rfl rfl (by simp only [InR, List.length_map]; omega) ?_ | refine i_sub rfl rfl (by simp only [InR, List.length_map]; omega) ?_ | refine i_ixm rfl rfl (by assumption) ?_ | refine i_iai rfl rfl (by omega) (by assumption) rfl ?_ | refine i_iam rfl rfl (by assumption) rfl ?_ | refine i_tk rfl rfl (by omega) ?_ | refine i_stb rfl ?_ | refine i_alloc rfl ?_ | refine i_box rfl rfl ?_ | refine i_nv rfl ?_)
        refine c_for n.ch.length (fun k => [(1, .cptr .p (.sl .p (l.map sxV)) 0), (2, bldN), (3, .bptr 640385 0), (24, .sl .p (n.ch.map i64V)), (25, .int .i64 n.ch.length), (26, .int .i64 k)])
          (fun k => bld3 l bldN (acc ++ 40 :: joinF ((n.ch.take k).map fun c => tx l c.toNat))) (fun _ => True) trivial ⟨by repeat (first | exact trivial | refine ⟨rfl, ?_⟩), by repeat (first | exact trivial | refine ⟨rfl, ?_⟩), rfl⟩ fun k hk _ => ?_
        have hjl := joinF_take_len (n.ch.map fun c => tx l c.toNat) k
        rw [← List.map_take] at hjl
        have hal : (acc ++ 40 :: joinF ((n.ch.take k).map fun c => tx l c.toNat)).length ≤ 100000 := by simp only [List.length_append, List.length_cons]; omega
        repeat (first | refine i_len rfl ?_ | refine i_s rfl ?_ | refine i_lenm rfl rfl rfl ?_ | refine c_seq ?_ | refine c_cut0 ?_ | refine c_ops ?_ | refine i_nil ?_ | refine e_seq ?_ | refine e_block ?_ | refine c_block ?_ | refine c_skip ?_ | refine c_ret ?_ | refine c_exit ?_ | refine e_exit rfl ?_ | refine i_s0 rfl ?_ | refine c_leaf ?_ | refine i_gt rfl ?_ | refine i_gf rfl ?_ | refine i_gd rfl ?_ | refine c_t rfl ?_ | refine c_f rfl ?_ | refine i_conv rfl (by simp only [InR, List.length_map]; omega) ?_ | refine i_add rfl rfl (by simp only [InR, List.length_map]; omega) ?_ | refine i_sub rfl rfl (by simp only [InR, List.length_map]; omega) ?_ | refine i_ixm rfl rfl (by assumption) ?_ | refine i_iai rfl rfl (by omega) (by assumption) rfl ?_ | refine i_iam rfl rfl (by assumption) rfl ?_ | refine i_tk rfl rfl (by omega) ?_ | refine i_stb rfl ?_ | refine i_alloc rfl ?_ | refine i_box rfl rfl ?_ | refine i_nv rfl ?_)
        refine c_cond rfl (fun h => ?_) (fun h => ?_)
        · have hkl : k < n.ch.length := by simpa using h
          obtain ⟨c, hc⟩ := get_some hkl
          have hcr := hlow i (by omega) c (by rw [chL_get hn]; exact mem_get hc)
          have hj2 := joinF_take_len (n.ch.map fun c => tx l c.toNat) (k + 1)
          rw [← List.map_take, take_succ_get hc, List.map_append, List.map_singleton, joinF_snoc] at hj2
          have hih := fun p hp acc hacc σ hσ => ih c.toNat (by omega) (by omega) p hp acc hacc σ hσ g
          rw [show ((c.toNat : Nat) : Int) = c from by omega] at hih
          have hk0 : ((n.ch.take k).map fun c => tx l c.toNat) = [] ↔ k = 0 := by
            rw [List.map_eq_nil_iff, List.take_eq_nil_iff]
            constructor
            · rintro (h | h)
              · exact h
              · rw [h] at hkl; simp at hkl
            · exact .inl
          have e : joinF ((n.ch.take (k + 1)).map fun c => tx l c.toNat) = if k = 0 then tx l c.toNat else joinF ((n.ch.take k).map fun c => tx l c.toNat) ++ 32 :: tx l c.toNat := by
            rw [take_succ_get hc, List.map_append, List.map_singleton, joinF_snoc]
            by_cases h0 : k = 0
            · subst h0; simp
            · rw [if_neg h0, if_neg fun e => h0 (hk0.1 e)]
          clear h ih hv ho
          by_cases h0 : k = 0
          · subst h0
            rw [if_pos rfl] at e
            rw [if_pos (hk0.2 rfl)] at hj2
            repeat' (first | refine i_len rfl ?_ | refine i_s rfl ?_ | refine i_lenm rfl rfl rfl ?_ | refine c_seq ?_ | refine c_cut0 ?_ | refine c_ops ?_ | refine i_nil ?_ | refine e_seq ?_ | refine e_block ?_ | refine c_block ?_ | refine c_skip ?_ | refine c_ret ?_ | refine c_exit ?_ | refine e_exit rfl ?_ | refine i_s0 rfl ?_ | refine c_leaf ?_ | refine i_gt rfl ?_ | refine i_gf rfl ?_ | refine i_gd rfl ?_ | refine c_t rfl ?_ | refine c_f rfl ?_ | refine i_conv rfl (by simp only [InR, List.length_map]; omega) ?_ | refine i_add rfl rfl (by simp only [InR, List.length_map]; omega) ?_ | refine i_sub rfl rfl (by simp only [InR, List.length_map]; omega) ?_ | refine i_ixm rfl rfl (by assumption) ?_ | refine i_iai rfl rfl (by omega) (by assumption) rfl ?_ | refine i_iam rfl rfl (by assumption) rfl ?_ | refine i_tk rfl rfl (by omega) ?_ | refine i_stb rfl ?_ | refine i_alloc rfl ?_ | refine i_box rfl rfl ?_ | refine i_nv rfl ?_ | refine c_node ?_ ?_ | refine i_g rfl (fun h => ?_) (fun h => ?_) | refine c_cond rfl (fun h => ?_) (fun h => ?_))
            all_goals first
              | (exfalso; have := of_decide_eq_true h; omega)
              | skip
            refine i_c rfl rfl rfl (hih bldN (.inr rfl) (acc ++ 40 :: joinF ((n.ch.take 0).map fun c => tx l c.toNat)) (by simp [joinF]; omega) _ (bld3_eq rfl rfl rfl fun nm h => restr_mem nm h)) ?_
            rintro _ _ g ⟨rfl, rfl, rfl⟩
            repeat (first | refine i_len rfl ?_ | refine i_s rfl ?_ | refine i_lenm rfl rfl rfl ?_ | refine c_seq ?_ | refine c_cut0 ?_ | refine c_ops ?_ | refine i_nil ?_ | refine e_seq ?_ | refine e_block ?_ | refine c_block ?_ | refine c_skip ?_ | refine c_ret ?_ | refine c_exit ?_ | refine e_exit rfl ?_ | refine i_s0 rfl ?_ | refine c_leaf ?_ | refine i_gt rfl ?_ | refine i_gf rfl ?_ | refine i_gd rfl ?_ | refine c_t rfl ?_ | refine c_f rfl ?_ | refine i_conv rfl (by simp only [InR, List.length_map]; omega) ?_ | refine i_add rfl rfl (by simp only [InR, List.length_map]; omega) ?_ | refine i_sub rfl rfl (by simp only [InR, List.length_map]; omega) ?_ | refine i_ixm rfl rfl (by assumption) ?_ | refine i_iai rfl rfl (by omega) (by assumption) rfl ?_ | refine i_iam rfl rfl (by assumption) rfl ?_ | refine i_tk rfl rfl (by omega) ?_ | refine i_stb rfl ?_ | refine i_alloc rfl ?_ | refine i_box rfl rfl ?_ | refine i_nv rfl ?_)
            have eA : acc ++ 40 :: joinF ((n.ch.take (0 + 1)).map fun c => tx l c.toNat) = (acc ++ 40 :: joinF ((n.ch.take 0).map fun c => tx l c.toNat)) ++ tx l c.toNat := by rw [e]; simp [joinF]
            refine e_for hkl trivial ⟨⟨rfl, rfl, rfl, rfl, rfl, rfl, trivial⟩, ⟨?_, ?_, rfl, trivial⟩, rfl⟩
            · rw [eA]; rfl
            · rw [eA]; rfl
          · rw [if_neg h0] at e
            rw [if_neg (fun e => h0 (hk0.1 e))] at hj2
            generalize joinF ((n.ch.take k).map fun c => tx l c.toNat) = J at *
            simp only [List.length_append, List.length_cons] at hj2 hal
            repeat' (first | refine i_len rfl ?_ | refine i_s rfl ?_ | refine i_lenm rfl rfl rfl ?_ | refine c_seq ?_ | refine c_cut0 ?_ | refine c_ops ?_ | refine i_nil ?_ | refine e_seq ?_ | refine e_block ?_ | refine c_block ?_ | refine c_skip ?_ | refine c_ret ?_ | refine c_exit ?_ | refine e_exit rfl ?_ | refine i_s0 rfl ?_ | refine c_leaf ?_ | refine i_gt rfl ?_ | refine i_gf rfl ?_ | refine i_gd rfl ?_ | refine c_t rfl ?_ | refine c_f rfl ?_ | refine i_conv rfl (by simp only [InR, List.length_map]; omega) ?_ | refine i_add rfl rfl (by simp only [InR, List.length_map]; omega) ?_ | refine i_sub rfl rfl (by simp only [InR, List.length_map]; omega) ?_ | refine i_ixm rfl rfl (by assumption) ?_ | refine i_iai rfl rfl (by omega) (by assumption) rfl ?_ | refine i_iam rfl rfl (by assumption) rfl ?_ | refine i_tk rfl rfl (by omega) ?_ | refine i_stb rfl ?_ | refine i_alloc rfl ?_ | refine i_box rfl rfl ?_ | refine i_nv rfl ?_ | refine c_node ?_ ?_ | refine i_g rfl (fun h => ?_) (fun h => ?_) | refine c_cond rfl (fun h => ?_) (fun h => ?_))
            all_goals first
              | (exfalso; have := of_decide_eq_false h; omega)
              | skip
            refine i_c rfl rfl rfl (ct_WriteByte bldN (.inr rfl) (acc ++ 40 :: J) 32 (by simp; omega) _ (bld_eq rfl rfl fun nm h => restr_mem nm h) g) ?_
            rintro _ _ g ⟨rfl, rfl, rfl⟩
            repeat (first | refine i_len rfl ?_ | refine i_s rfl ?_ | refine i_lenm rfl rfl rfl ?_ | refine c_seq ?_ | refine c_cut0 ?_ | refine c_ops ?_ | refine i_nil ?_ | refine e_seq ?_ | refine e_block ?_ | refine c_block ?_ | refine c_skip ?_ | refine c_ret ?_ | refine c_exit ?_ | refine e_exit rfl ?_ | refine i_s0 rfl ?_ | refine c_leaf ?_ | refine i_gt rfl ?_ | refine i_gf rfl ?_ | refine i_gd rfl ?_ | refine c_t rfl ?_ | refine c_f rfl ?_ | refine i_conv rfl (by simp only [InR, List.length_map]; omega) ?_ | refine i_add rfl rfl (by simp only [InR, List.length_map]; omega) ?_ | refine i_sub rfl rfl (by simp only [InR, List.length_map]; omega) ?_ | refine i_ixm rfl rfl (by assumption) ?_ | refine i_iai rfl rfl (by omega) (by assumption) rfl ?_ | refine i_iam rfl rfl (by assumption) rfl ?_ | refine i_tk rfl rfl (by omega) ?_ | refine i_stb rfl ?_ | refine i_alloc rfl ?_ | refine i_box rfl rfl ?_ | refine i_nv rfl ?_)
            refine i_c rfl rfl rfl (hih bldN (.inr rfl) ((acc ++ 40 :: J) ++ [32]) (by simp; omega) _ (bld3_eq rfl rfl rfl fun nm h => restr_mem nm h)) ?_
            rintro _ _ g ⟨rfl, rfl, rfl⟩
            repeat (first | refine i_len rfl ?_ | refine i_s rfl ?_ | refine i_lenm rfl rfl rfl ?_ | refine c_seq ?_ | refine c_cut0 ?_ | refine c_ops ?_ | refine i_nil ?_ | refine e_seq ?_ | refine e_block ?_ | refine c_block ?_ | refine c_skip ?_ | refine c_ret ?_ | refine c_exit ?_ | refine e_exit rfl ?_ | refine i_s0 rfl ?_ | refine c_leaf ?_ | refine i_gt rfl ?_ | refine i_gf rfl ?_ | refine i_gd rfl ?_ | refine c_t rfl ?_ | refine c_f rfl ?_ | refine i_conv rfl (by simp only [InR, List.length_map]; omega) ?_ | refine i_add rfl rfl (by simp only [InR, List.length_map]; omega) ?_ | refine i_sub rfl rfl (by simp only [InR, List.length_map]; omega) ?_ | refine i_ixm rfl rfl (by assumption) ?_ | refine i_iai rfl rfl (by omega) (by assumption) rfl ?_ | refine i_iam rfl rfl (by assumption) rfl ?_ | refine i_tk rfl rfl (by omega) ?_ | refine i_stb rfl ?_ | refine i_alloc rfl ?_ | refine i_box rfl rfl ?_ | refine i_nv rfl ?_)
            have eA : acc ++ 40 :: joinF ((n.ch.take (k + 1)).map fun c => tx l c.toNat) = ((acc ++ 40 :: J) ++ [32]) ++ tx l c.toNat := by rw [e]; simp
            refine e_for hkl trivial ⟨⟨rfl, rfl, rfl, rfl, rfl, rfl, trivial⟩, ⟨?_, ?_, rfl, trivial⟩, rfl⟩
            · rw [eA]; rfl
            · rw [eA]; rfl
        · have hge : k = n.ch.length := by have : ¬ k < n.ch.length := by simpa using h
                                           omega
          subst hge
          rw [List.take_length] at *
          clear h ih hv ho
          generalize joinF (n.ch.map fun c => tx l c.toNat) = J at *
          repeat (first | refine i_len rfl ?_ | refine i_s rfl ?_ | refine i_lenm rfl rfl rfl ?_ | refine c_seq ?_ | refine c_cut0 ?_ | refine c_ops ?_ | refine i_nil ?_ | refine e_seq ?_ | refine e_block ?_ | refine c_block ?_ | refine c_skip ?_ | refine c_ret ?_ | refine c_exit ?_ | refine e_exit rfl ?_ | refine i_s0 rfl ?_ | refine c_leaf ?_ | refine i_gt rfl ?_ | refine i_gf rfl ?_ | refine i_gd rfl ?_ | refine c_t rfl ?_ | refine c_f rfl ?_ | refine i_conv rfl (by simp only [InR, List.length_map]; omega) ?_ | refine i_add rfl rfl (by simp only [InR, List.length_map]; omega) ?_ | refine i_sub rfl rfl (by simp only [InR, List.length_map]; omega) ?_ | refine i_ixm rfl rfl (by assumption) ?_ | refine i_iai rfl rfl (by omega) (by assumption) rfl ?_ | refine i_iam rfl rfl (by assumption) rfl ?_ | refine i_tk rfl rfl (by omega) ?_ | refine i_stb rfl ?_ | refine i_alloc rfl ?_ | refine i_box rfl rfl ?_ | refine i_nv rfl ?_)
          refine i_c rfl rfl rfl (ct_WriteByte bldN (.inr rfl) (acc ++ 40 :: J) 41 (by omega) _ (bld_eq rfl rfl fun nm h => restr_mem nm h) g) ?_
          rintro _ _ g ⟨rfl, rfl, rfl⟩
          repeat (first | refine i_len rfl ?_ | refine i_s rfl ?_ | refine i_lenm rfl rfl rfl ?_ | refine c_seq ?_ | refine c_cut0 ?_ | refine c_ops ?_ | refine i_nil ?_ | refine e_seq ?_ | refine e_block ?_ | refine c_block ?_ | refine c_skip ?_ | refine c_ret ?_ | refine c_exit ?_ | refine e_exit rfl ?_ | refine i_s0 rfl ?_ | refine c_leaf ?_ | refine i_gt rfl ?_ | refine i_gf rfl ?_ | refine i_gd rfl ?_ | refine c_t rfl ?_ | refine c_f rfl ?_ | refine i_conv rfl (by simp only [InR, List.length_map]; omega) ?_ | refine i_add rfl rfl (by simp only [InR, List.length_map]; omega) ?_ | refine i_sub rfl rfl (by simp only [InR, List.length_map]; omega) ?_ | refine i_ixm rfl rfl (by assumption) ?_ | refine i_iai rfl rfl (by omega) (by assumption) rfl ?_ | refine i_iam rfl rfl (by assumption) rfl ?_ | refine i_tk rfl rfl (by omega) ?_ | refine i_stb rfl ?_ | refine i_alloc rfl ?_ | refine i_box rfl rfl ?_ | refine i_nv rfl ?_)
          have eA : acc ++ 40 :: (J ++ [41]) = (acc ++ 40 :: J) ++ [41] := by simp
          refine e_end ⟨rfl, _, rfl, rfl, rfl, rfl, ?_, rfl⟩
          rw [eA]
          exact bld3_eq rfl rfl rfl fun nm h => restr_mem nm h
    · rw [if_neg c1] at htx
      rw [htx] at hacc ⊢
      rcases hp with rfl | rfl
      all_goals
        refine CT.step _ mixed k_sexpr_Print_1 (fun nm h => stOf_mem (bld3 l _ acc) nm h) fun hM => ?_
        repeat' (first | refine i_len rfl ?_ | refine i_s rfl ?_ | refine i_lenm rfl rfl rfl ?_ | refine c_seq ?_ | refine c_cut0 ?_ | refine c_ops ?_ | refine i_nil ?_ | refine e_seq ?_ | refine e_block ?_ | refine c_block ?_ | refine c_skip ?_ | refine c_ret ?_ | refine c_exit ?_ | refine e_exit rfl ?_ | refine i_s0 rfl ?_ | refine c_leaf ?_ | refine i_gt rfl ?_ | refine i_gf rfl ?_ | refine i_gd rfl ?_ | refine c_t rfl ?_ | refine c_f rfl ?_ | refine i_conv rfl (by simp only [InR, List.length_map]; omega) ?_ | refine i_add rfl rfl (by simp only [InR, List.length_map]; omega) ?_ | refine i_sub rfl rfl (by simp only [InR, List.length_map]; omega) ?_ | refine i_ixm rfl rfl (by assumption) ?_ | refine i_iai rfl rfl (by omega) (by assumption) rfl ?_ | refine i_iam rfl rfl (by assumption) rfl ?_ | refine i_tk rfl rfl (by omega) ?_ | refine i_stb rfl ?_ | refine i_alloc rfl ?_ | refine i_box rfl rfl ?_ | refine i_nv rfl ?_ | refine c_node ?_ ?_ | refine i_g rfl (fun h => ?_) (fun h => ?_) | refine c_cond rfl (fun h => ?_) (fun h => ?_))
        all_goals first
          | (exfalso; clear ih ho hv; simp_all; done)
          | skip
        refine i_c rfl rfl rfl (ct_WriteString _ (by first | exact .inl rfl | exact .inr rfl) acc n.sym (by omega) (by omega) _ (bld_eq rfl rfl fun nm h => restr_mem nm h) g) ?_
        rintro _ _ g ⟨rfl, rfl, rfl⟩
        repeat (first | refine i_len rfl ?_ | refine i_s rfl ?_ | refine i_lenm rfl rfl rfl ?_ | refine c_seq ?_ | refine c_cut0 ?_ | refine c_ops ?_ | refine i_nil ?_ | refine e_seq ?_ | refine e_block ?_ | refine c_block ?_ | refine c_skip ?_ | refine c_ret ?_ | refine c_exit ?_ | refine e_exit rfl ?_ | refine i_s0 rfl ?_ | refine c_leaf ?_ | refine i_gt rfl ?_ | refine i_gf rfl ?_ | refine i_gd rfl ?_ | refine c_t rfl ?_ | refine c_f rfl ?_ | refine i_conv rfl (by simp only [InR, List.length_map]; omega) ?_ | refine i_add rfl rfl (by simp only [InR, List.length_map]; omega) ?_ | refine i_sub rfl rfl (by simp only [InR, List.length_map]; omega) ?_ | refine i_ixm rfl rfl (by assumption) ?_ | refine i_iai rfl rfl (by omega) (by assumption) rfl ?_ | refine i_iam rfl rfl (by assumption) rfl ?_ | refine i_tk rfl rfl (by omega) ?_ | refine i_stb rfl ?_ | refine i_alloc rfl ?_ | refine i_box rfl rfl ?_ | refine i_nv rfl ?_)
        refine e_ret ⟨rfl, _, rfl, rfl, rfl, rfl, ?_, rfl⟩
        exact bld3_eq rfl rfl rfl fun nm h => restr_mem nm h
end Hm
end

section
/- Contracts: printing; the reference's text. -/
namespace Hm
open Go
set_option maxRecDepth 100000
set_option maxHeartbeats 4000000
set_option linter.unusedSimpArgs false
set_option linter.unusedVariables false
theorem tx_ne {l : List Sx} {i : Nat} {n : Sx} (h : lowTo l (i + 1)) (hn : l[i]? = some n) : tx l i ≠ [] := by
  rw [tx_eq h hn]
  split
  · simp
  · assumption
def c_sexpr_Print : Cmd :=
  (.seq
   (.ops [
   .op (some 1) none (.box 640065 1 (.t 0)),
   .op (some 2) none (.mov (.c (.str []))),
   .op (some 3) none (.alloc 640194 (.agg [.int .i64 (0), .int .i64 (0)]))])
   (.cut
   (.seq
   (.seq
   (.ops [
   .op (some 7) none (.load false 1 (.t 1)),
   .op (some 8) none (.call .f (.c (.fn 11 [])) [.t 7]),
   .op (some 4) none (.alloc 640258 (.agg [.int .i64 (0), .int .i64 (0)])),
   .op none none (.store 2 (.t 4) (.t 8))])
   (.cut
   (.seq
   (.ops [
   .op (some 9) none (.load true 2 (.t 4)),
   .op (some 10) none (.build [.int .i64 (0), .int .i64 (0)] []),
   .op (some 11) none (.bin .neq true [.i, .i] (.t 9) (.t 10))])
   (.cut
   (.cond (.t 11)
   (.seq
   (.ops [
   .op (some 12) none (.load true 2 (.t 4)),
   .op (some 2) none (.mov (.c (.str []))),
   .op none none (.store 2 (.t 3) (.t 12))])
   .ret)
   .skip)))))
   (.seq (.frz 1) (.cut
   (.seq
   (.ops [
   .op (some 5) none (.alloc 51677047145794 (.agg [.nilptr, .sl .nil []]))])
   (.nvb 5 1 6597070409921 (.cut
   (.seq
   (.ops [
   .op (some 6) none (.alloc 640385 (.nilfn))])
   (.cut
   (.seq
   (.ops [
   .op (some 13) none (.mkfn 22 [.t 1, .t 5, .t 6]),
   .op none none (.store 1 (.t 6) (.t 13))])
   (.cut
   (.seq
   (.ops [
   .op (some 14) none (.load false 1 (.t 6)),
   .op (some 15) none (.load false 1 (.t 1)),
   .op (some 16) none (.len false (.t 15)),
   .op (some 17) none (.bin .sub false [] (.t 16) (.c (.int .i64 (1)))),
   .op (some 18) none (.call (.s [51677047145794,6597070409921,640385]) (.t 14) [.t 17])])
   (.cut
   (.seq
   (.ops [
   .op (some 19) none (.call (.s [51677047145794,6597070409921]) (.c (.fn 25 [])) [.t 5]),
   .op (some 20) none (.build [.int .i64 (0), .int .i64 (0)] []),
   .op (some 2) none (.mov (.t 19)),
   .op none none (.store 2 (.t 3) (.t 20))])
   .ret)))))))))))))))
def r_sexpr_Print : List RVar := [.tmp 2, .cell true 2 3]
def n_sexpr_Print : Nat := 21
theorem k_sexpr_Print : chkFn Go.Proofs.Try.prog 10 n_sexpr_Print r_sexpr_Print c_sexpr_Print = true := by kernel_rfl
theorem f_sexpr_Print_bad (l : List Sx) (ho : SxsOk l) (hb : sxFault l ≠ okF) : Fc Go.Proofs.Try.prog 10 [.sl .p (l.map sxV)] (.tup [.str [], ftV (sxFault l)]) := by
  have hV := f_sexpr_Validate l ho
  refine Fn.step mixed k_sexpr_Print ?_
  repeat' (first | refine i_len rfl ?_ | refine i_s rfl ?_ | refine i_lenm rfl rfl rfl ?_ | refine c_seq ?_ | refine c_cut0 ?_ | refine c_ops ?_ | refine i_nil ?_ | refine e_seq ?_ | refine e_block ?_ | refine c_block ?_ | refine c_skip ?_ | refine c_ret ?_ | refine c_exit ?_ | refine e_exit rfl ?_ | refine i_s0 rfl ?_ | refine c_leaf ?_ | refine i_gt rfl ?_ | refine i_gf rfl ?_ | refine i_gd rfl ?_ | refine c_t rfl ?_ | refine c_f rfl ?_ | refine i_conv rfl (by simp only [InR, List.length_map]; omega) ?_ | refine i_add rfl rfl (by simp only [InR, List.length_map]; omega) ?_ | refine i_sub rfl rfl (by simp only [InR, List.length_map]; omega) ?_ | refine i_ixm rfl rfl (by assumption) ?_ | refine i_iai rfl rfl (by omega) (by assumption) rfl ?_ | refine i_iam rfl rfl (by assumption) rfl ?_ | refine i_tk rfl rfl (by omega) ?_ | refine i_stb rfl ?_ | refine i_alloc rfl ?_ | refine i_box rfl rfl ?_ | refine i_nv rfl ?_ | refine c_node ?_ ?_ | refine i_g rfl (fun h => ?_) (fun h => ?_) | refine c_cond rfl (fun h => ?_) (fun h => ?_) | refine i_f rfl rfl (hV) rfl ?_)
  all_goals first
    | exact e_ret ⟨rfl, _, rfl, rfl⟩
    | exact absurd (eq_ok (by assumption)) hb
theorem f_sexpr_Print_ok (l : List Sx) (ho : SxsOk l) (hb : SxOk l) : Fc Go.Proofs.Try.prog 10 [.sl .p (l.map sxV)] (.tup [.str (tx l (l.length - 1)), ftV okF]) := by
  have hV := f_sexpr_Validate l ho
  rw [sxOk_to hb] at hV
  obtain ⟨hl1, hl2⟩ := hb.len
  obtain ⟨n, hn⟩ := get_some (l := l) (k := l.length - 1) (by omega)
  have htl := tx_len (l.length - 1) l.length hb.node (by omega)
  have hsz := sz_leC (l.length - 1) l.length hb.node.chs (by omega)
  have hne := tx_ne (fun j hj => hb.node.low j (by omega)) hn
  refine Fn.step mixed k_sexpr_Print ?_
  repeat (first | refine i_len rfl ?_ | refine i_s rfl ?_ | refine i_lenm rfl rfl rfl ?_ | refine c_seq ?_ | refine c_cut0 ?_ | refine c_ops ?_ | refine i_nil ?_ | refine e_seq ?_ | refine e_block ?_ | refine c_block ?_ | refine c_skip ?_ | refine c_ret ?_ | refine c_exit ?_ | refine e_exit rfl ?_ | refine i_s0 rfl ?_ | refine c_leaf ?_ | refine i_gt rfl ?_ | refine i_gf rfl ?_ | refine i_gd rfl ?_ | refine c_t rfl ?_ | refine c_f rfl ?_ | refine i_conv rfl (by simp only [InR, List.length_map]; omega) ?_ | refine i_add rfl rfl (by simp only [InR, List.length_map]; omega) ?_ | refine i_sub rfl rfl (by simp only [InR, List.length_map]; omega) ?_ | refine i_ixm rfl rfl (by assumption) ?_ | refine i_iai rfl rfl (by omega) (by assumption) rfl ?_ | refine i_iam rfl rfl (by assumption) rfl ?_ | refine i_tk rfl rfl (by omega) ?_ | refine i_stb rfl ?_ | refine i_alloc rfl ?_ | refine i_box rfl rfl ?_ | refine i_nv rfl ?_ | refine i_f rfl rfl (hV) rfl ?_)
  refine c_frzb rfl rfl rfl ?_
  repeat (first | refine i_len rfl ?_ | refine i_s rfl ?_ | refine i_lenm rfl rfl rfl ?_ | refine c_seq ?_ | refine c_cut0 ?_ | refine c_ops ?_ | refine i_nil ?_ | refine e_seq ?_ | refine e_block ?_ | refine c_block ?_ | refine c_skip ?_ | refine c_ret ?_ | refine c_exit ?_ | refine e_exit rfl ?_ | refine i_s0 rfl ?_ | refine c_leaf ?_ | refine i_gt rfl ?_ | refine i_gf rfl ?_ | refine i_gd rfl ?_ | refine c_t rfl ?_ | refine c_f rfl ?_ | refine i_conv rfl (by simp only [InR, List.length_map]; omega) ?_ | refine i_add rfl rfl (by simp only [InR, List.length_map]; omega) ?_ | refine i_sub rfl rfl (by simp only [InR, List.length_map]; omega) ?_ | refine i_ixm rfl rfl (by assumption) ?_ | refine i_iai rfl rfl (by omega) (by assumption) rfl ?_ | refine i_iam rfl rfl (by assumption) rfl ?_ | refine i_tk rfl rfl (by omega) ?_ | refine i_stb rfl ?_ | refine i_alloc rfl ?_ | refine i_box rfl rfl ?_ | refine i_nv rfl ?_)
  refine c_nvb rfl rfl rfl rfl ?_
  repeat (first | refine i_len rfl ?_ | refine i_s rfl ?_ | refine i_lenm rfl rfl rfl ?_ | refine c_seq ?_ | refine c_cut0 ?_ | refine c_ops ?_ | refine i_nil ?_ | refine e_seq ?_ | refine e_block ?_ | refine c_block ?_ | refine c_skip ?_ | refine c_ret ?_ | refine c_exit ?_ | refine e_exit rfl ?_ | refine i_s0 rfl ?_ | refine c_leaf ?_ | refine i_gt rfl ?_ | refine i_gf rfl ?_ | refine i_gd rfl ?_ | refine c_t rfl ?_ | refine c_f rfl ?_ | refine i_conv rfl (by simp only [InR, List.length_map]; omega) ?_ | refine i_add rfl rfl (by simp only [InR, List.length_map]; omega) ?_ | refine i_sub rfl rfl (by simp only [InR, List.length_map]; omega) ?_ | refine i_ixm rfl rfl (by assumption) ?_ | refine i_iai rfl rfl (by omega) (by assumption) rfl ?_ | refine i_iam rfl rfl (by assumption) rfl ?_ | refine i_tk rfl rfl (by omega) ?_ | refine i_stb rfl ?_ | refine i_alloc rfl ?_ | refine i_box rfl rfl ?_ | refine i_nv rfl ?_)
  have hW := @ct_write Unit noH l ho hb.node (l.length - 1) (by omega) .nilptr (.inl rfl) [] (by simp; omega)
  rw [show ((l.length - 1 : Nat) : Int) = (l.length : Int) - 1 from by omega] at hW
  refine i_c rfl rfl rfl (hW _ (bld3_eq rfl rfl rfl fun nm h => restr_mem nm h) _) ?_
  rintro _ _ g ⟨rfl, rfl, rfl⟩
  rw [List.nil_append]
  generalize tx l (l.length - 1) = s at *
  refine i_nil ?_
  repeat (first | refine i_len rfl ?_ | refine i_s rfl ?_ | refine i_lenm rfl rfl rfl ?_ | refine c_seq ?_ | refine c_cut0 ?_ | refine c_ops ?_ | refine i_nil ?_ | refine e_seq ?_ | refine e_block ?_ | refine c_block ?_ | refine c_skip ?_ | refine c_ret ?_ | refine c_exit ?_ | refine e_exit rfl ?_ | refine i_s0 rfl ?_ | refine c_leaf ?_ | refine i_gt rfl ?_ | refine i_gf rfl ?_ | refine i_gd rfl ?_ | refine c_t rfl ?_ | refine c_f rfl ?_ | refine i_conv rfl (by simp only [InR, List.length_map]; omega) ?_ | refine i_add rfl rfl (by simp only [InR, List.length_map]; omega) ?_ | refine i_sub rfl rfl (by simp only [InR, List.length_map]; omega) ?_ | refine i_ixm rfl rfl (by assumption) ?_ | refine i_iai rfl rfl (by omega) (by assumption) rfl ?_ | refine i_iam rfl rfl (by assumption) rfl ?_ | refine i_tk rfl rfl (by omega) ?_ | refine i_stb rfl ?_ | refine i_alloc rfl ?_ | refine i_box rfl rfl ?_ | refine i_nv rfl ?_)
  refine i_c rfl rfl rfl ⟨ct_String (ρ := Go.Proofs.Try.bl_ren) Go.Proofs.Try.bl_169 Go.Proofs.Try.bl_x 51677047145794 6597070409921 bldN s hne (by omega) (by decide +kernel) (by decide +kernel) rfl rfl rfl (fun nm h => (restr_out (θ := θ0) h).1)⟩ ?_
  rintro _ _ g ⟨rfl, rfl, rfl⟩
  repeat (first | refine i_len rfl ?_ | refine i_s rfl ?_ | refine i_lenm rfl rfl rfl ?_ | refine c_seq ?_ | refine c_cut0 ?_ | refine c_ops ?_ | refine i_nil ?_ | refine e_seq ?_ | refine e_block ?_ | refine c_block ?_ | refine c_skip ?_ | refine c_ret ?_ | refine c_exit ?_ | refine e_exit rfl ?_ | refine i_s0 rfl ?_ | refine c_leaf ?_ | refine i_gt rfl ?_ | refine i_gf rfl ?_ | refine i_gd rfl ?_ | refine c_t rfl ?_ | refine c_f rfl ?_ | refine i_conv rfl (by simp only [InR, List.length_map]; omega) ?_ | refine i_add rfl rfl (by simp only [InR, List.length_map]; omega) ?_ | refine i_sub rfl rfl (by simp only [InR, List.length_map]; omega) ?_ | refine i_ixm rfl rfl (by assumption) ?_ | refine i_iai rfl rfl (by omega) (by assumption) rfl ?_ | refine i_iam rfl rfl (by assumption) rfl ?_ | refine i_tk rfl rfl (by omega) ?_ | refine i_stb rfl ?_ | refine i_alloc rfl ?_ | refine i_box rfl rfl ?_ | refine i_nv rfl ?_)
  exact e_ret ⟨rfl, _, rfl, rfl⟩
def c_R1_SexprText : Cmd :=
  (.seq
   (.ops [
   .op (some 4) none (.mov (.c (.str [])))])
   (.cut
   (.seq
   (.seq
   (.ops [
   .op (some 7) none (.mov (.t 0)),
   .op (some 8) none (.mov (.t 1)),
   .op (some 9) none (.iaddr 2 (.t 7) (.t 8)),
   .op (some 10) none (.faddr 0 (.t 9)),
   .op (some 11) none (.load false 1 (.t 10)),
   .op (some 12) none (.bin .neq false [.s] (.t 11) (.c (.str [])))])
   (.cut
   (.cond (.t 12)
   (.seq
   (.ops [
   .op (some 13) none (.mov (.t 0)),
   .op (some 14) none (.mov (.t 1)),
   .op (some 15) none (.iaddr 2 (.t 13) (.t 14)),
   .op (some 16) none (.faddr 0 (.t 15)),
   .op (some 17) none (.load false 1 (.t 16)),
   .op (some 4) none (.mov (.t 17))])
   .ret)
   .skip)))
   (.cut
   (.seq
   (.ops [
   .op (some 5) none (.mov (.c (.str [40])))])
   (.cut
   (.seq
   (.seq
   (.ops [
   .op (some 6) none (.mov (.c (.int .i64 (0))))])
   (.cut
   (.block 0
   (.loop
   (.seq
   (.seq
   (.ops [
   .op (some 18) none (.mov (.t 6)),
   .op (some 19) none (.mov (.t 0)),
   .op (some 20) none (.mov (.t 1)),
   .op (some 21) none (.iaddr 2 (.t 19) (.t 20)),
   .op (some 22) none (.faddr 1 (.t 21)),
   .op (some 23) none (.load false 1 (.t 22)),
   .op (some 24) none (.len false (.t 23)),
   .op (some 25) none (.bin .lss false [] (.t 18) (.t 24))])
   (.cut
   (.cond (.t 25)
   .skip
   (.exit 0))))
   (.cut
   (.seq
   (.block 1
   (.seq
   (.seq
   (.ops [
   .op (some 28) none (.mov (.t 6)),
   .op (some 29) none (.bin .gtr false [] (.t 28) (.c (.int .i64 (0))))])
   (.cut
   (.cond (.t 29)
   (.ops [
   .op (some 30) none (.mov (.t 5)),
   .op (some 31) none (.bin .add false [] (.t 30) (.c (.str [32]))),
   .op (some 5) none (.mov (.t 31))])
   .skip)))
   (.cut
   (.ops [
   .op (some 32) none (.mov (.t 5)),
   .op (some 33) none (.mov (.t 0)),
   .op (some 34) none (.mov (.t 0)),
   .op (some 35) none (.mov (.t 1)),
   .op (some 36) none (.iaddr 2 (.t 34) (.t 35)),
   .op (some 37) none (.faddr 1 (.t 36)),
   .op (some 38) none (.load false 1 (.t 37)),
   .op (some 39) none (.mov (.t 6)),
   .op (some 40) none (.iaddr 1 (.t 38) (.t 39)),
   .op (some 41) none (.load false 1 (.t 40)),
   .op (some 42) none (.call .f (.c (.fn 12 [])) [.t 33, .t 41]),
   .op (some 43) none (.bin .add false [] (.t 32) (.t 42)),
   .op (some 5) none (.mov (.t 43))]))))
   (.cut
   (.ops [
   .op (some 26) none (.mov (.t 6)),
   .op (some 27) none (.bin .add false [] (.t 26) (.c (.int .i64 (1)))),
   .op (some 6) none (.mov (.t 27))])))))))))
   (.cut
   (.seq
   (.ops [
   .op (some 44) none (.mov (.t 5)),
   .op (some 45) none (.bin .add false [] (.t 44) (.c (.str [41]))),
   .op (some 4) none (.mov (.t 45))])
   .ret)))))))))
def r_R1_SexprText : List RVar := [.tmp 4]
def n_R1_SexprText : Nat := 46
theorem k_R1_SexprText : chkFn Go.Proofs.Try.prog 12 n_R1_SexprText r_R1_SexprText c_R1_SexprText = true := by kernel_rfl
theorem f_R1_SexprText (l : List Sx) (ho : SxsOk l) (hl : l.length ≤ 300) (hv : okTo l l.length) : ∀ (i : Nat), i < l.length → Fc Go.Proofs.Try.prog 12 [.sl .p (l.map sxV), .int .i64 i] (.str (tx l i)) := by
  intro i
  induction i using Nat.strongRecOn with
  | ind i ih =>
    intro hi
    obtain ⟨n, hn⟩ := get_some hi
    have hlow : lowTo l (i + 1) := fun j hj => hv.low j (by omega)
    have htx := tx_eq hlow hn
    have hcl := (ho.e n (mem_get hn)).2
    have htl := tx_len i l.length hv hi
    have hsz := sz_leC i l.length hv.chs hi
    by_cases c1 : n.sym = []
    · rw [if_pos c1] at htx
      rw [htx] at htl ⊢
      simp only [List.length_cons, List.length_append, List.length_nil] at htl
      refine Fn.step mixed k_R1_SexprText ?_
      repeat' (first | refine i_len rfl ?_ | refine i_s rfl ?_ | refine i_lenm rfl rfl rfl ?_ | refine c_seq ?_ | refine c_cut0 ?_ | refine c_ops ?_ | refine i_nil ?_ | refine e_seq ?_ | refine e_block ?_ | refine c_block ?_ | refine c_skip ?_ | refine c_ret ?_ | refine c_exit ?_ | refine e_exit rfl ?_ | refine i_s0 rfl ?_ | refine c_leaf ?_ | refine i_gt rfl ?_ | refine i_gf rfl ?_ | refine i_gd rfl ?_ | refine c_t rfl ?_ | refine c_f rfl ?_ | refine i_conv rfl (by simp only [InR, List.length_map]; omega) ?_ | refine i_add rfl rfl (by simp only [InR, List.length_map]; omega) ?_ | refine i_sub rfl rfl (by simp only [InR, List.length_map]; omega) ?_ | refine i_ixm rfl rfl (by assumption) ?_ | refine i_iai rfl rfl (by omega) (by assumption) rfl ?_ | refine i_iam rfl rfl (by assumption) rfl ?_ | refine i_tk rfl rfl (by omega) ?_ | refine i_stb rfl ?_ | refine i_alloc rfl ?_ | refine i_box rfl rfl ?_ | refine i_nv rfl ?_ | refine c_node ?_ ?_ | refine i_g rfl (fun h => ?_) (fun h => ?_) | refine c_cond rfl (fun h => ?_) (fun h => ?_))
      all_goals first
        | (exfalso; clear ih ho hv; simp_all; done)
        | skip
      refine c_for n.ch.length (fun k => [(0, .sl .p (l.map sxV)), (1, .int .i64 i), (5, .str (40 :: joinF ((n.ch.take k).map fun c => tx l c.toNat))), (6, .int .i64 k)])
        (fun _ => []) (fun _ => True) trivial ⟨by repeat (first | exact trivial | refine ⟨rfl, ?_⟩), by repeat (first | exact trivial | refine ⟨rfl, ?_⟩), rfl⟩ fun k hk _ => ?_
      have hjl := joinF_take_len (n.ch.map fun c => tx l c.toNat) k
      rw [← List.map_take] at hjl
      repeat (first | refine i_len rfl ?_ | refine i_s rfl ?_ | refine i_lenm rfl rfl rfl ?_ | refine c_seq ?_ | refine c_cut0 ?_ | refine c_ops ?_ | refine i_nil ?_ | refine e_seq ?_ | refine e_block ?_ | refine c_block ?_ | refine c_skip ?_ | refine c_ret ?_ | refine c_exit ?_ | refine e_exit rfl ?_ | refine i_s0 rfl ?_ | refine c_leaf ?_ | refine i_gt rfl ?_ | refine i_gf rfl ?_ | refine i_gd rfl ?_ | refine c_t rfl ?_ | refine c_f rfl ?_ | refine i_conv rfl (by simp only [InR, List.length_map]; omega) ?_ | refine i_add rfl rfl (by simp only [InR, List.length_map]; omega) ?_ | refine i_sub rfl rfl (by simp only [InR, List.length_map]; omega) ?_ | refine i_ixm rfl rfl (by assumption) ?_ | refine i_iai rfl rfl (by omega) (by assumption) rfl ?_ | refine i_iam rfl rfl (by assumption) rfl ?_ | refine i_tk rfl rfl (by omega) ?_ | refine i_stb rfl ?_ | refine i_alloc rfl ?_ | refine i_box rfl rfl ?_ | refine i_nv rfl ?_)
      refine c_cond rfl (fun h => ?_) (fun h => ?_)
      · have hkl : k < n.ch.length := by simpa using h
        obtain ⟨c, hc⟩ := get_some hkl
        have hcr := hlow i (by omega) c (by rw [chL_get hn]; exact mem_get hc)
        have hj2 := joinF_take_len (n.ch.map fun c => tx l c.toNat) (k + 1)
        rw [← List.map_take, take_succ_get hc, List.map_append, List.map_singleton, joinF_snoc] at hj2
        have hR := ih c.toNat (by omega) (by omega)
        rw [show ((c.toNat : Nat) : Int) = c from by omega] at hR
        have hk0 : ((n.ch.take k).map fun c => tx l c.toNat) = [] ↔ k = 0 := by
          rw [List.map_eq_nil_iff, List.take_eq_nil_iff]
          constructor
          · rintro (h | h)
            · exact h
            · rw [h] at hkl; simp at hkl
          · exact .inl
        have e : joinF ((n.ch.take (k + 1)).map fun c => tx l c.toNat) = if k = 0 then tx l c.toNat else joinF ((n.ch.take k).map fun c => tx l c.toNat) ++ 32 :: tx l c.toNat := by
          rw [take_succ_get hc, List.map_append, List.map_singleton, joinF_snoc]
          by_cases h0 : k = 0
          · subst h0; simp
          · rw [if_neg h0, if_neg fun e => h0 (hk0.1 e)]
        clear h ih hv ho
        by_cases h0 : k = 0
        · subst h0
          rw [if_pos rfl] at e
          rw [if_pos (hk0.2 rfl)] at hj2
          have hJ0 : joinF ((n.ch.take 0).map fun c => tx l c.toNat) = [] := by simp [joinF]
          rw [hJ0]
          repeat' (first | refine i_len rfl ?_ | refine i_s rfl ?_ | refine i_lenm rfl rfl rfl ?_ | refine c_seq ?_ | refine c_cut0 ?_ | refine c_ops ?_ | refine i_nil ?_ | refine e_seq ?_ | refine e_block ?_ | refine c_block ?_ | refine c_skip ?_ | refine c_ret ?_ | refine c_exit ?_ | refine e_exit rfl ?_ | refine i_s0 rfl ?_ | refine c_leaf ?_ | refine i_gt rfl ?_ | refine i_gf rfl ?_ | refine i_gd rfl ?_ | refine c_t rfl ?_ | refine c_f rfl ?_ | refine i_conv rfl (by simp only [InR, List.length_map]; omega) ?_ | refine i_add rfl rfl (by simp only [InR, List.length_map]; omega) ?_ | refine i_sub rfl rfl (by simp only [InR, List.length_map]; omega) ?_ | refine i_ixm rfl rfl (by assumption) ?_ | refine i_iai rfl rfl (by omega) (by assumption) rfl ?_ | refine i_iam rfl rfl (by assumption) rfl ?_ | refine i_tk rfl rfl (by omega) ?_ | refine i_stb rfl ?_ | refine i_alloc rfl ?_ | refine i_box rfl rfl ?_ | refine i_nv rfl ?_ | refine c_node ?_ ?_ | refine i_g rfl (fun h => ?_) (fun h => ?_) | refine c_cond rfl (fun h => ?_) (fun h => ?_) | refine i_f rfl rfl (hR) rfl ?_ | refine i_cat rfl rfl (by simp only [List.length_append, List.length_cons, List.length_nil]; omega) ?_)
          all_goals first
            | (exfalso; have := of_decide_eq_true h; omega)
            | skip
          refine e_for hkl trivial ⟨⟨rfl, rfl, ?_, rfl, trivial⟩, trivial, rfl⟩
          rw [e]; rfl
        · rw [if_neg h0] at e
          rw [if_neg (fun e => h0 (hk0.1 e))] at hj2
          generalize joinF ((n.ch.take k).map fun c => tx l c.toNat) = J at *
          simp only [List.length_append, List.length_cons] at hj2
          repeat' (first | refine i_len rfl ?_ | refine i_s rfl ?_ | refine i_lenm rfl rfl rfl ?_ | refine c_seq ?_ | refine c_cut0 ?_ | refine c_ops ?_ | refine i_nil ?_ | refine e_seq ?_ | refine e_block ?_ | refine c_block ?_ | refine c_skip ?_ | refine c_ret ?_ | refine c_exit ?_ | refine e_exit rfl ?_ | refine i_s0 rfl ?_ | refine c_leaf ?_ | refine i_gt rfl ?_ | refine i_gf rfl ?_ | refine i_gd rfl ?_ | refine c_t rfl ?_ | refine c_f rfl ?_ | refine i_conv rfl (by simp only [InR, List.length_map]; omega) ?_ | refine i_add rfl rfl (by simp only [InR, List.length_map]; omega) ?_ | refine i_sub rfl rfl (by simp only [InR, List.length_map]; omega) ?_ | refine i_ixm rfl rfl (by assumption) ?_ | refine i_iai rfl rfl (by omega) (by assumption) rfl ?_ | refine i_iam rfl rfl (by assumption) rfl ?_ | refine i_tk rfl rfl (by omega) ?_ | refine i_stb rfl ?_ | refine i_alloc rfl ?_ | refine i_box rfl rfl ?_ | refine i_nv rfl ?_ | refine c_node ?_ ?_ | refine i_g rfl (fun h => ?_) (fun h => ?_) | refine c_cond rfl (fun h => ?_) (fun h => ?_) | refine i_f rfl rfl (hR) rfl ?_ | refine i_cat rfl rfl (by simp only [List.length_append, List.length_cons, List.length_nil]; omega) ?_)
          all_goals first
            | (exfalso; have := of_decide_eq_false h; omega)
            | skip
          refine e_for hkl trivial ⟨⟨rfl, rfl, ?_, rfl, trivial⟩, trivial, rfl⟩
          rw [e]
          show V.str _ = V.str _
          simp
      · have hge : k = n.ch.length := by have : ¬ k < n.ch.length := by simpa using h
                                         omega
        subst hge
        rw [List.take_length] at *
        clear h ih hv ho
        generalize joinF (n.ch.map fun c => tx l c.toNat) = J at *
        repeat' (first | refine i_len rfl ?_ | refine i_s rfl ?_ | refine i_lenm rfl rfl rfl ?_ | refine c_seq ?_ | refine c_cut0 ?_ | refine c_ops ?_ | refine i_nil ?_ | refine e_seq ?_ | refine e_block ?_ | refine c_block ?_ | refine c_skip ?_ | refine c_ret ?_ | refine c_exit ?_ | refine e_exit rfl ?_ | refine i_s0 rfl ?_ | refine c_leaf ?_ | refine i_gt rfl ?_ | refine i_gf rfl ?_ | refine i_gd rfl ?_ | refine c_t rfl ?_ | refine c_f rfl ?_ | refine i_conv rfl (by simp only [InR, List.length_map]; omega) ?_ | refine i_add rfl rfl (by simp only [InR, List.length_map]; omega) ?_ | refine i_sub rfl rfl (by simp only [InR, List.length_map]; omega) ?_ | refine i_ixm rfl rfl (by assumption) ?_ | refine i_iai rfl rfl (by omega) (by assumption) rfl ?_ | refine i_iam rfl rfl (by assumption) rfl ?_ | refine i_tk rfl rfl (by omega) ?_ | refine i_stb rfl ?_ | refine i_alloc rfl ?_ | refine i_box rfl rfl ?_ | refine i_nv rfl ?_ | refine c_node ?_ ?_ | refine i_g rfl (fun h => ?_) (fun h => ?_) | refine c_cond rfl (fun h => ?_) (fun h => ?_) | refine i_cat rfl rfl (by simp only [List.length_append, List.length_cons, List.length_nil]; omega) ?_)
        exact e_ret ⟨rfl, _, rfl, rfl⟩
    · rw [if_neg c1] at htx
      rw [htx]
      refine Fn.step mixed k_R1_SexprText ?_
      repeat' (first | refine i_len rfl ?_ | refine i_s rfl ?_ | refine i_lenm rfl rfl rfl ?_ | refine c_seq ?_ | refine c_cut0 ?_ | refine c_ops ?_ | refine i_nil ?_ | refine e_seq ?_ | refine e_block ?_ | refine c_block ?_ | refine c_skip ?_ | refine c_ret ?_ | refine c_exit ?_ | refine e_exit rfl ?_ | refine i_s0 rfl ?_ | refine c_leaf ?_ | refine i_gt rfl ?_ | refine i_gf rfl ?_ | refine i_gd rfl ?_ | refine c_t rfl ?_ | refine c_f rfl ?_ | refine i_conv rfl (by simp only [InR, List.length_map]; omega) ?_ | refine i_add rfl rfl (by simp only [InR, List.length_map]; omega) ?_ | refine i_sub rfl rfl (by simp only [InR, List.length_map]; omega) ?_ | refine i_ixm rfl rfl (by assumption) ?_ | refine i_iai rfl rfl (by omega) (by assumption) rfl ?_ | refine i_iam rfl rfl (by assumption) rfl ?_ | refine i_tk rfl rfl (by omega) ?_ | refine i_stb rfl ?_ | refine i_alloc rfl ?_ | refine i_box rfl rfl ?_ | refine i_nv rfl ?_ | refine c_node ?_ ?_ | refine i_g rfl (fun h => ?_) (fun h => ?_) | refine c_cond rfl (fun h => ?_) (fun h => ?_))
      all_goals first
        | exact e_ret ⟨rfl, _, rfl, rfl⟩
        | (exfalso; clear ih ho hv; simp_all; done)
end Hm
end

section
/- Reading expressions, in plain terms: what is read of a text, on what is left of it. No program in sight. -/
namespace Hm
set_option linter.unusedVariables false
set_option linter.unusedSimpArgs false
open Go
def blankB (c : UInt8) : Bool := decide (c ∈ ([32, 9, 10] : List UInt8))
def sk (s : List UInt8) : List UInt8 := s.dropWhile blankB
structure PR where
  rest : List UInt8
  new : List Sx
  ch : List Int
  code : Int
/-- A node (true) or the elements of a list (false); b nodes were read before. -/
def prs : Nat → Bool → Nat → List UInt8 → Nat → List Int → PR
  | 0, _, _, s, _, _ => ⟨s, [], [], 1⟩
  | f + 1, true, d, s, b, _ => match sk s with
    | [] => ⟨[], [], [], 1⟩
    | c :: r => if c ≠ 40 ∧ symB c = false then ⟨c :: r, [], [], 1⟩ else if d = 12 then ⟨c :: r, [], [], 10⟩ else if c ≠ 40 then
        (if ((c :: r).takeWhile symB).length > 12 then ⟨c :: r, [], [], 1⟩ else ⟨(c :: r).dropWhile symB, [⟨(c :: r).takeWhile symB, []⟩], [], 0⟩)
      else if (prs f false d r b []).code ≠ 0 then ⟨(prs f false d r b []).rest, (prs f false d r b []).new, [], (prs f false d r b []).code⟩
      else ⟨(prs f false d r b []).rest, (prs f false d r b []).new ++ [⟨[], (prs f false d r b []).ch⟩], [], 0⟩
  | f + 1, false, d, s, b, acc => if (sk s).head? = some 41 then ⟨(sk s).tail, [], acc, 0⟩
    else if (prs f true (d + 1) (sk s) b []).code ≠ 0 then ⟨(prs f true (d + 1) (sk s) b []).rest, (prs f true (d + 1) (sk s) b []).new, [], (prs f true (d + 1) (sk s) b []).code⟩
    else ⟨(prs f false d (prs f true (d + 1) (sk s) b []).rest (b + (prs f true (d + 1) (sk s) b []).new.length) (acc ++ [((b + (prs f true (d + 1) (sk s) b []).new.length : Nat) : Int) - 1])).rest,
      (prs f true (d + 1) (sk s) b []).new ++ (prs f false d (prs f true (d + 1) (sk s) b []).rest (b + (prs f true (d + 1) (sk s) b []).new.length) (acc ++ [((b + (prs f true (d + 1) (sk s) b []).new.length : Nat) : Int) - 1])).new,
      (prs f false d (prs f true (d + 1) (sk s) b []).rest (b + (prs f true (d + 1) (sk s) b []).new.length) (acc ++ [((b + (prs f true (d + 1) (sk s) b []).new.length : Nat) : Int) - 1])).ch,
      (prs f false d (prs f true (d + 1) (sk s) b []).rest (b + (prs f true (d + 1) (sk s) b []).new.length) (acc ++ [((b + (prs f true (d + 1) (sk s) b []).new.length : Nat) : Int) - 1])).code⟩
theorem sk_suf (s : List UInt8) : sk s <:+ s := List.dropWhile_suffix _
theorem sk_head {s : List UInt8} {c : UInt8} {r : List UInt8} (h : sk s = c :: r) : blankB c = false := by
  unfold sk at h
  have := List.head?_dropWhile_not blankB s
  rw [h] at this
  simpa using this
theorem sk_cons {c : UInt8} {r : List UInt8} (h : blankB c = true) : sk (c :: r) = sk r := by unfold sk; rw [List.dropWhile_cons_of_pos h]
theorem sk_stop {c : UInt8} {r : List UInt8} (h : blankB c = false) : sk (c :: r) = c :: r := by unfold sk; rw [List.dropWhile_cons_of_neg (by simp [h])]
theorem sk_idem (s : List UInt8) : sk (sk s) = sk s := by
  cases h : sk s with
  | nil => rfl
  | cons c r => exact sk_stop (sk_head h)
theorem tw_pos {c : UInt8} {r : List UInt8} (h : symB c = true) : ((c :: r).dropWhile symB).length < (c :: r).length ∧ 0 < ((c :: r).takeWhile symB).length := by
  rw [List.dropWhile_cons_of_pos h, List.takeWhile_cons_of_pos h]
  have := (List.dropWhile_suffix symB (l := r)).length_le
  simp; omega
/-- What is left is an end of what was there; each node takes a byte. -/
theorem prs_facts : ∀ (f : Nat) (m : Bool) (d : Nat) (s : List UInt8) (b : Nat) (acc : List Int), (prs f m d s b acc).rest <:+ s ∧ (prs f m d s b acc).new.length + (prs f m d s b acc).rest.length ≤ s.length ∧ (prs f m d s b acc).ch.length + (prs f m d s b acc).rest.length ≤ acc.length + s.length ∧
    ((prs f m d s b acc).code = 0 → (prs f m d s b acc).rest.length < s.length ∧ (m = true → 0 < (prs f m d s b acc).new.length))
  | 0, m, d, s, b, acc => by
    simp only [prs]
    exact ⟨List.suffix_refl s, by simp, by simp, fun h => by cases h⟩
  | f + 1, true, d, s, b, acc => by
    have hs := sk_suf s
    have hsl := hs.length_le
    simp only [prs]
    split
    · exact ⟨List.nil_suffix, by simp, by simp, fun h => by cases h⟩
    · rename_i c r hc
      rw [hc] at hs hsl
      simp only [List.length_cons] at hsl
      split
      · exact ⟨hs, by simp; omega, by simp; omega, fun h => by cases h⟩
      · rename_i h1
        split
        · exact ⟨hs, by simp; omega, by simp; omega, fun h => by cases h⟩
        · split
          · rename_i h40
            have hsym : symB c = true := by
              cases h : symB c with
              | true => rfl
              | false => exact absurd ⟨h40, h⟩ h1
            obtain ⟨q1, q2⟩ := tw_pos (r := r) hsym
            split
            · exact ⟨hs, by simp; omega, by simp; omega, fun h => by cases h⟩
            · refine ⟨(List.dropWhile_suffix _).trans hs, ?_, ?_, fun _ => ⟨?_, fun _ => by simp⟩⟩
              · simp only [List.length_cons, List.length_nil] at q1 ⊢; omega
              · simp only [List.length_cons, List.length_nil] at q1 ⊢; omega
              · simp only [List.length_cons] at q1 ⊢; omega
          · obtain ⟨i1, i2, i3, i4⟩ := prs_facts f false d r b []
            have hr : r <:+ s := (List.suffix_cons c r).trans hs
            split
            · exact ⟨i1.trans hr, by simp only; omega, by simp; omega, fun h => by simp only at h; contradiction⟩
            · rename_i h5
              have := (i4 (by simpa using h5)).1
              refine ⟨i1.trans hr, by simp; omega, by simp; omega, fun _ => ⟨by simp only; omega, fun _ => by simp⟩⟩
  | f + 1, false, d, s, b, acc => by
    have hs := sk_suf s
    have hsl := hs.length_le
    simp only [prs]
    split
    · rename_i h1
      cases hc : sk s with
      | nil => rw [hc] at h1; cases h1
      | cons c r =>
        rw [hc] at hs hsl
        simp only [List.length_cons] at hsl
        exact ⟨(List.suffix_cons c r).trans hs, by simp; omega, by simp; omega, fun _ => ⟨by simp; omega, fun h => by cases h⟩⟩
    · obtain ⟨i1, i2, i3, i4⟩ := prs_facts f true (d + 1) (sk s) b []
      generalize prs f true (d + 1) (sk s) b [] = q at *
      split
      · exact ⟨i1.trans hs, by simp; omega, by simp; omega, fun h => by simp only at h; contradiction⟩
      · rename_i h5
        have h6 := i4 (by simpa using h5)
        obtain ⟨j1, j2, j3, j4⟩ := prs_facts f false d q.rest (b + q.new.length) (acc ++ [((b + q.new.length : Nat) : Int) - 1])
        generalize prs f false d q.rest (b + q.new.length) (acc ++ [((b + q.new.length : Nat) : Int) - 1]) = q2 at *
        simp only [List.length_append, List.length_singleton] at j3
        refine ⟨(j1.trans i1).trans hs, by simp; omega, by simp only; omega, fun h => ⟨by have := (j4 h).1; simp only; omega, fun h => by cases h⟩⟩
/-- More patience changes nothing. -/
theorem prs_fuel : ∀ (f g : Nat) (m : Bool) (d : Nat) (s : List UInt8) (b : Nat) (acc : List Int), 2 * s.length + (if m then 1 else 2) ≤ f → 2 * s.length + (if m then 1 else 2) ≤ g → prs f m d s b acc = prs g m d s b acc
  | 0, g, m, d, s, b, acc, h, _ => by cases m <;> simp at h <;> omega
  | f + 1, 0, m, d, s, b, acc, _, h => by cases m <;> simp at h <;> omega
  | f + 1, g + 1, true, d, s, b, acc, h1, h2 => by
    have hsl := (sk_suf s).length_le
    simp only [if_true] at h1 h2
    simp only [prs]
    split
    · rfl
    · rename_i c r hc
      rw [hc] at hsl
      simp only [List.length_cons] at hsl
      rw [prs_fuel f g false d r b [] (by simp; omega) (by simp; omega)]
  | f + 1, g + 1, false, d, s, b, acc, h1, h2 => by
    have hsl := (sk_suf s).length_le
    simp only [Bool.false_eq_true, if_false] at h1 h2
    simp only [prs]
    split
    · rfl
    · rw [prs_fuel f g true (d + 1) (sk s) b [] (by simp; omega) (by simp; omega)]
      obtain ⟨i1, i2, i3, i4⟩ := prs_facts g true (d + 1) (sk s) b []
      generalize prs g true (d + 1) (sk s) b [] = q at *
      split
      · rfl
      · rename_i h5
        have h6 := (i4 (by simpa using h5)).1
        rw [prs_fuel f g false d q.rest _ _ (by simp; omega) (by simp; omega)]
theorem suf_get {s t : List UInt8} {c : UInt8} {r : List UInt8} (h : s <:+ t) (e : s = c :: r) : t[((t.length : Int) - s.length).toNat]? = some c := by
  obtain ⟨p, rfl⟩ := h
  subst e
  rw [show (((p ++ c :: r).length : Int) - (c :: r).length).toNat = p.length from by simp]
  rw [List.getElem?_append_right (Nat.le_refl _)]
  simp
end Hm
end
