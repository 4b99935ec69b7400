/- Part VC of the proof. -/
import Derived.Test.YtojbakjdbodidaaGreatVB
set_option linter.unusedVariables false
set_option linter.unusedSimpArgs false
section
namespace Hm
open Go
section
variable {G : Type} {J : JT G} {w w' w'' : World} {S F S' F' S'' F'' : Nat → Prop} {θ θ' θ'' : Names} {σ σ' σ'' : Store} {l n : Nat} {g g' : G}
variable {P : Program} {o : Oper} {a : Act} {ρ : Env} {H : HT G} {s0 : Start}
theorem range_join {pf wo : List Nat} {R : RP} {st : Store × G × Option Exit} {W1 : World} {F1 : Nat → Prop} {θ2 : Names} {F2 : Nat → Prop} {lx : Nat} (hdis : ∀ nm, nm ∈ pf → nm ∉ wo)
  (hs1 : St J w S F θ σ l g) (hall : ∀ nm, σ nm ≠ .unused → nm ∈ pf ∨ nm ∈ wo)
  (hw1 : W1.heap.size = w.heap.size + 2) (hos : W1.os = w.os) (htape : W1.tape = w.tape) (hout : Out w W1) (hold : ∀ b, b < w.heap.size → W1.heap[b]? = w.heap[b]?)
  (hRl : R.l = w.heap.size + 1) (hRr : R.r = w.heap.size) (hRB : R.wB = w ∧ R.SB = S ∧ R.FB = F ∧ R.θB = restrN wo θ ∧ R.σB = restr wo σ ∧ R.wo = wo)
  (hF1 : ∀ b, F1 b ↔ F b ∨ LiveB (restrN wo θ) (restr wo σ) b ∨ b = R.l ∨ b = R.r)
  (hs' : St (RJ J l R) w' S' F' θ' σ' lx st) (h2 : RJc J l R st w' S' F' θ2 F2) (hfr : Fr W1 S F1 (restrN pf θ) (restr pf σ) w' S' F' θ' σ') (hun : ∀ nm, nm ∉ pf → σ' nm = .unused) (hnr : noRndSt σ' pf = true) :
  St J w' S' F2 (mergeN pf θ2 θ') (merge pf st.1 σ') l st.2.1 ∧ Fr w S F θ σ w' S' F2 (mergeN pf θ2 θ') (merge pf st.1 σ') ∧ (∀ v x, Rep w' S' θ2 st.1 l v x → Rep w' S' (mergeN pf θ2 θ') (merge pf st.1 σ') l v x) ∧
   ¬ LiveB (mergeN pf θ2 θ') (merge pf st.1 σ') R.l ∧ ¬ LiveB (mergeN pf θ2 θ') (merge pf st.1 σ') R.r := by
 obtain ⟨hB1, hB2, hB3, hB4, hB5, hB6⟩ := hRB
 have hun' : ∀ nm, σ' nm ≠ .unused → nm ∈ pf := fun nm h => by
  by_cases hm : nm ∈ pf
  · exact hm
  · exact absurd (hun nm hm) h
 have hwo' : ∀ nm, st.1 nm ≠ .unused → nm ∈ wo := fun nm h => by
  by_cases hm : nm ∈ wo
  · exact hm
  · exact absurd (h2.hwo nm (by rw [hB6]; exact hm)) h
 have e1 : ∀ nm, σ' nm ≠ .unused → merge pf st.1 σ' nm = σ' nm ∧ mergeN pf θ2 θ' nm = θ' nm := fun nm h => merge_in (hun' nm h)
 have e2 : ∀ nm, st.1 nm ≠ .unused → merge pf st.1 σ' nm = st.1 nm ∧ mergeN pf θ2 θ' nm = θ2 nm := fun nm h => merge_out (fun hm => hdis nm hm (hwo' nm h))
 have liveM : ∀ b, LiveB (mergeN pf θ2 θ') (merge pf st.1 σ') b → LiveB θ' σ' b ∨ LiveB θ2 st.1 b := by
  rintro b ⟨nm, m, k1, k2⟩
  by_cases hm : nm ∈ pf
  · obtain ⟨q1, q2⟩ := merge_in (σ := st.1) (σ' := σ') (θ := θ2) (θ' := θ') hm
    exact .inl ⟨nm, m, by rw [← q1]; exact k1, by rw [← q2]; exact k2⟩
  · obtain ⟨q1, q2⟩ := merge_out (σ := st.1) (σ' := σ') (θ := θ2) (θ' := θ') hm
    exact .inr ⟨nm, m, by rw [← q1]; exact k1, by rw [← q2]; exact k2⟩
 have clash : ∀ b, LiveB θ' σ' b → LiveB θ2 st.1 b → False := fun b k1 k2 => (hs'.hF b ((h2.hFe b).2 (.inr (.inl k2)))).2.2 k1
 have livePf : ∀ b, LiveB (restrN pf θ) (restr pf σ) b → LiveB θ σ b := fun b h => restr_live (fun nm hm => restr_in hm) (fun nm hm => restr_out hm) h
 have liveWo : ∀ b, LiveB (restrN wo θ) (restr wo σ) b → LiveB θ σ b := fun b h => restr_live (fun nm hm => restr_in hm) (fun nm hm => restr_out hm) h
 have liveLt : ∀ b, LiveB θ σ b → b < w.heap.size := fun b ⟨nm, m, k1, k2⟩ => live_lt hs1 k1 k2
 have kn := h2.frn
 rw [hB1, hB2, hB4, hB5] at kn
 refine ⟨⟨hs'.hS, fun nm => ?_, fun n1 n2 b m m' k1 k2 k3 k4 => ?_, fun b hb hS => ?_, fun b hb => ?_, h2.st2.hJ⟩, ?_, fun v x hr => hr.ext e2, fun hl => ?_, fun hl => ?_⟩
 · by_cases hm : nm ∈ pf
   · obtain ⟨q1, q2⟩ := merge_in (σ := st.1) (σ' := σ') (θ := θ2) (θ' := θ') hm
     exact BlkOk.ext (hs'.hblk nm) e1 q1 q2 (fun row hrow => .inl ((noRndSt_iff σ' pf).1 hnr nm hm row hrow))
   · obtain ⟨q1, q2⟩ := merge_out (σ := st.1) (σ' := σ') (θ := θ2) (θ' := θ') hm
     exact BlkOk.ext (h2.st2.hblk nm) e2 q1 q2 (fun row hrow => .inr rfl)
 · by_cases m1 : n1 ∈ pf
   · obtain ⟨q1, q2⟩ := merge_in (σ := st.1) (σ' := σ') (θ := θ2) (θ' := θ') m1
     rw [q1] at k1
     rw [q2] at k3
     by_cases m2 : n2 ∈ pf
     · obtain ⟨q3, q4⟩ := merge_in (σ := st.1) (σ' := σ') (θ := θ2) (θ' := θ') m2
       exact hs'.hinj n1 n2 b m m' k1 (by rw [← q3]; exact k2) k3 (by rw [← q4]; exact k4)
     · obtain ⟨q3, q4⟩ := merge_out (σ := st.1) (σ' := σ') (θ := θ2) (θ' := θ') m2
       exact (clash b ⟨n1, m, k1, k3⟩ ⟨n2, m', by rw [← q3]; exact k2, by rw [← q4]; exact k4⟩).elim
   · obtain ⟨q1, q2⟩ := merge_out (σ := st.1) (σ' := σ') (θ := θ2) (θ' := θ') m1
     rw [q1] at k1
     rw [q2] at k3
     by_cases m2 : n2 ∈ pf
     · obtain ⟨q3, q4⟩ := merge_in (σ := st.1) (σ' := σ') (θ := θ2) (θ' := θ') m2
       exact (clash b ⟨n2, m', by rw [← q3]; exact k2, by rw [← q4]; exact k4⟩ ⟨n1, m, k1, k3⟩).elim
     · obtain ⟨q3, q4⟩ := merge_out (σ := st.1) (σ' := σ') (θ := θ2) (θ' := θ') m2
       exact h2.st2.hinj n1 n2 b m m' k1 (by rw [← q3]; exact k2) k3 (by rw [← q4]; exact k4)
 · rcases liveM b hb with k | k
   · exact hs'.hliveS b k hS
   · exact h2.st2.hliveS b k hS
 · obtain ⟨k1, k2, k3⟩ := h2.st2.hF b hb
   refine ⟨k1, k2, fun hl => ?_⟩
   rcases liveM b hl with k | k
   · exact (hs'.hF b ((h2.hFe b).2 (.inl hb))).2.2 k
   · exact k3 k
 · exact {
    size := by have := hfr.size; omega
    os := hfr.os.trans hos
    tape := hfr.tape.trans htape
    output := hfr.output.trans hout
    same := fun b hb hl hF => by
     rw [hfr.same b (by omega) (fun h => hl (livePf b h)) (fun h => by
      rcases (hF1 b).1 h with k | k | k | k
      · exact hF k
      · exact hl (liveWo b k)
      · omega
      · omega)]
     exact hold b hb
    sized := fun b c e fr hc => by
     obtain ⟨c', f, q1, q2, q3⟩ := hfr.sized b c e fr (by rw [hold b (Array.getElem?_eq_some_iff.1 hc).1]; exact hc)
     refine ⟨c', f, q1, q2, q3.imp id fun q4 => ⟨q4.1, fun hl => ?_⟩⟩
     rcases liveM b hl with k | k
     · exact hs'.hliveS b k q4.1
     · exact h2.st2.hliveS b k q4.1
    vecs := fun nm k b m k1 k2 j hj => by
     rcases hall nm (by rw [k1]; intro h; cases h) with hm | hm
     · obtain ⟨q1, q2⟩ := restr_in (σ := σ) (θ := θ) hm
       rw [hfr.vecs nm k b m (by rw [q1]; exact k1) (by rw [q2]; exact k2) j hj]
       exact cell_of_heap (hold b (live_lt hs1 (live_vec k1) k2))
     · obtain ⟨q1, q2⟩ := restr_in (σ := σ) (θ := θ) hm
       exact kn.vecs nm k b m (by rw [q1]; exact k1) (by rw [q2]; exact k2) j hj
    smono := hfr.smono
    snew := fun b hb => by
     rcases hfr.snew b hb with k | k | k | k
     · exact .inl k
     · exact .inr (.inl (livePf b k))
     · rcases (hF1 b).1 k with k | k | k | k
       · exact .inr (.inr (.inl k))
       · exact .inr (.inl (liveWo b k))
       · exact .inr (.inr (.inr (by omega)))
       · exact .inr (.inr (.inr (by omega)))
     · exact .inr (.inr (.inr (by omega)))
    live := fun b hb hlt => by
     rcases liveM b hb with k | k
     · exact livePf b (hfr.live b k (by omega))
     · exact liveWo b (kn.live b k hlt)
    fsub := fun b hb hlt => by
     have := h2.fsub b hb (by rw [hB1]; exact hlt)
     rw [hB3] at this
     exact this
    kdead := fun nm k1 => by
     rcases hall nm (by rw [k1]; intro h; cases h) with hm | hm
     · rw [(merge_in (σ := st.1) (σ' := σ') (θ := θ2) (θ' := θ') hm).1]
       exact hfr.kdead nm (by rw [(restr_in (σ := σ) (θ := θ) hm).1]; exact k1)
     · rw [(merge_out (σ := st.1) (σ' := σ') (θ := θ2) (θ' := θ') (fun h => hdis nm h hm)).1]
       exact kn.kdead nm (by rw [(restr_in (σ := σ) (θ := θ) hm).1]; exact k1)
    kbox := fun nm row k1 => by
     rcases hall nm (by rw [k1]; intro h; cases h) with hm | hm
     · obtain ⟨q1, q2⟩ := merge_in (σ := st.1) (σ' := σ') (θ := θ2) (θ' := θ') hm
       obtain ⟨q3, q4⟩ := restr_in (σ := σ) (θ := θ) hm
       rw [q1, q2, ← q4]
       exact hfr.kbox nm row (by rw [q3]; exact k1)
     · obtain ⟨q1, q2⟩ := merge_out (σ := st.1) (σ' := σ') (θ := θ2) (θ' := θ') (fun h => hdis nm h hm)
       obtain ⟨q3, q4⟩ := restr_in (σ := σ) (θ := θ) hm
       rw [q1, q2, ← q4]
       exact kn.kbox nm row (by rw [q3]; exact k1)
    karr := fun nm gen rows k1 => by
     rcases hall nm (by rw [k1]; intro h; cases h) with hm | hm
     · obtain ⟨q1, q2⟩ := merge_in (σ := st.1) (σ' := σ') (θ := θ2) (θ' := θ') hm
       obtain ⟨q3, q4⟩ := restr_in (σ := σ) (θ := θ) hm
       rw [q1, q2, ← q4]
       exact hfr.karr nm gen rows (by rw [q3]; exact k1)
     · obtain ⟨q1, q2⟩ := merge_out (σ := st.1) (σ' := σ') (θ := θ2) (θ' := θ') (fun h => hdis nm h hm)
       obtain ⟨q3, q4⟩ := restr_in (σ := σ) (θ := θ) hm
       rw [q1, q2, ← q4]
       exact kn.karr nm gen rows (by rw [q3]; exact k1)
    kvec := fun nm k k1 => by
     rcases hall nm (by rw [k1]; intro h; cases h) with hm | hm
     · obtain ⟨q1, q2⟩ := merge_in (σ := st.1) (σ' := σ') (θ := θ2) (θ' := θ') hm
       obtain ⟨q3, q4⟩ := restr_in (σ := σ) (θ := θ) hm
       rw [q1, q2, ← q4]
       exact hfr.kvec nm k (by rw [q3]; exact k1)
     · obtain ⟨q1, q2⟩ := merge_out (σ := st.1) (σ' := σ') (θ := θ2) (θ' := θ') (fun h => hdis nm h hm)
       obtain ⟨q3, q4⟩ := restr_in (σ := σ) (θ := θ) hm
       rw [q1, q2, ← q4]
       exact kn.kvec nm k (by rw [q3]; exact k1)
    kmp := fun nm k ns vs k1 => by
     rcases hall nm (by rw [k1]; intro h; cases h) with hm | hm
     · obtain ⟨q1, q2⟩ := merge_in (σ := st.1) (σ' := σ') (θ := θ2) (θ' := θ') hm
       obtain ⟨q3, q4⟩ := restr_in (σ := σ) (θ := θ) hm
       rw [q1, q2, ← q4]
       exact hfr.kmp nm k ns vs (by rw [q3]; exact k1)
     · obtain ⟨q1, q2⟩ := merge_out (σ := st.1) (σ' := σ') (θ := θ2) (θ' := θ') (fun h => hdis nm h hm)
       obtain ⟨q3, q4⟩ := restr_in (σ := σ) (θ := θ) hm
       rw [q1, q2, ← q4]
       exact kn.kmp nm k ns vs (by rw [q3]; exact k1) }
 · rcases liveM _ hl with k | k
   · exact (hs'.hF _ ((h2.hFe _).2 (.inr (.inr (.inl rfl))))).2.2 k
   · exact h2.hl.2.2 k
 · rcases liveM _ hl with k | k
   · exact (hs'.hF _ ((h2.hFe _).2 (.inr (.inr (.inr rfl))))).2.2 k
   · exact h2.hr.2.2 k
end
section
variable {G : Type} {J : JT G} {w w' w'' : World} {S F S' F' S'' F'' : Nat → Prop} {θ θ' θ'' : Names} {σ σ' σ'' : Store} {l n : Nat} {g g' : G}
variable {P : Program} {o : Oper} {a : Act} {ρ : Env} {H : HT G} {s0 : Start}
theorem def_lt {ds : List Deferred} (h : DefOk w S F θ σ ds) {d : Deferred} (hd : d ∈ ds) : ∃ r, d.target = .collected r ∧ r < w.heap.size := by
 induction ds with
 | nil => cases hd
 | cons x ds ih =>
  obtain ⟨⟨r, h1, h2, _⟩, h3⟩ := h
  rcases List.mem_cons.1 hd with rfl | hd
  · exact ⟨r, h1, (Array.getElem?_eq_some_iff.1 h2).1⟩
  · exact ih h3 hd
theorem rangeF_wp {pf : List Nat} {f : Opd} {ps : List Nat} {ca cb : Cmd} {gop : Operand} {qs : Array Tmp} {asg body : Code} {pn : List Nat} {Q : Exit → Env → Store → G → Prop} (hst : Stable J) (hM : MonoH H) (hH : HokS P J H l)
  (ha : Sound P H n true ca asg) (hb : Sound P H n true cb body) (hf : chkOpd gop f = true) (hps : ps = qs.toList) (hpsn : ∀ p ∈ ps, p < n) (hpn : ∀ nm, s0.σ nm ≠ .unused → nm ∈ pn)
  (h : Cur J l n s0 w S F θ σ g ρ a) (hw : AW P H pn (.rangeF pf f ps ca cb) ρ σ g Q) : (Code.rangeFunc gop qs asg body).wpIn (wf none) 0 P (PostA J l n s0 Q) a w := by
 simp only [AW] at hw
 split at hw
 case h_2 => exact hw.elim
 rename_i fid caps hfv
 obtain ⟨E, Sg, hfit, hck, hct⟩ := hw
 simp only [Bool.and_eq_true] at hck
 obtain ⟨⟨⟨⟨⟨⟨c1, c2⟩, c3⟩, c6⟩, c7⟩, c4⟩, c5⟩ := hck
 have hfr := opd_rep h.env hf
 rw [hfv] at hfr
 have hcur := h.weaken hpn hfit
 obtain ⟨hfE, hfS, hfB⟩ := hfit
 obtain ⟨N, hN⟩ : ∃ N, N = Sg.map (·.1) := ⟨_, rfl⟩
 rw [← hN] at c1 c4 c5 hct hcur
 obtain ⟨wo, hwo⟩ : ∃ wo, wo = without pf N := ⟨_, rfl⟩
 rw [← hwo] at c4 c5 hct
 obtain ⟨σ1, hσ1⟩ : ∃ σ1, σ1 = stOf Sg := ⟨_, rfl⟩
 rw [← hσ1] at c3 c5 c7 hct hcur
 obtain ⟨θ1, hθ1⟩ : ∃ θ1, θ1 = restrN N θ := ⟨_, rfl⟩
 rw [← hθ1] at hcur
 have hpfN : ∀ nm ∈ pf, nm ∈ N := fun nm hm => (hasAll_iff _ _).1 c1 nm hm
 have hwoN : ∀ nm, nm ∈ wo ↔ nm ∈ N ∧ nm ∉ pf := fun nm => by rw [hwo]; exact mem_without pf N nm
 have hσN : ∀ nm, nm ∈ N → σ1 nm = σ nm ∧ θ1 nm = θ nm := fun nm hm => by
  rw [hσ1, hθ1]
  exact ⟨(fitsS_mem hfS nm).1 (by rw [← hN]; exact hm), (restr_in (σ := σ) hm).2⟩
 have hσu : ∀ nm, nm ∉ N → σ1 nm = .unused := fun nm hm => by
  rw [hσ1]
  exact (fitsS_mem hfS nm).2 (by rw [← hN]; exact hm)
 have hall : ∀ nm, σ1 nm ≠ .unused → nm ∈ pf ∨ nm ∈ wo := fun nm hnm => by
  by_cases hm : nm ∈ pf
  · exact .inl hm
  · refine .inr ((hwoN nm).2 ⟨?_, hm⟩)
    by_cases hmN : nm ∈ N
    · exact hmN
    · exact absurd (hσu nm hmN) hnm
 have hs1 := hcur.st
 obtain ⟨cs, hfe, hcl, hcr⟩ := hfr.fn_inv
 refine wpIn_rangeFunc fun fn _ => ?_
 obtain ⟨R, hR⟩ : ∃ R : RP, R = { l := w.heap.size + 1, r := w.heap.size, fn, tmps := a.tmps, qs, asg, body, E, wo, wB := w, SB := S, FB := F, θB := restrN wo θ1, σB := restr wo σ1 } := ⟨_, rfl⟩
 obtain ⟨W1, hW1⟩ : ∃ W1, W1 = (w.alloc (.deferred (some []))).alloc (.loop (R.rc .ready none)) := ⟨_, rfl⟩
 have hz1 : W1.heap.size = w.heap.size + 2 := by rw [hW1]; simp
 have hold : ∀ b, b < w.heap.size → W1.heap[b]? = w.heap[b]? := fun b hb => by
  rw [hW1, heap_alloc_old' _ _ (by simp; omega), heap_alloc_old' _ _ hb]
 have hlo : W1.heap[w.heap.size + 1]? = some (.loop (R.rc .ready none)) := by
  rw [hW1]; have := heap_alloc_new' (w.alloc (.deferred (some []))) (.loop (R.rc .ready none)); rwa [World.size_alloc] at this
 have hde : W1.heap[w.heap.size]? = some (.deferred (some [])) := by
  rw [hW1, heap_alloc_old' _ _ (by simp)]; exact heap_alloc_new' w _
 have hlt1 : ∀ b, LiveB θ1 σ1 b → b < w.heap.size := fun b ⟨nm, m, k1, k2⟩ => live_lt hs1 k1 k2
 have hsub : ∀ pl : List Nat, ∀ b, LiveB (restrN pl θ1) (restr pl σ1) b → LiveB θ1 σ1 b := fun pl b hb => restr_live (fun nm hm => restr_in hm) (fun nm hm => restr_out hm) hb
 have mkStay : ∀ pl : List Nat, Stays w S F (restrN pl θ1) (restr pl σ1) W1 S := fun pl => {
  size := by omega
  os := by rw [hW1]; rfl
  tape := by rw [hW1]; rfl
  output := ⟨by rw [hW1]; rfl, by rw [hW1]; exact fun _ => Nat.le_refl _⟩
  same := fun b hb => hold b (by
   rcases hb with hb | hb | hb
   · exact hs1.hS b hb
   · exact (hs1.hF b hb).1
   · exact hlt1 b (hsub pl b hb))
  sized := fun b c e fr hc => ⟨c, fr, by rw [hold b (Array.getElem?_eq_some_iff.1 hc).1]; exact hc, rfl, .inl rfl⟩
  smono := fun _ h => h
  sok := fun b hb => ⟨by have := hs1.hS b hb; omega, fun hf => (hs1.hF b hf).2.1 hb, fun hl => hs1.hliveS b (hsub pl b hl) hb⟩ }
 have hsPf : St J w S F (restrN pf θ1) (restr pf σ1) l g := hs1.restr (fun nm hm => restr_in hm) (fun nm hm => restr_out hm) (fun nm hm row hrow => (closedSt_iff pf σ1 pf).1 c3 nm hm row hrow)
 have hsWo : St J w S F (restrN wo θ1) (restr wo σ1) l g := hs1.restr (fun nm hm => restr_in hm) (fun nm hm => restr_out hm) (fun nm hm row hrow => (closedSt_iff wo σ1 wo).1 c5 nm hm row hrow)
 have hSlt : ∀ b, w.heap.size ≤ b → ¬ S b ∧ ¬ F b ∧ ¬ LiveB θ1 σ1 b := fun b hb => ⟨fun h => by have := hs1.hS b h; omega, fun h => by have := (hs1.hF b h).1; omega, fun h => by have := hlt1 b h; omega⟩
 obtain ⟨F1, hF1⟩ : ∃ F1 : Nat → Prop, F1 = fun b => F b ∨ LiveB (restrN wo θ1) (restr wo σ1) b ∨ b = R.l ∨ b = R.r := ⟨_, rfl⟩
 have hRl : R.l = w.heap.size + 1 := by rw [hR]
 have hRr : R.r = w.heap.size := by rw [hR]
 have hRB : R.wB = w ∧ R.SB = S ∧ R.FB = F ∧ R.θB = restrN wo θ1 ∧ R.σB = restr wo σ1 ∧ R.wo = wo := by rw [hR]; exact ⟨rfl, rfl, rfl, rfl, rfl, rfl⟩
 have hRE : R.E = E := by rw [hR]
 have hRt : R.tmps = a.tmps := by rw [hR]
 have hW := (mkStay wo).st hst hsWo
 have hRJ : RJc J l R (restr wo σ1, g, none) W1 S F1 (restrN wo θ1) F := {
  st2 := hW
  hFe := fun b => by rw [hF1]
  hl := by rw [hRl]; exact ⟨(hSlt _ (by omega)).1, (hSlt _ (by omega)).2.1, fun hl => (hSlt _ (by omega)).2.2 (hsub wo _ hl)⟩
  hr := by rw [hRr]; exact ⟨(hSlt _ (Nat.le_refl _)).1, (hSlt _ (Nat.le_refl _)).2.1, fun hl => (hSlt _ (Nat.le_refl _)).2.2 (hsub wo _ hl)⟩
  hlo := by rw [hRl]; exact hlo
  hde := by rw [hRr]; exact hde
  env := fun t => by
   rw [hRE, hRt]
   exact (mkStay wo).rep hsWo ((hcur.env t).restr (fun nm hm => restr_in hm) (envOf_closed c4 t))
  frn := by
   rw [hRB.1, hRB.2.1, hRB.2.2.2.1, hRB.2.2.2.2.1]
   exact (mkStay wo).frN hsWo
  fsub := fun b hb _ => by rw [hRB.2.2.1]; exact hb
  hwo := fun nm hm => (restr_out (θ := θ1) (by rw [hRB.2.2.2.2.2] at hm; exact hm)).1
  ex := fun e h => by cases h }
 have hPf := (mkStay pf).st hst hsPf
 have hStJ : St (RJ J l R) W1 S F1 (restrN pf θ1) (restr pf σ1) R.l (restr wo σ1, g, none) := by
  refine ⟨hPf.hS, fun nm => BlkOk.ext (hPf.hblk nm) (fun _ _ => ⟨rfl, rfl⟩) rfl rfl (fun row hrow => .inl ?_), hPf.hinj, hPf.hliveS, fun b hb => ?_, ⟨_, _, hRJ⟩⟩
  · by_cases hm : nm ∈ pf
    · rw [(restr_in (θ := θ1) hm).1] at hrow
      exact (noRndSt_iff σ1 pf).1 c7 nm hm row hrow
    · rw [(restr_out (θ := θ1) hm).1] at hrow; cases hrow
  · rw [hF1] at hb
    rcases hb with hb | hb | rfl | rfl
    · exact hPf.hF b hb
    · obtain ⟨nm, m, k1, k2⟩ := hb
      refine ⟨live_lt hW k1 k2, hW.hliveS b ⟨nm, m, k1, k2⟩, fun ⟨nm', m', k3, k4⟩ => ?_⟩
      have hm : nm ∈ wo := by
       by_cases hm : nm ∈ wo
       · exact hm
       · rw [(restr_out (θ := θ1) hm).1] at k1; exact k1.elim
      have hm' : nm' ∈ pf := by
       by_cases hm : nm' ∈ pf
       · exact hm
       · rw [(restr_out (θ := θ1) hm).1] at k3; exact k3.elim
      obtain ⟨q1, q2⟩ := restr_in (σ := σ1) (θ := θ1) hm
      obtain ⟨q3, q4⟩ := restr_in (σ := σ1) (θ := θ1) hm'
      have := hs1.hinj nm nm' b m m' (by rw [← q1]; exact k1) (by rw [← q3]; exact k3) (by rw [← q2]; exact k2) (by rw [← q4]; exact k4)
      exact ((hwoN nm).1 hm).2 (by rw [this]; exact hm')
    · rw [hRl]
      exact ⟨by omega, (hSlt _ (by omega)).1, fun hl => (hSlt _ (by omega)).2.2 (hsub pf _ hl)⟩
    · rw [hRr]
      exact ⟨by omega, (hSlt _ (Nat.le_refl _)).1, fun hl => (hSlt _ (Nat.le_refl _)).2.2 (hsub pf _ hl)⟩
 have hReps : Reps (Rep W1 S (restrN pf θ1) (restr pf σ1) R.l) (.rnd :: caps) (.func (.yield R.l) #[] #[] :: cs) := by
  refine ⟨by simp [hcl], fun i v x hv hx => ?_⟩
  cases i with
  | zero =>
   simp at hv hx
   subst hv hx
   exact .rnd
  | succ i =>
   simp at hv hx
   have h1 := hcr i v x hv hx
   have h2 : Rep w S (restrN pf θ1) (restr pf σ1) l v x := h1.restr (pn := pf) (fun nm hm => by
    obtain ⟨q1, q2⟩ := restr_in (σ := σ1) (θ := θ1) hm
    obtain ⟨q3, q4⟩ := hσN nm (hpfN nm hm)
    exact ⟨q1.trans q3, q2.trans q4⟩) ((closedL_iff pf caps).1 c2 v (mem_of_get hv))
   exact ((mkStay pf).rep hsPf h2).atL R.l ((noRndL_iff caps).1 c6 v (mem_of_get hv))
 have hok := round_hok (R := R) (ca := ca) (cb := cb) (ps := ps) hst hM hH (by rw [hR]; exact ha) (by rw [hR]; exact hb) (by rw [hR]; exact hps) hpsn (by rw [hRt]; exact h.sz) (by rw [hRl, hRr]; omega)
  (fun nm hnm => by
    rw [hRB.2.2.2.2.1] at hnm
    rw [hRB.2.2.2.2.2]
    by_cases hm : nm ∈ wo
    · exact hm
    · exact absurd (restr_out (θ := θ1) hm).1 hnm) (by rw [hRB.2.2.2.2.2, hRE]; exact c4)
 rw [hRB.2.2.2.2.2, hRE] at hok
 have hcall := hct.2 (RJ J l R) R.l (RJ.stable hst) (RH_mono (fun pn ρ σ g Q Q' => AW_mono hM ca pn ρ σ g Q Q') (fun pn ρ σ g Q Q' => AW_mono hM cb pn ρ σ g Q Q')) hok W1 S F1 (restrN pf θ1) (.func (.yield R.l) #[] #[] :: cs) hStJ hReps
 have hcb := hct.1
 refine ⟨w.heap.size + 1, [{ target := .collected w.heap.size, args := #[] }], W1, { target := .fn (.func fid) cs.toArray, args := #[.func (.yield (w.heap.size + 1)) #[] #[]] }, W1, fid, (.func (.yield R.l) #[] #[] :: cs).toArray, W1, ?_, ?_, fun _ _ => trivial, ?_, (fun h => by cases h), (callsIn_wf hcall).mono fun e w' he => ?_⟩
 · rw [hW1, hR]; exact run_enterLoop_outer _ _ _ _ _
 · simp [resolve, hfe, Deferred.ofValue]
   rfl
 · have : (#[Value.func (.yield (w.heap.size + 1)) #[] #[]] ++ cs.toArray) = (.func (.yield R.l) #[] #[] :: cs).toArray := by rw [hRl]; apply Array.ext'; simp
   simp only [invoke]
   rw [this]
   exact call_run hcb _ _
 · obtain ⟨r, x', σ', st, S', F', θ', rfl, ⟨hnr, hK⟩, hs', _, hfr', hun⟩ := he
   obtain ⟨θ2, F2, h2⟩ := hs'.hJ
   obtain ⟨j1, j2, j3, j4, j5⟩ := range_join (R := R) (pf := pf) (wo := wo) (fun nm h1 h2 => ((hwoN nm).1 h2).2 h1) hs1 hall hz1 (by rw [hW1]; rfl) (by rw [hW1]; rfl) (by rw [hW1]; exact ⟨rfl, fun _ => Nat.le_refl _⟩) hold hRl hRr hRB (fun b => by rw [hF1]) hs' h2 hfr' hun hnr
   have hend := run_endLoop (P := P) h2.hlo (by
    simp only [RP.rc, lst]
    cases st.2.2 <;> simp)
   have hstay : Stays w' S' F2 (mergeN pf θ2 θ') (merge pf st.1 σ') (w'.putObj R.l (.loop { R.rc (lst st.2.2) (pend st.2.2) with state := .exhausted })) S' :=
    Stays.set j1 (by simp) (fun b hb => World.putObj_heap_other hb) h2.hlo (by intro c e fr h; cases h) rfl rfl (Out.refl _) h2.hl.1 h2.hl.2.1 j4
   have j6 := hstay.st hst j1
   have hsame : Fr w S F θ1 σ1 (w'.putObj R.l (.loop { R.rc (lst st.2.2) (pend st.2.2) with state := .exhausted })) S' F2 (mergeN pf θ2 θ') (merge pf st.1 σ') := {
    j2 with
    size := by have := j2.size; simp; omega
    same := fun b hb hl hF => by
     rw [World.putObj_heap_other (by rw [hRl]; omega)]
     exact j2.same b hb hl hF
    sized := fun b c e fr hc => by
     obtain ⟨c', f1, k1, k2, k1'⟩ := j2.sized b c e fr hc
     obtain ⟨c'', f2, k3, k4, k3'⟩ := hstay.sized b c' e f1 k1
     refine ⟨c'', f2, k3, k4.trans k2, ?_⟩
     rcases k3' with rfl | k3'
     · exact k1'
     · exact .inr ⟨k3', fun hl => j1.hliveS b hl k3'⟩
    vecs := fun nm k b m k1 k2 j hj => by
     rw [← j2.vecs nm k b m k1 k2 j hj]
     exact cell_of_heap (World.putObj_heap_other (by rw [hRl]; have := live_lt hs1 (live_vec k1) k2; omega)) }
   have hfin : Cur J l n s0 (w'.putObj R.l (.loop { R.rc (lst st.2.2) (pend st.2.2) with state := .exhausted })) S' F2 (mergeN pf θ2 θ') (merge pf st.1 σ') st.2.1 (envOf E) { a with defers := [{ target := .collected w.heap.size, args := #[] }] ++ a.defers } := by
    refine ⟨j6, fun t => ?_, h.sz, hcur.fr.trans hs1 hsame, ⟨⟨w.heap.size, rfl, ?_, ?_⟩, hcur.de.fr hsame⟩, fun d hd r hr => ?_⟩
    · have := h2.env t
      rw [hRE, hRt] at this
      exact hstay.rep j1 (j3 _ _ this)
    · rw [World.putObj_heap_other (by rw [hRl]; omega), ← hRr]; exact h2.hde
    · rw [← hRr]
      refine ⟨h2.hr.1, h2.hr.2.1, j5, fun d' hd' e => ?_⟩
      obtain ⟨r', k1, k2⟩ := def_lt hcur.de hd'
      rw [k1] at e
      injection e with e
      omega
    · rcases List.mem_cons.1 hd with rfl | hd
      · injection hr with hr
        have := hcur.fr.size
        omega
      · exact hcur.dn d hd r hr
   have hl1 : w.heap.size + 1 = R.l := hRl.symm
   rw [hl1]
   refine ⟨_, _, hend, ?_⟩
   cases hj : st.2.2 with
   | none =>
    rw [hj] at hK
    simp only [RP.rc, pend]
    rw [hj] at hfin
    exact ⟨.inl rfl, _, _, _, _, _, _, hK, hfin⟩
   | some e =>
    rw [hj] at hK hfin
    rcases h2.ex e hj with rfl | ⟨id, rfl⟩
    · simp only [RP.rc, pend]
      exact wpIn_ret ⟨.inr (.inl rfl), _, _, _, _, _, _, hK, hfin⟩
    · simp only [RP.rc, pend]
      exact wpIn_exit ⟨.inr (.inr ⟨id, rfl⟩), _, _, _, _, _, _, hK, hfin⟩
theorem seq_cases {n : Nat} {r : Bool} {x y : Cmd} {code : Code} (hc : chk P n r (.seq x y) code = true) :
  (∃ t, x = .frz t ∧ chk P n r y code = true) ∨ (∃ t, y = .frz t ∧ chk P n r x code = true) ∨ ∃ x' y', code = .seq x' y' ∧ chk P n r x x' = true ∧ chk P n r y y' = true := by
 unfold chk at hc
 split at hc
 · simp only [Bool.and_eq_true] at hc
   exact .inl ⟨_, rfl, hc.2⟩
 · simp only [Bool.and_eq_true] at hc
   exact .inr (.inl ⟨_, rfl, hc.2⟩)
 · split at hc
   · simp only [Bool.and_eq_true] at hc
     exact .inr (.inr ⟨_, _, rfl, hc.1, hc.2⟩)
   · cases hc
theorem aw_sound (hmix : P.follows .mixedOrders = true) : ∀ (c : Cmd) (r : Bool) (code : Code), chk P n r c code = true → Sound P H n r c code
 | .skip, r, code, hc => by
  intro J l hst hM hH ro hro pn ρ σ g Q s0 w S F θ a hpn h hw
  cases code <;> first | (cases r <;> cases hc; done) | skip
  exact wpIn_skip ⟨.inl rfl, _, _, _, _, _, _, hw, h⟩
 | .ops l', r, code, hc => by
  intro J l hst hM hH ro hro pn ρ σ g Q s0 w S F θ a hpn h hw
  cases code <;> first | (cases r <;> cases hc; done) | skip
  rename_i id ops draw
  cases draw with
  | false =>
   have hc : seqOk P n ops l' (List.range ops.size) = true := by cases r <;> exact hc
   exact wpIn_region (items_wp hst hM hH _ _ hc h hw (fun ρ' σ' g' S' F' θ' w' a' hk hc => ⟨.inl rfl, ρ', σ', g', S', F', θ', hk, hc⟩))
  | true =>
   have hc : chkDraw P n ops l' (.leaf (List.range ops.size)) = true := by cases r <;> exact hc
   refine draw_wp hmix hst hM hH hc h ?_
   have hlen : l'.length = ops.size := by
    simp only [chkDraw, allOps, Bool.and_eq_true] at hc
    exact Nat.eq_of_beq_eq_true hc.1.2.1
   show AWits P H (pickAll l' (List.range ops.size)) ρ σ g _
   rw [← hlen, pickAll_range]
   exact hw
 | .opsT t l', r, code, hc => by
  intro J l hst hM hH ro hro pn ρ σ g Q s0 w S F θ a hpn h hw
  cases code <;> first | (cases r <;> cases hc; done) | skip
  rename_i id ops draw
  cases draw with
  | false => cases r <;> cases hc
  | true =>
   have hc : chkDraw P n ops l' t = true := by cases r <;> exact hc
   exact draw_wp hmix hst hM hH hc h hw
 | .frz t, r, code, hc => by cases code <;> cases r <;> cases hc
 | .seq x y, r, code, hc => by
  intro J l hst hM hH ro hro pn ρ σ g Q s0 w S F θ a hpn h hw
  simp only [AW] at hw
  rcases seq_cases hc with ⟨t, rfl, h1⟩ | ⟨t, rfl, h1⟩ | ⟨x', y', rfl, h1, h2⟩
  · simp only [AW] at hw
    obtain ⟨ρ', σ', S', k1, k2⟩ := frz_cur hst h hw
    exact aw_sound hmix y r code h1 J l hst hM hH ro hro pn ρ' σ' g Q s0 w S' F θ a hpn k2 k1
  · refine wpIn_mono (aw_sound hmix x r code h1 J l hst hM hH ro hro pn ρ σ g _ s0 w S F θ a hpn h hw) fun e a' w' hp => ?_
    obtain ⟨hex, ρ', σ', g', S', F', θ', hq, hc'⟩ := hp
    cases e with
    | normal =>
     simp only [AW] at hq
     obtain ⟨ρ2, σ2, S2, k1, k2⟩ := frz_cur hst hc' hq
     exact ⟨.inl rfl, _, _, _, _, _, _, k1, k2⟩
    | _ => exact ⟨hex, _, _, _, _, _, _, hq, hc'⟩
  · refine wpIn_seq (wpIn_mono (aw_sound hmix x r x' h1 J l hst hM hH ro hro pn ρ σ g _ s0 w S F θ a hpn h hw) fun e a' w' hp => ?_)
    obtain ⟨hex, ρ', σ', g', S', F', θ', hq, hc'⟩ := hp
    cases e with
    | normal => exact aw_sound hmix y r y' h2 J l hst hM hH ro hro pn ρ' σ' g' Q s0 w' S' F' θ' a' hpn hc' hq
    | _ => exact ⟨hex, _, _, _, _, _, _, hq, hc'⟩
 | .cond x y z, r, code, hc => by
  intro J l hst hM hH ro hro pn ρ σ g Q s0 w S F θ a hpn h hw
  cases code <;> first | (cases r <;> cases hc; done) | skip
  rename_i c' y' z'
  have hc : (chkOpd c' x && chk P n r y y' && chk P n r z z') = true := by cases r <;> exact hc
  simp only [Bool.and_eq_true] at hc
  obtain ⟨⟨h1, h2⟩, h3⟩ := hc
  have hr := opd_rep h.env h1
  simp only [AW] at hw
  split at hw
  · rename_i t ht
    rw [ht] at hr
    have e := hr.bool_inv
    cases t with
    | true => exact wpIn_cond_true e (aw_sound hmix y r y' h2 J l hst hM hH ro hro pn ρ σ g Q s0 w S F θ a hpn h hw)
    | false => exact wpIn_cond_false e (aw_sound hmix z r z' h3 J l hst hM hH ro hro pn ρ σ g Q s0 w S F θ a hpn h hw)
  · exact hw.elim
 | .block id x, r, code, hc => by
  intro J l hst hM hH ro hro pn ρ σ g Q s0 w S F θ a hpn h hw
  cases code <;> first | (cases r <;> cases hc; done) | skip
  rename_i id' x'
  have hc : (Nat.beq id id' && chk P n r x x') = true := by cases r <;> exact hc
  simp only [Bool.and_eq_true] at hc
  have e := Nat.eq_of_beq_eq_true hc.1
  subst e
  refine wpIn_block (wpIn_mono (aw_sound hmix x r x' hc.2 J l hst hM hH ro hro pn ρ σ g _ s0 w S F θ a hpn h hw) fun e a' w' hp => ?_)
  obtain ⟨hex, ρ', σ', g', S', F', θ', hq, hc'⟩ := hp
  cases e with
  | exit i =>
   simp only at hq
   simp only [Exit.inBlock]
   cases hb : Nat.beq i id with
   | true =>
    rw [hb] at hq
    rw [if_pos (Nat.eq_of_beq_eq_true hb)]
    exact ⟨.inl rfl, _, _, _, _, _, _, hq, hc'⟩
   | false =>
    rw [hb] at hq
    rw [if_neg (fun e => by rw [e] at hb; simp at hb)]
    exact ⟨hex, _, _, _, _, _, _, hq, hc'⟩
  | _ => exact ⟨hex, _, _, _, _, _, _, hq, hc'⟩
 | .loop x, r, code, hc => by
  intro J l hst hM hH ro hro pn ρ σ g Q s0 w S F θ a hpn h hw
  cases code <;> first | (cases r <;> cases hc; done) | skip
  rename_i x'
  have hc : chk P n r x x' = true := by cases r <;> exact hc
  simp only [AW] at hw
  obtain ⟨ι, E, Sg, gi, inv, μ, ⟨i0, hi0, hf0, hg0⟩, hstep⟩ := hw
  refine loop_ix (fun i a w => inv i ∧ ∃ S F θ, Cur J l n s0 w S F θ (stOf (Sg i)) (gi i) (envOf (E i)) a) μ i0 ⟨hi0, S, F, _, by rw [hg0]; exact h.weaken hpn hf0⟩ fun i a w hI => ?_
  obtain ⟨hi, S, F, θ, hcur⟩ := hI
  refine wpIn_mono (aw_sound hmix x r x' hc J l hst hM hH ro hro pn _ _ _ _ s0 w S F θ a hpn hcur (hstep i hi)) fun e a' w' hp => ?_
  obtain ⟨hex, ρ', σ', g', S', F', θ', hq, hc'⟩ := hp
  cases e with
  | normal =>
   obtain ⟨i', hi', hf', hg', hμ⟩ := hq
   exact ⟨i', ⟨hi', S', F', _, by rw [hg']; exact hc'.weaken hpn hf'⟩, hμ⟩
  | _ => exact ⟨hex, _, _, _, _, _, _, hq, hc'⟩
 | .fzb t j x, r, code, hc => by
  intro J l hst hM hH ro hro pn ρ σ g Q s0 w S F θ a hpn h hw
  have hc : chk P n r x code = true := by cases r <;> cases code <;> exact hc
  simp only [AW] at hw
  split at hw
  · split at hw
    · rename_i l0 hb
      split at hw
      · rename_i nm rows hj
        split at hw
        · rename_i k hu
          obtain ⟨S2, h2⟩ := fzb_cur hst h hb hu hj
          exact aw_sound hmix x r code hc J l hst hM hH ro hro pn _ _ _ _ s0 w S2 F _ a hpn h2 hw
        · exact hw.elim
      · exact hw.elim
    · exact hw.elim
  · exact hw.elim
 | .nvb t j nm x, r, code, hc => by
  intro J l hst hM hH ro hro pn ρ σ g Q s0 w S F θ a hpn h hw
  have hc : chk P n r x code = true := by cases r <;> cases code <;> exact hc
  simp only [AW] at hw
  split at hw
  · rename_i bn ht hu
    split at hw
    · rename_i l0 hb
      split at hw
      · rename_i hj
        exact aw_sound hmix x r code hc J l hst hM hH ro hro pn _ _ _ _ s0 w S F _ a hpn (nvb_cur hst h hb hu hj) hw
      · exact hw.elim
    · exact hw.elim
  · exact hw.elim
 | .nvs t nm x, r, code, hc => by
  intro J l hst hM hH ro hro pn ρ σ g Q s0 w S F θ a hpn h hw
  have hc : chk P n r x code = true := by cases r <;> cases code <;> exact hc
  simp only [AW] at hw
  split at hw
  · rename_i bn ht hu
    split at hw
    · rename_i hb
      exact aw_sound hmix x r code hc J l hst hM hH ro hro pn _ _ _ _ s0 w S F _ a hpn (nvs_cur hst h hb hu) hw
    · exact hw.elim
  · exact hw.elim
 | .tagb t x, r, code, hc => by
  intro J l hst hM hH ro hro pn ρ σ g Q s0 w S F θ a hpn h hw
  have hc : chk P n r x code = true := by cases r <;> cases code <;> exact hc
  simp only [AW] at hw
  split at hw
  · rename_i bn ht
    split at hw
    · rename_i l0 hb
      obtain ⟨b, h2⟩ := tagb_cur hst h ht hb
      exact aw_sound hmix x r code hc J l hst hM hH ro hro pn _ _ _ _ s0 w S F _ a hpn h2 (hw b)
    · rename_i bm hv
      split at hw
      · rename_i l0 hb
        obtain ⟨b, h2⟩ := tagv_cur hst h hv hb
        exact aw_sound hmix x r code hc J l hst hM hH ro hro pn _ _ _ _ s0 w S F _ a hpn h2 (hw b)
      · exact hw.elim
    · exact hw.elim
  · exact hw.elim
 | .frzr x, r, code, hc => by
  intro J l hst hM hH ro hro pn ρ σ g Q s0 w S F θ a hpn h hw
  have hc : chk P n r x code = true := by cases r <;> cases code <;> exact hc
  simp only [AW] at hw
  obtain ⟨nm, nm2, b, b2, nn, cc, j, ll, l2, h1, h2, h3, h4, h5, h6, hw⟩ := hw
  obtain ⟨S2, h7⟩ := frzr_cur hst h h1 h2 h3 h4 h5 h6
  exact aw_sound hmix x r code hc J l hst hM hH ro hro pn _ _ _ _ s0 w S2 F _ a hpn h7 hw
 | .nvt t nm arr x, r, code, hc => by
  intro J l hst hM hH ro hro pn ρ σ g Q s0 w S F θ a hpn h hw
  have hc : chk P n r x code = true := by cases r <;> cases code <;> exact hc
  simp only [AW] at hw
  split at hw
  · rename_i ht hu
    exact aw_sound hmix x r code hc J l hst hM hH ro hro pn _ _ _ _ s0 w S F _ a hpn (nvt_cur hst h ht hu) hw
  · exact hw.elim
 | .cut x, r, code, hc => by
  intro J l hst hM hH ro hro pn ρ σ g Q s0 w S F θ a hpn h hw
  have hc : chk P n r x code = true := by cases r <;> cases code <;> exact hc
  simp only [AW] at hw
  rcases hw with hw | ⟨E, Sg, hf, hw⟩
  · exact aw_sound hmix x r code hc J l hst hM hH ro hro pn ρ σ g Q s0 w S F θ a hpn h hw
  · exact aw_sound hmix x r code hc J l hst hM hH ro hro pn _ _ _ _ s0 w S F _ a hpn (h.weaken hpn hf) hw
 | .exit id, r, code, hc => by
  intro J l hst hM hH ro hro pn ρ σ g Q s0 w S F θ a hpn h hw
  cases code <;> first | (cases r <;> cases hc; done) | skip
  rename_i id'
  have hc : Nat.beq id id' = true := by cases r <;> exact hc
  have e := Nat.eq_of_beq_eq_true hc
  subst e
  exact wpIn_exit ⟨.inr (.inr ⟨_, rfl⟩), _, _, _, _, _, _, hw, h⟩
 | .ret, r, code, hc => by
  intro J l hst hM hH ro hro pn ρ σ g Q s0 w S F θ a hpn h hw
  cases code <;> first | (cases r <;> cases hc; done) | skip
  exact wpIn_ret ⟨.inr (.inl rfl), _, _, _, _, _, _, hw, h⟩
 | .rangeF pf f ps x y, r, code, hc => by
  intro J l hst hM hH ro hro pn ρ σ g Q s0 w S F θ a hpn h hw
  cases r with
  | true => cases code <;> cases hc
  | false =>
   cases code <;> first | (cases hc; done) | skip
   rename_i g' qs x' y'
   have hc : (chkOpd g' f && (ps == qs.toList) && (ps.all fun p => Nat.blt p n) && chk P n true x x' && chk P n true y y') = true := hc
   simp only [Bool.and_eq_true, beq_iff_eq] at hc
   obtain ⟨⟨⟨⟨h1, h2⟩, h3⟩, h4⟩, h5⟩ := hc
   rw [hro rfl]
   exact rangeF_wp hst hM hH (aw_sound hmix x true x' h4) (aw_sound hmix y true y' h5) h1 h2 (fun p hp => by
    have := (List.all_eq_true.1 h3) p hp
    simpa [Nat.blt_eq] using this) hpn h hw
end
inductive RVar where
 | tmp (t : Nat)
 | cell (agg : Bool) (size a : Nat)
def resVal (ρ : Env) (σ : Store) : RVar → Option V
 | .tmp t => some (ρ t)
 | .cell agg size a => match ρ a with
   | .bptr nm j => match σ nm with
     | .box row => ldrow agg size j row
     | _ => none
   | .cptr _ row j => ldrow agg size j row
   | _ => none
def resAll (ρ : Env) (σ : Store) : List RVar → Option (List V)
 | [] => some []
 | x :: r => match resVal ρ σ x, resAll ρ σ r with
   | some v, some vs => some (v :: vs)
   | _, _ => none
def finV : List V → V
 | [v] => v
 | vs => .tup vs
def chkRes (P : Program) : ResultVar → RVar → Bool
 | .tmp t, .tmp t' => Nat.beq t t'
 | .cell a T, .cell agg size a' => Nat.beq a a' && tSize P T size && tAgg P T == agg && (agg || Nat.beq size 1) && (P.underlying T).isSome
 | _, _ => false
def chkRess (P : Program) : List ResultVar → List RVar → Bool
 | [], [] => true
 | x :: r, y :: r' => chkRes P x y && chkRess P r r'
 | _, _ => false
def chkFn (P : Program) (f n : Nat) (rs : List RVar) (c : Cmd) : Bool := match P.funcs[f]? with
 | some fn => fn.name != "runtime.NumGoroutine" && Nat.beq fn.ntmps n && chkRess P fn.results.toList rs && (match fn.body with
   | some code => chk P n false c code
   | none => false)
 | none => false
def okE : Exit → Bool
 | .normal | .ret => true
 | _ => false
def fnPost (rs : List RVar) (r : V) : Exit → Env → Store → Unit → Prop := fun e ρ σ _ => okE e = true ∧ ∃ vs, resAll ρ σ rs = some vs ∧ r = er σ 6 (finV vs)
def SL (S : Nat → Prop) (θ : Names) (σ : Store) : Nat → Prop := fun b => S b ∨ LiveB θ σ b
section
variable {G : Type} {J : JT G} {w w' w'' : World} {S F S' F' S'' F'' : Nat → Prop} {θ θ' θ'' : Names} {σ σ' σ'' : Store} {l n : Nat} {g g' : G}
variable {P : Program} {o : Oper} {a : Act} {ρ : Env} {H : HT G} {s0 : Start}
theorem Rep.er2 (hst : St J w S F θ σ l g) {v : V} {x : Value} (h : Rep w S θ σ l v x) (n : Nat) : RepP w (SL S θ σ) (Hm.er σ n v) x := by
 induction n generalizing v x with
 | zero => exact .any x
 | succ n ihn =>
  cases h with
  | pure h1 => exact (h1.mono (fun _ _ => rfl) (fun _ h => .inl h)).er σ (n + 1)
  | agg vs xs hl h1 =>
   refine .agg _ xs (by simpa using hl) fun i v x h2 h3 => ?_
   rw [List.getElem?_map] at h2
   cases h4 : vs[i]? with
   | none => simp [h4] at h2
   | some u => simp [h4] at h2; subst h2; exact ihn (h1 i u x h4 h3)
  | tup vs xs hl h1 =>
   refine .tup _ xs (by simpa using hl) fun i v x h2 h3 => ?_
   rw [List.getElem?_map] at h2
   cases h4 : vs[i]? with
   | none => simp [h4] at h2
   | some u => simp [h4] at h2; subst h2; exact ihn (h1 i u x h4 h3)
  | fn f vs xs hl h1 =>
   refine .fn f _ xs (by simpa using hl) fun i v x h2 h3 => ?_
   rw [List.getElem?_map] at h2
   cases h4 : vs[i]? with
   | none => simp [h4] at h2
   | some u => simp [h4] at h2; subst h2; exact ihn (h1 i u x h4 h3)
  | bptr nm j x ho hn h1 =>
   simp only [Hm.er]
   cases hs : σ nm with
   | box row =>
    obtain ⟨b, m, hb, rfl⟩ := h1 row hs
    have hk := hst.hblk nm
    rw [hs] at hk
    obtain ⟨b', c, e, h2, h3, h4, h5⟩ := hk
    have eb : b' = b := by rw [hb] at h2; simp at h2; exact h2.1.symm
    subst eb
    have hlt : SL S θ σ b' := .inr ⟨nm, _, by rw [hs]; trivial, h2⟩
    have hcell : ∀ i v, row.cells[i]? = some v → w.cell? ⟨b', 0 + i, none⟩ = some (c.getD i default) := by
     intro i v hv
     obtain ⟨y, hy, _⟩ := h5 i v hv
     have hi := (Array.getElem?_eq_some_iff.1 hy).1
     simp [World.cell?, h3, Array.getD, hi]
    have hrep : ∀ i v, row.cells[i]? = some v → Rep w S θ σ l v (c.getD i default) := by
     intro i v hv
     obtain ⟨y, hy, hr⟩ := h5 i v hv
     have hi := (Array.getElem?_eq_some_iff.1 hy)
     have : c.getD i default = y := by simp [Array.getD, hi.1, hi.2]
     rw [this]; exact hr
    have fin : ∀ row' : V, (∀ (i : Nat) (v' : V), row'.cells[i]? = some v' → ∃ v : V, row.cells[i]? = some v ∧ v' = Hm.er σ n v) → RepP w (SL S θ σ) (.cptr .p row' j) (.pointer (some ⟨b', j, none⟩)) := by
     intro row' hrow'
     have := RepP.cptr (w := w) (S := SL S θ σ) row' b' 0 j (fun i => c.getD i default) hlt (fun i v' hv' => by
      obtain ⟨v, hv, _⟩ := hrow' i v' hv'
      exact hcell i v hv) (fun i v' hv' => by
      obtain ⟨v, hv, rfl⟩ := hrow' i v' hv'
      exact ihn (hrep i v hv))
     simpa using this
    have one : ∀ v : V, (∀ ll, v ≠ .agg ll) → (∀ b ll, v ≠ .tag b ll) → row = v → RepP w (SL S θ σ) (.cptr .p (Hm.er σ n v) j) (.pointer (some ⟨b', j, none⟩)) := by
     intro v hv ht e
     refine fin _ fun i v' hv' => ?_
     subst e
     have hcs : row.cells = [row] := cells_one hv ht
     have hce : (Hm.er σ n row).cells = [Hm.er σ n row] := cells_one (er_notagg σ n hv) (er_notag σ n ht)
     rw [hce] at hv'
     rw [hcs]
     cases i with
     | zero => simp at hv'; exact ⟨row, by simp, hv'.symm⟩
     | succ i => simp at hv'
    cases row with
    | agg ll =>
     refine fin _ fun i v' hv' => ?_
     simp only [V.cells, List.getElem?_map] at hv' ⊢
     cases h6 : ll[i]? with
     | none => simp [h6] at hv'
     | some u => simp [h6] at hv'; exact ⟨u, rfl, hv'.symm⟩
    | tup ll => exact .any _
    | tag b ll => exact .any _
    | _ => exact one _ (by intro ll; simp) (by intro b ll; simp) rfl
   | _ => exact .any _
  | ptr nm gen i j x ho hn hg h1 =>
   simp only [Hm.er]
   cases hs : σ nm with
   | arr gen' rows =>
    simp only
    cases hgen : Nat.beq gen gen' with
    | false => exact .any _
    | true =>
     have e := Nat.eq_of_beq_eq_true hgen
     subst e
     simp only [cond_true]
     cases hrow : rows[i]? with
     | none => exact .any _
     | some row =>
      obtain ⟨b, m, hb, rfl⟩ := h1 rows hs
      have hk := hst.hblk nm
      rw [hs] at hk
      rcases hk with ⟨h2, _⟩ | ⟨b', m', c, e, h2, h3, h4, h5, h6⟩
      · rw [hb] at h2; cases h2
      · have eb : b' = b ∧ m' = m := by rw [hb] at h2; simp at h2; exact ⟨h2.1.symm, h2.2.symm⟩
        obtain ⟨rfl, rfl⟩ := eb
        have hlt : SL S θ σ b' := .inr ⟨nm, _, by rw [hs]; trivial, h2⟩
        refine RepP.cptr row b' (i * m') j (fun q => c.getD (i * m' + q) default) hlt (fun q v hv => ?_) (fun q v hv => ?_)
        · obtain ⟨y, hy, _⟩ := h6 i q row v hrow hv
          have hi := (Array.getElem?_eq_some_iff.1 hy).1
          simp [World.cell?, h3, Array.getD, hi]
        · obtain ⟨y, hy, hr⟩ := h6 i q row v hrow hv
          have hi := (Array.getElem?_eq_some_iff.1 hy)
          have e2 : c.getD (i * m' + q) default = y := by simp [Array.getD, hi.1, hi.2]
          rw [e2]; exact hr.mono (fun _ _ => rfl) (fun _ h => .inl h)
   | _ => exact .any _
  | msl nm gen i len x ho hn hg h1 =>
   simp only [Hm.er]
   cases hs : σ nm with
   | arr gen' rows =>
    simp only
    cases hgen : Nat.beq gen gen' with
    | false => exact .any _
    | true =>
     have e := Nat.eq_of_beq_eq_true hgen
     subst e
     simp only [cond_true]
     rcases h1 rows hs with ⟨b, m, cap, hb, hle, rfl, hcap, hlen⟩ | ⟨rfl, a, rfl⟩
     · have hk := hst.hblk nm
       rw [hs] at hk
       rcases hk with ⟨h2, _⟩ | ⟨b', m', c, e, h2, h3, h4, h5, h6⟩
       · rw [hb] at h2; cases h2
       · have eb : b' = b ∧ m' = m := by rw [hb] at h2; simp at h2; exact ⟨h2.1.symm, h2.2.symm⟩
         obtain ⟨rfl, rfl⟩ := eb
         have hlt : SL S θ σ b' := .inr ⟨nm, _, by rw [hs]; trivial, h2⟩
         have hl : ((rows.drop i).take len).length = len := by simp; omega
         have hget : ∀ q row, ((rows.drop i).take len)[q]? = some row → rows[i + q]? = some row := by
          intro q row hq
          rw [List.getElem?_take] at hq
          split at hq
          · rwa [List.getElem?_drop] at hq
          · cases hq
         have := RepP.sl (w := w) (S := SL S θ σ) ((rows.drop i).take len) b' (i * m') cap m' (fun q j => c.getD ((i + q) * m' + j) default) hlt (by omega)
          (fun row hr => h4 row (List.mem_of_mem_drop (List.mem_of_mem_take hr)))
          (fun q j row v h7 h8 => by
            obtain ⟨y, hy, _⟩ := h6 (i + q) j row v (hget q row h7) h8
            have hi := (Array.getElem?_eq_some_iff.1 hy).1
            have e1 : i * m' + q * m' + j = (i + q) * m' + j := by rw [Nat.add_mul]
            rw [e1]
            simp [World.cell?, h3, Array.getD, hi])
          (fun q j row v h7 h8 => by
            obtain ⟨y, hy, hr⟩ := h6 (i + q) j row v (hget q row h7) h8
            have hi := (Array.getElem?_eq_some_iff.1 hy)
            have e2 : c.getD ((i + q) * m' + j) default = y := by simp [Array.getD, hi.1, hi.2]
            rw [e2]; exact hr.mono (fun _ _ => rfl) (fun _ h => .inl h))
         rw [hl] at this
         exact this
     · simpa using RepP.emp a 0
   | _ => exact .any _
  | own nm rows b off cap m ys hn hb hcap hw hc hr hf =>
   simp only [Hm.er]
   cases rows with
   | nil => exact .emp _ _
   | cons row rest =>
    have hlt : SL S θ σ b := by
     rcases hb with hb | ⟨m', k, hb, hk, _⟩
     · exact .inl hb
     · exact .inr ⟨nm, m', live_vec hk, hb⟩
    exact .sl (row :: rest) b off cap m ys hlt hcap hw hc fun i j row v h1 h2 => (hr i j row v h1 h2).mono (fun _ _ => rfl) (fun _ h => .inl h)
  | ownemp nm a hn => exact .emp a 0
  | cptro nm row b o j ys hn hb hc hr =>
   simp only [Hm.er]
   have hlt : SL S θ σ b := by
    rcases hb with hb | ⟨m', k, hb, hk, _⟩
    · exact .inl hb
    · exact .inr ⟨nm, m', live_vec hk, hb⟩
   exact .cptr row b o j ys hlt hc fun i v h1 => (hr i v h1).mono (fun _ _ => rfl) (fun _ h => .inl h)
  | rnd => exact .any _
  | mp nm x ho hn h1 =>
   simp only [Hm.er]
   cases hs : σ nm with
   | mp k ns vs =>
    obtain ⟨r, hb, rfl⟩ := h1 k ns vs hs
    have hk := hst.hblk nm
    rw [hs] at hk
    obtain ⟨r', es, clk, h2, h3, h4, h5, h6, h7⟩ := hk
    have eb : r' = r := by rw [hb] at h2; simp at h2; exact h2.symm
    subst eb
    exact .mps k ns vs r' es clk (.inr ⟨nm, _, by rw [hs]; trivial, h2⟩) h3 h4 h5 h6 fun i v e a b => (h7 i v e a b).mono (fun _ _ => rfl) fun _ h => .inl h
   | _ => exact .any _
  | ifv t v x h1 => exact .ifv t _ x (ihn h1)
theorem Rep.bptr_inv {nm j : Nat} {row : V} {x : Value} (h : Rep w S θ σ l (.bptr nm j) x) (hσ : σ nm = .box row) : ∃ b m, θ nm = some (b, m) ∧ x = .pointer (some ⟨b, j, none⟩) := by
 cases h with
 | pure h1 => cases h1
 | bptr _ _ _ _ hn h1 => exact h1 row hσ
theorem res_one (hs : St J w S F θ σ l g) (he : EnvRep w S θ σ l ρ a.tmps) {x : ResultVar} {y : RVar} {v : V} (hc : chkRes P x y = true) (hv : resVal ρ σ y = some v) :
  ∃ u, (match x with
    | .tmp t => (pure (a.tmps.getD t undef) : Sem Value)
    | .cell c t => do loadVar t (← asAddr (a.tmps.getD c undef))).run P w = .ok u w ∧ Rep w S θ σ l v u := by
 cases x with
 | tmp t =>
  cases y with
  | tmp t' =>
   have e := Nat.eq_of_beq_eq_true hc
   subst e
   simp only [resVal, Option.some.injEq] at hv
   subst hv
   exact ⟨_, by simp, he t⟩
  | cell _ _ _ => cases hc
 | cell c T =>
  cases y with
  | tmp _ => cases hc
  | cell agg size c' =>
   simp only [chkRes, Bool.and_eq_true, beq_iff_eq] at hc
   obtain ⟨⟨⟨⟨h1, h2⟩, h3⟩, h4⟩, h5⟩ := hc
   have e := Nat.eq_of_beq_eq_true h1
   subst e
   have hr := he c
   have fin : ∀ {row : V} {b oo j : Nat} {ys : Nat → Value}, a.tmps.getD c undef = .pointer (some ⟨b, oo + j, none⟩) → ldrow agg size j row = some v →
     (∀ (i : Nat) (u : V), row.cells[i]? = some u → w.cell? ⟨b, oo + i, none⟩ = some (ys i) ∧ Rep w S θ σ l u (ys i)) → ∃ u, (do loadVar T (← asAddr (a.tmps.getD c undef)) : Sem Value).run P w = .ok u w ∧ Rep w S θ σ l v u := by
    intro row b oo j ys e hld hcell
    obtain ⟨x, hrun, hrep⟩ := load_run hld h2 h3 h4 h5 hcell
    refine ⟨x, ?_, hrep⟩
    rw [e]
    simp [Instr.loadAt, Instr.sureAddr] at hrun
    simpa [asAddr] using hrun
   simp only [resVal] at hv
   split at hv
   · rename_i nm j hρ
     rw [hρ] at hr
     split at hv
     · rename_i row hσ
       obtain ⟨b, m, hb, e⟩ := hr.bptr_inv hσ
       have hk := hs.hblk nm
       rw [hσ] at hk
       obtain ⟨b', c2, e', k2, k3, k4, k5⟩ := hk
       have eb : b' = b := by rw [hb] at k2; simp at k2; exact k2.1.symm
       subst eb
       refine fin (oo := 0) (ys := fun i => c2.getD i default) (by rw [e, Nat.zero_add]) hv fun i u hu => ?_
       obtain ⟨y, hy, hr⟩ := k5 i u hu
       have hi := Array.getElem?_eq_some_iff.1 hy
       have e2 : c2.getD i default = y := by simp [Array.getD, hi.1, hi.2]
       rw [e2]
       exact ⟨by simpa [World.cell?, k3] using hy, hr⟩
     · cases hv
   · rename_i row j hρ
     rw [hρ] at hr
     obtain ⟨b, oo, ys, e1, h6, _⟩ := hr.cptr_inv
     exact fin e1 hv (fun i u hu => ⟨(h6 i u hu).1, .pure (h6 i u hu).2⟩)
   · cases hv
def readVar (tmps : Array Value) : ResultVar → Sem Value
 | .tmp t => pure (tmps.getD t undef)
 | .cell c t => do loadVar t (← asAddr (tmps.getD c undef))
theorem res_list (hs : St J w S F θ σ l g) (he : EnvRep w S θ σ l ρ a.tmps) : ∀ {xs : List ResultVar} {ys : List RVar} {vs : List V}, chkRess P xs ys = true → resAll ρ σ ys = some vs →
  ∃ us, (xs.mapM (readVar a.tmps)).run P w = .ok us w ∧ Reps (Rep w S θ σ l) vs us
 | [], [], vs, _, hv => by
  simp only [resAll, Option.some.injEq] at hv
  subst hv
  exact ⟨[], by simp, rfl, fun i v x h => by simp at h⟩
 | x :: xs, y :: ys, vs, hc, hv => by
  simp only [chkRess, Bool.and_eq_true] at hc
  simp only [resAll] at hv
  split at hv
  · rename_i v vs' h1 h2
    simp only [Option.some.injEq] at hv
    subst hv
    obtain ⟨u, k1, k2⟩ := res_one (P := P) hs he hc.1 h1
    obtain ⟨us, k3, k4, k5⟩ := res_list hs he hc.2 h2
    have k1' : (readVar a.tmps x).run P w = .ok u w := by cases x <;> exact k1
    refine ⟨u :: us, by simp [List.mapM_cons, Sem.run_bind, k1', k3, Result.andThen], by simp [k4], fun i v' x' h3 h4 => ?_⟩
    cases i with
    | zero => simp at h3 h4; subst h3 h4; exact k2
    | succ i => exact k5 i v' x' (by simpa using h3) (by simpa using h4)
  · cases hv
 | [], _ :: _, _, hc, _ => by simp [chkRess] at hc
 | _ :: _, [], _, hc, _ => by simp [chkRess] at hc
theorem res_run {fn : Func} {rs : List RVar} {vs : List V} (hs : St J w S F θ σ l g) (he : EnvRep w S θ σ l ρ a.tmps) (hc : chkRess P fn.results.toList rs = true) (hv : resAll ρ σ rs = some vs) :
  ∃ u, (results fn a.tmps).run P w = .ok u w ∧ Rep w S θ σ l (finV vs) u := by
 obtain ⟨us, k1, k2, k3⟩ := res_list (P := P) hs he hc hv
 have e : results fn a.tmps = (List.toArray <$> (fn.results.toList.mapM (readVar a.tmps))) >>= fun vs => pure (if h : vs.size = 1 then vs[0] else .tuple vs) := by
  rw [← Array.mapM_eq_mapM_toList]
  unfold results
  congr 1
 rw [e]
 refine ⟨if h : us.toArray.size = 1 then us.toArray[0] else .tuple us.toArray, by simp [k1, Result.andThen], ?_⟩
 by_cases h : us.toArray.size = 1
 · rw [dif_pos h]
   simp only [List.size_toArray] at h
   cases us with
   | nil => simp at h
   | cons u us =>
    cases us with
    | cons _ _ => simp at h
    | nil =>
     cases vs with
     | nil => simp at k2
     | cons v vs =>
      cases vs with
      | cons _ _ => simp at k2
      | nil => exact k3 0 v u rfl rfl
 · rw [dif_neg h]
   have hf : finV vs = .tup vs := by
    simp only [List.size_toArray] at h
    cases vs with
    | nil => rfl
    | cons v vs =>
     cases vs with
     | cons _ _ => rfl
     | nil => simp at k2; omega
   rw [hf]
   exact .tup vs us k2 k3
theorem leaves_marks {fn : Func} {rs : List RVar} {vs : List V} {R : Ending → World → Prop} (hst : Stable J) (hc : chkRess P fn.results.toList rs = true) (hv : resAll ρ σ rs = some vs) : ∀ (ds : List Deferred) {w : World}, St J w S F θ σ l g → EnvRep w S θ σ l ρ a.tmps → DefOk w S F θ σ ds →
  (∀ (w' : World) (u : Value), St J w' S F θ σ l g → Rep w' S θ σ l (finV vs) u → w'.heap.size = w.heap.size → w'.os = w.os → w'.tape = w.tape → Out w w' →
    (∀ b, (∀ d ∈ ds, d.target ≠ .collected b) → w'.heap[b]? = w.heap[b]?) → R (.returned u) w') → LeavesInM Fence.wide 0 P fn a.tmps R ds .returning w
 | [], w, hs, he, _, hR => by
  obtain ⟨u, k1, k2⟩ := res_run (P := P) hs he hc hv
  exact ⟨u, k1, hR w u hs k2 rfl rfl rfl (Out.refl _) (fun _ _ => rfl)⟩
 | d :: ds, w, hs, he, ⟨⟨r, h1, h2, h3, h4, h5, h6⟩, h7⟩, hR => by
  have hstay : Stays w S F θ σ (w.putObj r (.deferred none)) S := Stays.set hs (by simp) (fun b hb => World.putObj_heap_other hb) h2 (by intro c e fr h; cases h) rfl rfl (Out.refl _) h3 h4 h5
  refine ⟨(by intro h; cases h), .inl ⟨r, _, h1, run_takeDeferred h2, ?_⟩⟩
  have key : ∀ ds : List Deferred, (∀ d' ∈ ds, d'.target ≠ .collected r) → DefOk w S F θ σ ds → DefOk (w.putObj r (.deferred none)) S F θ σ ds := by
   intro ds
   induction ds with
   | nil => intro _ _; trivial
   | cons d ds ih =>
    rintro hne ⟨⟨r', k1, k2, k3, k4, k5, k6⟩, k7⟩
    exact ⟨⟨r', k1, by rw [World.putObj_heap_other (fun e => hne d (by simp) (by rw [k1, e]))]; exact k2, k3, k4, k5, k6⟩, ih (fun d' hd' => hne d' (by simp [hd'])) k7⟩
  refine leaves_marks hst hc hv ds (hstay.st hst hs) (fun t => hstay.rep hs (he t)) (key ds h6 h7) fun w' u k1 k2 k3 k4 k5 k6 k7 => ?_
  refine hR w' u k1 k2 (by simpa using k3) k4 k5 k6 fun b hb => ?_
  rw [k7 b (fun d' hd' => hb d' (by simp [hd'])), World.putObj_heap_other (fun e => hb d (by simp) (by rw [h1, e]))]
end
section
variable {G : Type} {J : JT G} {w w' w'' : World} {S F S' F' S'' F'' : Nat → Prop} {θ θ' θ'' : Names} {σ σ' σ'' : Store} {l n : Nat} {g g' : G}
variable {P : Program} {o : Oper} {a : Act} {ρ : Env} {H : HT G} {s0 : Start}
theorem env_start {args : List V} {xs : List Value} (m : Nat) (h : Reps (Rep w S θ σ l) args xs) : EnvRep w S θ σ l (env0 args) (xs.toArray ++ Array.replicate m undef) := by
 intro t
 unfold env0
 by_cases ht : t < args.length
 · have h1 : args[t]? = some args[t] := List.getElem?_eq_getElem ht
   have h2 : t < xs.length := by rw [← h.1]; exact ht
   have h3 : xs[t]? = some xs[t] := List.getElem?_eq_getElem h2
   have e : (xs.toArray ++ Array.replicate m undef).getD t undef = xs[t] := by
    rw [Array.getD_eq_getD_getElem?, Array.getElem?_append_left (by simpa using h2)]
    simp [h3]
   rw [h1, e]
   exact h.2 t _ _ h1 h3
 · rw [List.getElem?_eq_none (by omega)]
   have e : (xs.toArray ++ Array.replicate m undef).getD t undef = undef := by
    have h3 : xs.toArray.size ≤ t := by have := h.1; simp; omega
    rw [Array.getD_eq_getD_getElem?, Array.getElem?_append_right h3, Array.getElem?_replicate]
    split <;> rfl
   rw [e]
   exact rep_undef
theorem fn_parts {f : Nat} {rs : List RVar} {c : Cmd} (h : chkFn P f n rs c = true) : ∃ fn code, P.funcs[f]? = some fn ∧ fn.body = some code ∧ fn.ntmps = n ∧ chkRess P fn.results.toList rs = true ∧ chk P n false c code = true ∧ callable P f = true := by
 unfold chkFn at h
 split at h
 · rename_i fn hf
   simp only [Bool.and_eq_true] at h
   obtain ⟨⟨⟨h1, h2⟩, h3⟩, h4⟩ := h
   split at h4
   · rename_i code hb
     refine ⟨fn, code, hf, hb, Nat.eq_of_beq_eq_true h2, h3, h4, ?_⟩
     unfold callable
     rw [hf]
     simp only [Bool.and_eq_true]
     exact ⟨h1, by rw [hb]; rfl⟩
   · cases h4
 · cases h
theorem noH_hok (J : JT Unit) (l : Nat) : HokS P J noH l := fun _ _ _ _ _ _ _ _ _ h => h.elim
theorem noH_mono : MonoH (noH (G := Unit)) := fun _ _ _ _ _ h => h.elim
def glJ : JT Unit := fun _ w S _ => GL w S
theorem Fn.intro {f : Nat} {rs : List RVar} {c : Cmd} {args : List V} {r : V} (hmix : P.follows .mixedOrders = true) (hc : chkFn P f n rs c = true) (haw : AW (G := Unit) P noH [] c (env0 args) σ0 () (fnPost rs r)) : Fn P f args r := by
 obtain ⟨fn, code, hf, hb, hn, hres, hchk, hcb⟩ := fn_parts hc
 refine ⟨hcb, fun w S xs hS hgl hargs => ?_⟩
 refine callsIn_of_wp_marks hf hb trivial ?_
 have hst : Stable glJ := ⟨fun _ _ _ _ h => h, fun _ w S _ w' S' h _ _ h1 h2 _ _ _ _ _ _ => GL.same h (fun b hb => h1 b (.inl hb)) h2⟩
 have hs : St glJ w S (fun _ => False) θ0 σ0 0 () := ⟨hS, fun nm => rfl, fun _ _ _ _ _ h => h.elim, fun b hb => by obtain ⟨nm, m, h1, _⟩ := hb; exact h1.elim, fun b hb => hb.elim, hgl⟩
 have hcur : Cur glJ 0 n ⟨w, S, fun _ => False, θ0, σ0⟩ w S (fun _ => False) θ0 σ0 () (env0 args) { tmps := xs.toArray ++ Array.replicate (fn.ntmps - xs.toArray.size) undef, defers := [] } :=
  ⟨hs, env_start _ ⟨hargs.1, fun i v x h1 h2 => .pure (hargs.2 i v x h1 h2)⟩, by simp; omega, Fr.refl _ _ _ _ _, trivial, fun d hd => by cases hd⟩
 refine wpIn_mono (aw_sound hmix c false code hchk glJ 0 hst noH_mono (noH_hok _ _) none (fun _ => rfl) [] _ _ _ _ ⟨w, S, fun _ => False, θ0, σ0⟩ w S _ θ0 _ (fun nm h => absurd rfl h) hcur haw) fun e a' w' hp => ?_
 obtain ⟨hex, ρ', σ', g', S', F', θ', ⟨hok, vs, hvs, rfl⟩, hc'⟩ := hp
 have key : LeavesInM Fence.wide 0 P fn a'.tmps (fun e w' => ∃ x' S', e = .returned x' ∧ RepP w' S' (er σ' 6 (finV vs)) x' ∧ (∀ b, S' b → S b ∨ w.heap.size ≤ b) ∧ (∀ b, S' b → b < w'.heap.size) ∧ Grow w w') a'.defers .returning w' := by
  refine leaves_marks hst hres hvs a'.defers hc'.st hc'.env hc'.de fun w2 u k1 k2 k3 k4 k5 k6 k7 => ?_
  have k := hc'.fr
  have hnoL : ∀ b, LiveB θ' σ' b → w.heap.size ≤ b := fun b hb => by
   by_cases hlt : b < w.heap.size
   · obtain ⟨nm, m, h1, _⟩ := k.live b hb hlt
     exact h1.elim
   · omega
  refine ⟨u, _, rfl, Rep.er2 k1 k2 6, fun b hb => ?_, fun b hb => ?_, ?_⟩
  · rcases hb with hb | hb
    · rcases k.snew b hb with h1 | ⟨nm, m, h1, _⟩ | h1 | h1
      · exact .inl h1
      · exact h1.elim
      · exact h1.elim
      · exact .inr h1
    · exact .inr (hnoL b hb)
  · rcases hb with hb | ⟨nm, m, h1, h2⟩
    · exact k1.hS b hb
    · exact live_lt k1 h1 h2
  · refine ⟨by have := k.size; simp only at this; omega, k4.trans k.os, k5.trans k.tape, k6.trans k.output, fun b hb => ?_⟩
    have hsame : w'.heap[b]? = w.heap[b]? := k.same b hb (fun ⟨nm, m, h1, _⟩ => h1) (fun h => h)
    rw [k7 b (fun d hd e => ?_), hsame]
    have := hc'.dn d hd b e
    simp only at this
    omega
 cases e with
 | normal => exact key
 | ret => exact key
 | exit id => cases hok
 | goto _ => cases hok
 | panic _ => cases hok
 | outgrown => cases hok
end
def ctPost {G : Type} (pn : List Nat) (rs : List RVar) (K : V → Store → G → Prop) : Exit → Env → Store → G → Prop := fun e ρ σ' g' =>
 okE e = true ∧ ∃ vs, resAll ρ σ' rs = some vs ∧ closedB pn (finV vs) = true ∧ closedSt pn σ' pn = true ∧ K (finV vs) (restr pn σ') g'
section
variable {G : Type} {J : JT G} {w w' w'' : World} {S F S' F' S'' F'' : Nat → Prop} {θ θ' θ'' : Names} {σ σ' σ'' : Store} {l n : Nat} {g g' : G}
variable {P : Program} {o : Oper} {a : Act} {ρ : Env} {H : HT G} {s0 : Start}
theorem marks_fr {w0 : World} {S0 F0 : Nat → Prop} {θ0' : Names} {σ0' : Store} (h : Cur J l n ⟨w0, S0, F0, θ0', σ0'⟩ w S F θ σ g ρ a) (hs0 : ∀ nm b m, (σ0' nm).live → θ0' nm = some (b, m) → b < w0.heap.size) (hsz : w'.heap.size = w.heap.size) (hos : w'.os = w.os) (ht : w'.tape = w.tape) (ho : Out w w')
  (hk : ∀ b, (∀ d ∈ a.defers, d.target ≠ .collected b) → w'.heap[b]? = w.heap[b]?) : Fr w0 S0 F0 θ0' σ0' w' S F θ σ := by
 have k := h.fr
 have hold : ∀ b, b < w0.heap.size → w'.heap[b]? = w.heap[b]? := fun b hb => hk b fun d hd e => by
  have := h.dn d hd b e
  simp only at this
  omega
 exact {
  size := by have := k.size; simp only at this; omega
  os := hos.trans k.os
  tape := ht.trans k.tape
  output := ho.trans k.output
  same := fun b hb hl hF => by rw [hold b hb]; exact k.same b hb hl hF
  sized := fun b c e fr hc => by
   rw [hold b (Array.getElem?_eq_some_iff.1 hc).1]
   exact k.sized b c e fr hc
  vecs := fun nm q b m h1 h2 j hj => by
   have h3 := k.vecs nm q b m h1 h2 j hj
   rw [← h3]
   exact cell_of_heap (hold b (hs0 nm b m (live_vec h1) h2))
  smono := k.smono
  snew := k.snew
  live := k.live
  fsub := k.fsub
  kdead := k.kdead
  kbox := k.kbox
  karr := k.karr
  kvec := k.kvec
  kmp := k.kmp }
theorem CT.intro {f : Nat} {rs : List RVar} {c : Cmd} {args : List V} {K : V → Store → G → Prop} (pn : List Nat) (hmix : P.follows .mixedOrders = true) (hc : chkFn P f n rs c = true)
  (hpn : ∀ nm, σ nm ≠ .unused → nm ∈ pn) (haw : MonoH H → AW P H pn c (env0 args) σ g (ctPost pn rs K)) : CT P H f args pn σ g K := by
 obtain ⟨fn, code, hf, hb, hn, hres, hchk, hcb⟩ := fn_parts hc
 refine ⟨hcb, fun J l hst hM hH w S F θ xs hs hargs => ?_⟩
 refine callsIn_of_wp_marks hf hb trivial ?_
 have hcur : Cur J l n ⟨w, S, F, θ, σ⟩ w S F θ σ g (env0 args) { tmps := xs.toArray ++ Array.replicate (fn.ntmps - xs.toArray.size) undef, defers := [] } :=
  ⟨hs, env_start _ hargs, by simp; omega, Fr.refl _ _ _ _ _, trivial, fun d hd => by cases hd⟩
 refine wpIn_mono (aw_sound hmix c false code hchk J l hst hM hH none (fun _ => rfl) pn _ _ _ _ ⟨w, S, F, θ, σ⟩ w S _ θ _ hpn hcur (haw hM)) fun e a' w' hp => ?_
 obtain ⟨hex, ρ', σ', g', S', F', θ', ⟨hok, vs, hvs, hcl, hcs, hK⟩, hc'⟩ := hp
 have key : LeavesInM Fence.wide 0 P fn a'.tmps (fun e w' => ∃ r x' σ' g' S' F' θ', e = .returned x' ∧ K r σ' g' ∧ St J w' S' F' θ' σ' l g' ∧ Rep w' S' θ' σ' l r x' ∧ Fr w S F θ σ w' S' F' θ' σ' ∧ ∀ nm, nm ∉ pn → σ' nm = .unused) a'.defers .returning w' := by
  refine leaves_marks hst hres hvs a'.defers hc'.st hc'.env hc'.de fun w2 u k1 k2 k3 k4 k5 k6 k7 => ?_
  refine ⟨finV vs, u, restr pn σ', g', S', F', restrN pn θ', rfl, hK, ?_, ?_, ?_, fun nm hu => ?_⟩
  · exact k1.restr (fun nm hm => restr_in hm) (fun nm hm => restr_out hm) (fun nm hm row hrow => (closedSt_iff pn σ' pn).1 hcs nm hm row hrow)
  · exact k2.restr (fun nm hm => restr_in hm) hcl
  · exact (marks_fr hc' (fun nm b m h1 h2 => live_lt hs h1 h2) k3 k4 k5 k6 k7).drop hpn (fun nm hm => restr_in hm) (fun nm hm => restr_out hm)
  · exact (restr_out (θ := θ') hu).1
 cases e with
 | normal => exact key
 | ret => exact key
 | exit id => cases hok
 | goto _ => cases hok
 | panic _ => cases hok
 | outgrown => cases hok
theorem restr_stOf (σ : Store) : ∀ pn : List Nat, restr pn σ = stOf (pn.map fun nm => (nm, σ nm))
 | [] => rfl
 | nm :: r => by
  funext t
  have ih := congrFun (restr_stOf σ r) t
  simp only [restr, List.map_cons, stOf, memB] at ih ⊢
  cases hb : Nat.beq t nm with
  | true => rw [Nat.eq_of_beq_eq_true hb]; simp
  | false => simpa using ih
end
inductive Frm (G : Type) where
 | seq (b : Cmd)
 | block (id : Nat)
 | loop (N : Env → Store → G → Prop)
def kont {G : Type} (P : Program) (H : HT G) (pn : List Nat) (Q : Exit → Env → Store → G → Prop) : List (Frm G) → Exit → Env → Store → G → Prop
 | [] => Q
 | .seq b :: fs => fun e ρ σ g => match e with
   | .normal => AW P H pn b ρ σ g (kont P H pn Q fs)
   | e => kont P H pn Q fs e ρ σ g
 | .block id :: fs => fun e ρ σ g => match e with
   | .exit id' => bif Nat.beq id' id then kont P H pn Q fs .normal ρ σ g else kont P H pn Q fs (.exit id') ρ σ g
   | e => kont P H pn Q fs e ρ σ g
 | .loop N :: fs => fun e ρ σ g => match e with
   | .normal => N ρ σ g
   | e => kont P H pn Q fs e ρ σ g
structure WC {G : Type} (P : Program) (H : HT G) (pn : List Nat) (Q : Exit → Env → Store → G → Prop) (fs : List (Frm G)) (c : Cmd) (ρ : Env) (σ : Store) (g : G) : Prop where
 out : AW P H pn c ρ σ g (kont P H pn Q fs)
structure WE {G : Type} (P : Program) (H : HT G) (pn : List Nat) (Q : Exit → Env → Store → G → Prop) (fs : List (Frm G)) (e : Exit) (ρ : Env) (σ : Store) (g : G) : Prop where
 out : kont P H pn Q fs e ρ σ g
structure WI {G : Type} (P : Program) (H : HT G) (pn : List Nat) (Q : Exit → Env → Store → G → Prop) (fs : List (Frm G)) (l : List GItem) (ρ : Env) (σ : Store) (g : G) : Prop where
 out : AWits P H l ρ σ g (kont P H pn Q fs .normal)
def fz : V → Option V
 | .any => some .any
 | .bool b => some (.bool b)
 | .int k n => some (.int k n)
 | .str s => some (.str s)
 | .agg l => some (.agg l)
 | .tup l => some (.tup l)
 | .sl t rows => some (.sl t rows)
 | .msl nm gen i len => some (.msl nm gen i len)
 | .ptr nm gen i j => some (.ptr nm gen i j)
 | .bptr nm j => some (.bptr nm j)
 | .cptr t row j => some (.cptr t row j)
 | .nilptr => some .nilptr
 | .fn f caps => some (.fn f caps)
 | .nilfn => some .nilfn
 | .rnd => some .rnd
 | .raw b j => some (.raw b j)
 | .tag b l => some (.tag b l)
 | .ifc b => some (.ifc b)
 | .rsl b n c => some (.rsl b n c)
 | .nilmp => some .nilmp
 | .mp nm => some (.mp nm)
 | .mps k ns vs => some (.mps k ns vs)
 | .ifv t v => some (.ifv t v)
theorem fz_eq {v u : V} (h : fz v = some u) : u = v := by cases v <;> cases h <;> rfl
def fzL : List V → Option (List V)
 | [] => some []
 | v :: r => match fz v, fzL r with
   | some v', some r' => some (v' :: r')
   | _, _ => none
theorem fzL_eq : ∀ {l m : List V}, fzL l = some m → m = l
 | [], _, h => by cases h; rfl
 | v :: r, m, h => by
  simp only [fzL] at h
  split at h
  · rename_i v' r' h1 h2
    cases h
    rw [fz_eq h1, fzL_eq h2]
  · cases h
def fzA : Option V → Option V
 | some (.agg l) => match fzL l with
   | some l' => some (.agg l')
   | none => none
 | some v => fz v
 | none => none
theorem fzA_eq {o : Option V} {u : V} (h : fzA o = some u) : o = some u := by
 unfold fzA at h
 split at h
 · split at h
   · rename_i h1
     cases h
     rw [fzL_eq h1]
   · cases h
 · rw [fz_eq h]
 · cases h
def binv (op : BinOp) (st : Bool) (et : List LT) (x y : V) : Option V :=
 match op, x, y with
 | .lss, .int k a, .int k' b => bif kEq k k' then some (.bool (decide (a < b))) else none
 | .leq, .int k a, .int k' b => bif kEq k k' then some (.bool (decide (a ≤ b))) else none
 | .gtr, .int k a, .int k' b => bif kEq k k' then some (.bool (decide (a > b))) else none
 | .geq, .int k a, .int k' b => bif kEq k k' then some (.bool (decide (a ≥ b))) else none
 | .eql, x, y => match eqv st et x y with
   | some b => some (.bool b)
   | none => none
 | .neq, x, y => match eqv st et x y with
   | some b => some (.bool (!b))
   | none => none
 | _, _, _ => none
def sop (ρ : Env) (σ : Store) : AOp → Option V
 | .mov x => fz (ev ρ x)
 | .pick c a b => match ev ρ c with
   | .bool true => fz (ev ρ a)
   | .bool false => fz (ev ρ b)
   | _ => none
 | .bin op st et x y => binv op st et (ev ρ x) (ev ρ y)
 | .not x => match ev ρ x with
   | .bool t => some (.bool (!t))
   | _ => none
 | .len s x => match s, ev ρ x with
   | false, .sl _ rows => some (.int .i64 rows.length)
   | false, .msl nm gen _ n => match σ nm with
     | .arr gen' _ => bif Nat.beq gen gen' then some (.int .i64 n) else none
     | _ => none
   | true, .str s => some (.int .i64 s.length)
   | false, .rsl _ n _ => some (.int .i64 n)
   | _, _ => none
 | .build zero parts => match partsOf ρ zero parts with
   | some l => match fzL l with
     | some l' => some (.agg l')
     | none => none
   | none => none
 | .bsl size xs => match fzL (xs.map (ev ρ)) with
   | some l => bif l.all (fun v => pureB v && rowB v && Nat.beq v.cells.length size) then some (.sl .p l) else none
   | none => none
 | .load agg size a => match ev ρ a with
   | .bptr nm j => match σ nm with
     | .box row => fzA (ldrow agg size j row)
     | _ => none
   | .cptr _ row j => fzA (ldrow agg size j row)
   | _ => none
 | .faddr off x => match ev ρ x with
   | .bptr nm j => match σ nm with
     | .box _ => some (.bptr nm (j + off))
     | _ => none
   | .ptr nm gen i j => match σ nm with
     | .arr gen' _ => bif Nat.beq gen gen' then some (.ptr nm gen i (j + off)) else none
     | _ => none
   | .cptr t row j => some (.cptr t row (j + off))
   | .raw b j => some (.raw b (j + off))
   | _ => none
 | .field agg size off x => match ev ρ x with
   | .agg l => fzA (ldrow agg size off (.agg l))
   | _ => none
 | .extract x i => match ev ρ x with
   | .tup l => fzA l[i]?
   | _ => none
 | .cut0 x => match ev ρ x with
   | .sl _ _ => some (.sl .nil [])
   | _ => none
 | .mkfn f caps => match fzL (caps.map (ev ρ)) with
   | some l => some (.fn f l)
   | none => none
 | .nilck x => match ev ρ x with
   | .bptr nm j => match σ nm with
     | .box _ => some (.bptr nm j)
     | _ => none
   | .cptr t row j => some (.cptr t row j)
   | .raw b j => some (.raw b j)
   | .fn f caps => some (.fn f caps)
   | .rnd => some .rnd
   | _ => none
 | _ => none
def bsto (ρ : Env) (σ : Store) (size : Nat) (a x : Opd) : Option (Nat × V) := match ev ρ a with
 | .bptr nm j => match σ nm with
   | .box row => match fzA (strow size j row (ev ρ x)) with
     | some r => some (nm, r)
     | none => none
   | _ => none
 | _ => none
def boxv (ρ : Env) (size : Nat) (x : Opd) : Option V := match fz (ev ρ x) with
 | some v => bif rowB v && Nat.beq size v.cells.length then some v else none
 | none => none
structure Fc (P : Program) (f : Nat) (args : List V) (r : V) : Prop where
 out : Fn P f args r
structure Cc {G : Type} (P : Program) (H : HT G) (f : Nat) (args : List V) (pn : List Nat) (σ : Store) (g : G) (K : V → Store → G → Prop) : Prop where
 out : CT P H f args pn σ g K
def calv (ρ : Env) (f : Opd) (args : List Opd) : Option (Nat × List V) := match ev ρ f with
 | .fn fid caps => match fzL (args.map (ev ρ)) with
   | some as => some (fid, as ++ caps)
   | none => none
 | _ => none
section
variable {G : Type} {P : Program} {H : HT G} {pn : List Nat} {Q : Exit → Env → Store → G → Prop} {fs : List (Frm G)} {ρ : Env} {σ : Store} {g : G} {r : List GItem} {d : Nat} {dst : Option Nat} {a b : Cmd} {v : V} {o : AOp}
theorem c_seq (h : WC P H pn Q (.seq b :: fs) a ρ σ g) : WC P H pn Q fs (.seq a b) ρ σ g := ⟨by
 have := h.out
 simp only [AW]
 refine cast (congrArg (AW P H pn a ρ σ g) ?_) this
 funext e ρ' σ' g'
 cases e <;> rfl⟩
theorem c_skip (h : WE P H pn Q fs .normal ρ σ g) : WC P H pn Q fs .skip ρ σ g := ⟨h.out⟩
theorem c_ops {l : List GItem} (h : WI P H pn Q fs l ρ σ g) : WC P H pn Q fs (.ops l) ρ σ g := ⟨h.out⟩
theorem c_leaf {l : List GItem} {r : List Nat} (h : WI P H pn Q fs (pickAll l r) ρ σ g) : WC P H pn Q fs (.opsT (.leaf r) l) ρ σ g := ⟨h.out⟩
theorem c_node {l : List GItem} {i j : Nat} {x y : OT} (h : WC P H pn Q fs (.opsT x l) ρ σ g) (k : WC P H pn Q fs (.opsT y l) ρ σ g) : WC P H pn Q fs (.opsT (.node i j x y) l) ρ σ g := ⟨⟨h.out, k.out⟩⟩
theorem c_cond {x : Opd} {t : Bool} (hx : ev ρ x = .bool t) (h1 : t = true → WC P H pn Q fs a ρ σ g) (h2 : t = false → WC P H pn Q fs b ρ σ g) : WC P H pn Q fs (.cond x a b) ρ σ g := ⟨by
 simp only [AW, hx]
 exact splitB_intro (fun h => (h1 h).out) (fun h => (h2 h).out)⟩
theorem c_t {x : Opd} (hx : ev ρ x = .bool true) (h : WC P H pn Q fs a ρ σ g) : WC P H pn Q fs (.cond x a b) ρ σ g := c_cond hx (fun _ => h) (fun e => by cases e)
theorem c_f {x : Opd} (hx : ev ρ x = .bool false) (h : WC P H pn Q fs b ρ σ g) : WC P H pn Q fs (.cond x a b) ρ σ g := c_cond hx (fun e => by cases e) (fun _ => h)
theorem c_block {id : Nat} (h : WC P H pn Q (.block id :: fs) a ρ σ g) : WC P H pn Q fs (.block id a) ρ σ g := ⟨by
 have := h.out
 simp only [AW]
 refine cast (congrArg (AW P H pn a ρ σ g) ?_) this
 funext e ρ' σ' g'
 cases e <;> rfl⟩
theorem c_exit {id : Nat} (h : WE P H pn Q fs (.exit id) ρ σ g) : WC P H pn Q fs (.exit id) ρ σ g := ⟨h.out⟩
theorem c_ret (h : WE P H pn Q fs .ret ρ σ g) : WC P H pn Q fs .ret ρ σ g := ⟨h.out⟩
theorem c_fzb {t j nm bn k : Nat} {l0 rows : List V} (ht : ρ t = .bptr bn 0) (hb : σ bn = .box (.agg l0)) (hj : l0[j]? = some (.sl (.own nm) rows)) (hu : σ nm = .vec k) (h : WC P H pn Q fs a ρ (ups (ups σ nm .dead) bn (.box (.agg (l0.set j (.sl .p rows))))) g) : WC P H pn Q fs (.fzb t j a) ρ σ g := ⟨by
 simp only [AW, ht, hb, hj, hu]
 exact h.out⟩
theorem c_nvb {t j nm bn : Nat} {l0 : List V} (ht : ρ t = .bptr bn 0) (hb : σ bn = .box (.agg l0)) (hu : σ nm = .unused) (hj : l0[j]? = some (.sl .nil [])) (h : WC P H pn Q fs a ρ (ups (ups σ nm (.vec 0)) bn (.box (.agg (l0.set j (.sl (.own nm) []))))) g) : WC P H pn Q fs (.nvb t j nm a) ρ σ g := ⟨by
 simp only [AW, ht, hu, hb, hj]
 exact h.out⟩
theorem c_nvs {t nm bn : Nat} (ht : ρ t = .bptr bn 0) (hb : σ bn = .box (.sl .nil [])) (hu : σ nm = .unused) (h : WC P H pn Q fs a ρ (ups (ups σ nm (.vec 0)) bn (.box (.sl (.own nm) []))) g) : WC P H pn Q fs (.nvs t nm a) ρ σ g := ⟨by
 simp only [AW, ht, hu, hb]
 exact h.out⟩
theorem c_tag {t bn : Nat} {l0 : List V} (ht : ρ t = .bptr bn 0) (hb : σ bn = .box (.agg l0)) (h : ∀ b, WC P H pn Q fs a (upd ρ t (.raw b 0)) (ups σ bn (.box (.tag b l0))) g) : WC P H pn Q fs (.tagb t a) ρ σ g := ⟨by
 simp only [AW, ht, hb]
 exact fun b => (h b).out⟩
theorem c_cut0 (h : WC P H pn Q fs a ρ σ g) : WC P H pn Q fs (.cut a) ρ σ g := ⟨.inl h.out⟩
theorem c_cut (E : List (Nat × V)) (Sg : List (Nat × Blk)) (hf : Fits pn E Sg ρ σ) (h : WC P H pn Q fs a (envOf E) (stOf Sg) g) : WC P H pn Q fs (.cut a) ρ σ g := ⟨.inr ⟨E, Sg, hf, h.out⟩⟩
theorem c_loop {ι : Type} (E : ι → List (Nat × V)) (Sg : ι → List (Nat × Blk)) (gi : ι → G) (inv : ι → Prop) (μ : ι → Nat) (i0 : ι) (h0 : inv i0) (hf : Fits pn (E i0) (Sg i0) ρ σ) (hg : gi i0 = g)
  (hs : ∀ i, inv i → WC P H pn Q (.loop (fun ρ' σ' g' => ∃ i', inv i' ∧ Fits pn (E i') (Sg i') ρ' σ' ∧ gi i' = g' ∧ μ i' < μ i) :: fs) a (envOf (E i)) (stOf (Sg i)) (gi i)) : WC P H pn Q fs (.loop a) ρ σ g := ⟨by
 simp only [AW]
 refine ⟨ι, E, Sg, gi, inv, μ, ⟨i0, h0, hf, hg⟩, fun i hi => ?_⟩
 have := (hs i hi).out
 refine cast (congrArg (AW P H pn a _ _ _) ?_) this
 funext e ρ' σ' g'
 cases e <;> rfl⟩
theorem c_join (hM : MonoH H) (R : Exit → Env → Store → G → Prop) (h : WC P H pn R [] a ρ σ g) (k : ∀ e ρ' σ' g', R e ρ' σ' g' → WE P H pn Q fs e ρ' σ' g') : WC P H pn Q fs a ρ σ g :=
 ⟨AW_mono hM a pn ρ σ g _ _ (fun e ρ' σ' g' h => (k e ρ' σ' g' h).out) h.out⟩
theorem e_seq (h : WC P H pn Q fs b ρ σ g) : WE P H pn Q (.seq b :: fs) .normal ρ σ g := ⟨h.out⟩
theorem e_block {id : Nat} (h : WE P H pn Q fs .normal ρ σ g) : WE P H pn Q (.block id :: fs) .normal ρ σ g := ⟨h.out⟩
theorem e_loop {N : Env → Store → G → Prop} (h : N ρ σ g) : WE P H pn Q (.loop N :: fs) .normal ρ σ g := ⟨h⟩
theorem e_end {e : Exit} (h : Q e ρ σ g) : WE P H pn Q [] e ρ σ g := ⟨h⟩
theorem e_ret (h : Q .ret ρ σ g) : WE P H pn Q fs .ret ρ σ g := ⟨by
 induction fs with
 | nil => exact h
 | cons f fs ih => cases f <;> exact ih⟩
def popTo (id : Nat) : List (Frm G) → List (Frm G)
 | [] => []
 | .block id' :: fs => bif Nat.beq id id' then fs else popTo id fs
 | _ :: fs => popTo id fs
def hasBlk (id : Nat) : List (Frm G) → Bool
 | [] => false
 | .block id' :: fs => bif Nat.beq id id' then true else hasBlk id fs
 | _ :: fs => hasBlk id fs
theorem e_exit {id : Nat} (h0 : hasBlk id fs = true) (h : WE P H pn Q (popTo id fs) .normal ρ σ g) : WE P H pn Q fs (.exit id) ρ σ g := ⟨by
 obtain ⟨h⟩ := h
 induction fs with
 | nil => cases h0
 | cons f fs ih =>
  cases f with
  | seq b => exact ih h0 h
  | loop N => exact ih h0 h
  | block id' =>
   simp only [hasBlk, popTo] at h0 h
   simp only [kont]
   cases hb : Nat.beq id id' with
   | true => rw [hb] at h; exact h
   | false => rw [hb] at h h0; exact ih h0 h⟩
theorem i_nil (h : WE P H pn Q fs .normal ρ σ g) : WI P H pn Q fs [] ρ σ g := ⟨h.out⟩
theorem sop_ok {K : V → Store → G → Prop} (h : sop ρ σ o = some v) (k : K v σ g) : AWop P H ρ σ g o K := by
 cases o with
 | mov x => simp only [sop] at h; simp only [AWop]; rw [← fz_eq h]; exact k
 | pick c x y =>
  simp only [sop] at h; simp only [AWop]
  split at h
  · rename_i e; rw [e]; simp only [cond_true]; rw [← fz_eq h]; exact k
  · rename_i e; rw [e]; simp only [cond_false]; rw [← fz_eq h]; exact k
  · cases h
 | bin op st et x y =>
  simp only [sop] at h; simp only [AWop]
  revert h
  generalize ev ρ x = x
  generalize ev ρ y = y
  intro h
  unfold binv at h
  split at h
  · cases hk : kEq _ _ with
    | true => rw [hk] at h; cases h; simp only [abin, hk, cond_true]; exact k
    | false => rw [hk] at h; cases h
  · cases hk : kEq _ _ with
    | true => rw [hk] at h; cases h; simp only [abin, hk, cond_true]; exact k
    | false => rw [hk] at h; cases h
  · cases hk : kEq _ _ with
    | true => rw [hk] at h; cases h; simp only [abin, hk, cond_true]; exact k
    | false => rw [hk] at h; cases h
  · cases hk : kEq _ _ with
    | true => rw [hk] at h; cases h; simp only [abin, hk, cond_true]; exact k
    | false => rw [hk] at h; cases h
  · split at h
    · rename_i e; cases h; simp only [abin, e]; exact k
    · cases h
  · split at h
    · rename_i e; cases h; simp only [abin, e]; exact k
    · cases h
  · cases h
 | not x =>
  simp only [sop] at h; simp only [AWop]
  split at h
  · rename_i e; cases h; rw [e]; exact k
  · cases h
 | len s x =>
  simp only [sop] at h; simp only [AWop]
  split at h
  · rename_i e; cases h; rw [e]; exact k
  · rename_i nm gen i n e
    split at h
    · rename_i gen' rows e2
      cases hb : Nat.beq gen gen' with
      | true => rw [hb] at h; cases h; rw [e]; simp only [e2]; exact ⟨Nat.eq_of_beq_eq_true hb, k⟩
      | false => rw [hb] at h; cases h
    · cases h
  · rename_i e; cases h; rw [e]; exact k
  · rename_i e; cases h; rw [e]; exact k
  · cases h
 | build zero parts =>
  simp only [sop] at h; simp only [AWop]
  split at h
  · rename_i l e
    rw [e]
    split at h
    · rename_i l' e2; cases h; rw [← fzL_eq e2]; exact k
    · cases h
  · cases h
 | bsl size xs =>
  simp only [sop] at h; simp only [AWop]
  split at h
  · rename_i l e
    rw [← fzL_eq e]
    cases hb : l.all (fun v => pureB v && rowB v && Nat.beq v.cells.length size) with
    | true => rw [hb] at h; cases h; exact ⟨rfl, k⟩
    | false => rw [hb] at h; cases h
  · cases h
 | load agg size x =>
  simp only [sop] at h; simp only [AWop]
  split at h
  · rename_i e
    split at h
    · rename_i e2; rw [e]; simp only [e2]; rw [fzA_eq h]; exact k
    · cases h
  · rename_i e; rw [e]; simp only; rw [fzA_eq h]; exact k
  · cases h
 | faddr off x =>
  simp only [sop] at h; simp only [AWop]
  split at h
  · rename_i e
    split at h
    · rename_i e2; cases h; rw [e]; simp only [e2]; exact k
    · cases h
  · rename_i nm gen i j e
    split at h
    · rename_i gen' rows e2
      cases hb : Nat.beq gen gen' with
      | true => rw [hb] at h; cases h; rw [e]; simp only [e2]; exact ⟨Nat.eq_of_beq_eq_true hb, k⟩
      | false => rw [hb] at h; cases h
    · cases h
  · rename_i e; cases h; rw [e]; exact k
  · rename_i e; cases h; rw [e]; exact k
  · cases h
 | field agg size off x =>
  simp only [sop] at h; simp only [AWop]
  split at h
  · rename_i e; rw [e]; simp only; rw [fzA_eq h]; exact k
  · cases h
 | extract x i =>
  simp only [sop] at h; simp only [AWop]
  split at h
  · rename_i e; rw [e]; simp only; rw [fzA_eq h]; exact k
  · cases h
 | cut0 x =>
  simp only [sop] at h; simp only [AWop]
  split at h
  · rename_i e; cases h; rw [e]; exact k
  · cases h
 | mkfn f caps =>
  simp only [sop] at h; simp only [AWop]
  split at h
  · rename_i l e; cases h; rw [← fzL_eq e]; exact k
  · cases h
 | nilck x =>
  simp only [sop] at h; simp only [AWop]
  split at h
  · rename_i e
    split at h
    · rename_i e2; cases h; rw [e]; simp only [e2]; exact k
    · cases h
  · rename_i e; cases h; rw [e]; exact k
  · rename_i e; cases h; rw [e]; exact k
  · rename_i e; cases h; rw [e]; exact k
  · rename_i e; cases h; rw [e]; exact k
  · cases h
 | _ => cases h
theorem i_out (h : AWop P H ρ σ g o fun v σ' g' => AWits P H r (put ρ dst v) σ' g' (kont P H pn Q fs .normal)) : WI P H pn Q fs (.op dst none o :: r) ρ σ g := ⟨by
 show AWop P H ρ σ g o fun v σ' g' => force v fun v => AWits P H r (put ρ dst v) σ' g' _
 simp only [force_eq]
 exact h⟩
theorem i_s (h : sop ρ σ o = some v) (k : WI P H pn Q fs r (upd ρ d v) σ g) : WI P H pn Q fs (.op (some d) none o :: r) ρ σ g := i_out (sop_ok h k.out)
theorem i_gt {s : Nat} {want : Bool} (hs : ρ s = .bool want) (h : WI P H pn Q fs (.op dst none o :: r) (upd ρ s (.bool want)) σ g) : WI P H pn Q fs (.op dst (some (s, want)) o :: r) ρ σ g := ⟨by
 simp only [AWits, AWit, hs]
 exact splitB_intro (fun _ => h.out) (fun e => by cases want <;> cases e)⟩
theorem i_gf {s : Nat} {want : Bool} (hs : ρ s = .bool (!want)) (h : WI P H pn Q fs r (put (upd ρ s (.bool (!want))) dst (.tup [])) σ g) : WI P H pn Q fs (.op dst (some (s, want)) o :: r) ρ σ g := ⟨by
 simp only [AWits, AWit, hs]
 exact splitB_intro (fun e => by cases want <;> cases e) (fun _ => h.out)⟩
theorem i_gd {s : Nat} {want : Bool} (hs : ρ s = .tup []) (h : WI P H pn Q fs r (put ρ dst (.tup [])) σ g) : WI P H pn Q fs (.op dst (some (s, want)) o :: r) ρ σ g := ⟨by
 simp only [AWits, AWit, hs]
 exact h.out⟩
theorem i_g {s : Nat} {want b : Bool} (hs : ρ s = .bool b) (h1 : b = want → WI P H pn Q fs (.op dst none o :: r) (upd ρ s (.bool want)) σ g) (h2 : b = (!want) → WI P H pn Q fs r (put (upd ρ s (.bool (!want))) dst (.tup [])) σ g) : WI P H pn Q fs (.op dst (some (s, want)) o :: r) ρ σ g := ⟨by
 simp only [AWits, AWit, hs]
 exact splitB_intro (fun e => (h1 e).out) (fun e => (h2 e).out)⟩
theorem kEq_refl {k : IntKind} {n : Int} (h : InR k n) : kEq k k = true := by cases k <;> first | rfl | exact h.elim
theorem i_add {k : IntKind} {m n : Int} {st : Bool} {et : List LT} {x y : Opd} (hx : ev ρ x = .int k m) (hy : ev ρ y = .int k n) (hr : InR k (m + n)) (h : WI P H pn Q fs r (upd ρ d (.int k (m + n))) σ g) :
  WI P H pn Q fs (.op (some d) none (.bin .add st et x y) :: r) ρ σ g := i_out (by
 simp only [AWop, hx, hy, abin, kEq_refl hr, cond_true]
 rw [wrap_id hr]; exact h.out)
theorem i_sub {k : IntKind} {m n : Int} {st : Bool} {et : List LT} {x y : Opd} (hx : ev ρ x = .int k m) (hy : ev ρ y = .int k n) (hr : InR k (m - n)) (h : WI P H pn Q fs r (upd ρ d (.int k (m - n))) σ g) :
  WI P H pn Q fs (.op (some d) none (.bin .sub st et x y) :: r) ρ σ g := i_out (by
 simp only [AWop, hx, hy, abin, kEq_refl hr, cond_true]
 rw [wrap_id hr]; exact h.out)
theorem i_mul {k : IntKind} {m n : Int} {st : Bool} {et : List LT} {x y : Opd} (hx : ev ρ x = .int k m) (hy : ev ρ y = .int k n) (hr : InR k (m * n)) (h : WI P H pn Q fs r (upd ρ d (.int k (m * n))) σ g) :
  WI P H pn Q fs (.op (some d) none (.bin .mul st et x y) :: r) ρ σ g := i_out (by
 simp only [AWop, hx, hy, abin, kEq_refl hr, cond_true]
 rw [wrap_id hr]; exact h.out)
theorem i_quo {k : IntKind} {m n : Int} {st : Bool} {et : List LT} {x y : Opd} (hx : ev ρ x = .int k m) (hy : ev ρ y = .int k n) (hn : n ≠ 0) (hr : InR k (m.tdiv n)) (h : WI P H pn Q fs r (upd ρ d (.int k (m.tdiv n))) σ g) :
  WI P H pn Q fs (.op (some d) none (.bin .quo st et x y) :: r) ρ σ g := i_out (by
 simp only [AWop, hx, hy, abin, kEq_refl hr, cond_true]
 exact ⟨hn, hr, h.out⟩)
theorem i_conv {k k' : IntKind} {n : Int} {x : Opd} (hx : ev ρ x = .int k' n) (hr : InR k n) (h : WI P H pn Q fs r (upd ρ d (.int k n)) σ g) : WI P H pn Q fs (.op (some d) none (.conv k x) :: r) ρ σ g := i_out (by
 simp only [AWop, hx]
 exact ⟨hr, h.out⟩)
theorem i_ia {size : Nat} {t : Tag} {rows : List V} {kk : IntKind} {n : Int} {row : V} {x i : Opd} (hx : ev ρ x = .sl t rows) (hi : ev ρ i = .int kk n) (h0 : 0 ≤ n) (hr : rows[n.toNat]? = some row) (hw : Nat.beq size row.cells.length = true)
  (h : WI P H pn Q fs r (upd ρ d (.cptr t row 0)) σ g) : WI P H pn Q fs (.op (some d) none (.iaddr size x i) :: r) ρ σ g := i_out (by
 simp only [AWop, hx, hi]
 exact ⟨h0, row, hr, hw, h.out⟩)
theorem i_ima {size : Nat} {nm gen i len gen' : Nat} {rows : List V} {kk : IntKind} {n : Int} {x y : Opd} (hx : ev ρ x = .msl nm gen i len) (hi : ev ρ y = .int kk n) (hs : σ nm = .arr gen' rows) (hg : gen = gen') (h0 : 0 ≤ n) (h1 : n < len) (hw : Nat.beq (wd nm) size = true)
  (h : WI P H pn Q fs r (upd ρ d (.ptr nm gen (i + n.toNat) 0)) σ g) : WI P H pn Q fs (.op (some d) none (.iaddr size x y) :: r) ρ σ g := i_out (by
 simp only [AWop, hx, hi, hs]
 exact ⟨hg, h0, h1, hw, h.out⟩)
theorem i_ix {s : List UInt8} {kk : IntKind} {n : Int} {c : UInt8} {x i : Opd} (hx : ev ρ x = .str s) (hi : ev ρ i = .int kk n) (h0 : 0 ≤ n) (hc : s[n.toNat]? = some c) (h : WI P H pn Q fs r (upd ρ d (.int .u8 c.toNat)) σ g) :
  WI P H pn Q fs (.op (some d) none (.index x i) :: r) ρ σ g := i_out (by
 simp only [AWop, hx, hi]
 exact ⟨h0, c, hc, h.out⟩)
theorem i_ldp {agg : Bool} {size nm gen i j gen' : Nat} {rows : List V} {row : V} {x : Opd} (hx : ev ρ x = .ptr nm gen i j) (hs : σ nm = .arr gen' rows) (hg : gen = gen') (hr : rows[i]? = some row) (hl : fzA (ldrow agg size j row) = some v)
  (h : WI P H pn Q fs r (upd ρ d v) σ g) : WI P H pn Q fs (.op (some d) none (.load agg size x) :: r) ρ σ g := i_out (by
 simp only [AWop, hx, hs]
 refine ⟨hg, row, hr, ?_⟩
 rw [fzA_eq hl]
 exact h.out)
theorem i_stp {size nm gen i j gen' : Nat} {rows : List V} {row row' : V} {x y : Opd} (hx : ev ρ x = .ptr nm gen i j) (hs : σ nm = .arr gen' rows) (hg : gen = gen') (hr : rows[i]? = some row) (hp : pureB (ev ρ y) = true) (hl : fzA (strow size j row (ev ρ y)) = some row')
  (h : WI P H pn Q fs r (put ρ dst (.tup [])) (ups σ nm (.arr gen (rows.set i row'))) g) : WI P H pn Q fs (.op dst none (.store size x y) :: r) ρ σ g := i_out (by
 simp only [AWop, hx, hs]
 refine ⟨hg, hp, row, hr, ?_⟩
 rw [fzA_eq hl]
 exact h.out)
theorem i_stb {size nm : Nat} {row : V} {x y : Opd} (hx : bsto ρ σ size x y = some (nm, row)) (h : WI P H pn Q fs r (put ρ dst (.tup [])) (ups σ nm (.box row)) g) : WI P H pn Q fs (.op dst none (.store size x y) :: r) ρ σ g := i_out (by
 unfold bsto at hx
 split at hx
 · rename_i e
   split at hx
   · rename_i e2
     split at hx
     · rename_i e3
       cases hx
       simp only [AWop, e, e2, fzA_eq e3]
       exact h.out
     · cases hx
   · cases hx
 · cases hx)
theorem i_alloc {nm : Nat} {z : V} (hs : σ nm = .unused) (h : WI P H pn Q fs r (upd ρ d (.bptr nm 0)) (ups σ nm (.box z)) g) : WI P H pn Q fs (.op (some d) none (.alloc nm z) :: r) ρ σ g := i_out (by
 simp only [AWop, hs]
 exact h.out)
theorem i_box {nm size : Nat} {x : Opd} (hs : σ nm = .unused) (hx : boxv ρ size x = some v) (h : WI P H pn Q fs r (upd ρ d (.bptr nm 0)) (ups σ nm (.box v)) g) : WI P H pn Q fs (.op (some d) none (.box nm size x) :: r) ρ σ g := i_out (by
 unfold boxv at hx
 split at hx
 · rename_i v' e
   cases fz_eq e
   cases hb : rowB (ev ρ x) && Nat.beq size (ev ρ x).cells.length with
   | true =>
    rw [hb] at hx; cases hx
    simp only [AWop, hs, hb, cond_true]
    exact h.out
   | false => rw [hb] at hx; cases hx
 · cases hx)
theorem i_nv {nm : Nat} (hs : σ nm = .unused) (h : WI P H pn Q fs r (upd ρ d (.sl (.own nm) [])) (ups σ nm (.vec 0)) g) : WI P H pn Q fs (.op (some d) none (.newVec nm) :: r) ρ σ g := i_out (by
 simp only [AWop, hs]
 exact h.out)
theorem i_na {nm : Nat} (hs : σ nm = .unused) (h : WI P H pn Q fs r (upd ρ d (.msl nm 0 0 0)) (ups σ nm (.arr 0 [])) g) : WI P H pn Q fs (.op (some d) none (.newArr nm) :: r) ρ σ g := i_out (by
 simp only [AWop, hs]
 exact h.out)
theorem i_bslo {nm size : Nat} {xs : List Opd} {l : List V} (hs : σ nm = .unused) (hw : (Nat.beq (wd nm) size && Nat.beq (nm / 1099511627776) 0) = true) (hl : fzL (xs.map (ev ρ)) = some l) (hp : l.all (fun v => pureB v && rowB v && Nat.beq v.cells.length size) = true)
  (h : WI P H pn Q fs r (upd ρ d (.sl (.own nm) l)) (ups σ nm (.vec xs.length)) g) : WI P H pn Q fs (.op (some d) none (.bslO nm size xs) :: r) ρ σ g := i_out (by
 cases fzL_eq hl
 simp only [AWop, hs]
 exact ⟨hw, hp, h.out⟩)
theorem i_app {size bytes et nm k : Nat} {rows xs : List V} {t : Tag} {x y : Opd} (hx : ev ρ x = .sl (.own nm) rows) (hy : ev ρ y = .sl t xs) (hs : σ nm = .vec k) (hk : rows.length = k) (hw : (Nat.beq (wd nm) size && tyOkB nm et) = true)
  (hc : ∀ row ∈ xs, row.cells.length = size ∧ row.cells.all leafB = true) (h1 : (k + xs.length) * bytes ≤ 140737488355328) (h2 : k + xs.length ≤ 140737488355328)
  (h : WI P H pn Q fs r (upd ρ d (.sl (.own nm) (rows ++ xs))) (ups σ nm (.vec (k + xs.length))) g) : WI P H pn Q fs (.op (some d) none (.append size bytes et x y) :: r) ρ σ g := i_out (by
 simp only [AWop, hx, hy, srcR, hs]
 exact ⟨hk, hw, hc, h1, h2, h.out⟩)
theorem i_app1 {size bytes et nm k : Nat} {rows : List V} {row : V} {t : Tag} {x y : Opd} (hx : ev ρ x = .sl (.own nm) rows) (hy : ev ρ y = .sl t [row]) (hs : σ nm = .vec k) (hk : rows.length = k) (hw : ((Nat.beq (wd nm) size && tyOkB nm et) && (Nat.beq row.cells.length size && row.cells.all leafB)) = true)
  (h1 : (k + 1) * bytes ≤ 140737488355328) (h2 : k + 1 ≤ 140737488355328)
  (h : WI P H pn Q fs r (upd ρ d (.sl (.own nm) (rows ++ [row]))) (ups σ nm (.vec (k + 1))) g) : WI P H pn Q fs (.op (some d) none (.append size bytes et x y) :: r) ρ σ g := by
 simp only [Bool.and_eq_true] at hw
 exact i_app hx hy hs hk (by rw [Bool.and_eq_true]; exact hw.1) (fun row' hm => by
  rw [List.mem_singleton.1 hm]
  exact ⟨Nat.eq_of_beq_eq_true hw.2.1, hw.2.2⟩) h1 h2 h
theorem i_appm {size bytes et nm gen len gen' : Nat} {rows xs : List V} {t : Tag} {x y : Opd} (hx : ev ρ x = .msl nm gen 0 len) (hy : ev ρ y = .sl t xs) (hs : σ nm = .arr gen' rows) (hg : gen = gen') (hw : Nat.beq (wd nm) size = true)
  (hc : ∀ row ∈ xs, row.cells.length = size ∧ row.cells.all leafB = true) (h1 : (len + xs.length) * bytes ≤ 140737488355328) (h2 : len + xs.length ≤ 140737488355328)
  (h : WI P H pn Q fs r (upd ρ d (.msl nm (gen + 1) 0 (len + xs.length))) (ups σ nm (.arr (gen + 1) (rows.take len ++ xs))) g) : WI P H pn Q fs (.op (some d) none (.append size bytes et x y) :: r) ρ σ g := i_out (by
 simp only [AWop, hx, hy, srcR, hs]
 exact ⟨hg, hw, hc, h1, h2, h.out⟩)
theorem i_mks {nm size bytes : Nat} {z : V} {m n : Int} {x y : Opd} (hs : σ nm = .unused) (hx : ev ρ x = .int .i64 m) (hy : ev ρ y = .int .i64 n) (h0 : 0 ≤ m) (h1 : m ≤ n) (h2 : n * bytes ≤ 140737488355328) (h3 : n ≤ 140737488355328)
  (hw : (Nat.beq (wd nm) size && Nat.beq z.cells.length size) = true) (h : WI P H pn Q fs r (upd ρ d (.msl nm 0 0 m.toNat)) (ups σ nm (.arr 0 (List.replicate m.toNat z))) g) : WI P H pn Q fs (.op (some d) none (.mkSl nm size bytes z x y) :: r) ρ σ g := i_out (by
 simp only [Bool.and_eq_true] at hw
 simp only [AWop, hx, hy, hs]
 exact ⟨h0, h1, h2, h3, hw.1, hw.2, h.out⟩)
def loV (ρ : Env) (lo : Option Opd) : V := (lo.map (ev ρ)).getD (.int .i64 0)
theorem i_smh {size nm gen i len gen' : Nat} {rows : List V} {k1 k2 : IntKind} {m n : Int} {x : Opd} {lo : Option Opd} {hi : Opd} (hx : ev ρ x = .msl nm gen i len) (hlo : loV ρ lo = .int k1 m) (hhi : ev ρ hi = .int k2 n) (hs : σ nm = .arr gen' rows) (hg : gen = gen') (h0 : 0 ≤ m) (h1 : m ≤ n) (h2 : n ≤ len) (hw : Nat.beq (wd nm) size = true)
  (h : WI P H pn Q fs r (upd ρ d (.msl nm gen (i + m.toNat) (n.toNat - m.toNat))) σ g) : WI P H pn Q fs (.op (some d) none (.slice false size x lo (some hi)) :: r) ρ σ g := i_out (by
 unfold loV at hlo
 simp only [AWop, hx, hlo, Option.map_some, hhi, hs]
 exact ⟨hg, h0, h1, h2, hw, h.out⟩)
theorem i_sm {size nm gen i len gen' : Nat} {rows : List V} {k1 : IntKind} {m : Int} {x : Opd} {lo : Option Opd} (hx : ev ρ x = .msl nm gen i len) (hlo : loV ρ lo = .int k1 m) (hs : σ nm = .arr gen' rows) (hg : gen = gen') (h0 : 0 ≤ m) (h2 : m ≤ len) (hw : Nat.beq (wd nm) size = true)
  (h : WI P H pn Q fs r (upd ρ d (.msl nm gen (i + m.toNat) (len - m.toNat))) σ g) : WI P H pn Q fs (.op (some d) none (.slice false size x lo none) :: r) ρ σ g := i_out (by
 unfold loV at hlo
 simp only [AWop, hx, hlo, Option.map_none, hs]
 exact ⟨hg, h0, h2, hw, h.out⟩)
theorem i_bsla {nm size : Nat} {xs : List Opd} {l : List V} (hs : σ nm = .unused) (hw : Nat.beq (wd nm) size = true) (hl : fzL (xs.map (ev ρ)) = some l) (hp : l.all (fun v => pureB v && rowB v && Nat.beq v.cells.length size) = true)
  (h : WI P H pn Q fs r (upd ρ d (.msl nm 0 0 xs.length)) (ups σ nm (.arr 0 l)) g) : WI P H pn Q fs (.op (some d) none (.bslA nm size xs) :: r) ρ σ g := i_out (by
 cases fzL_eq hl
 simp only [AWop, hs]
 exact ⟨hw, hp, h.out⟩)
theorem i_clear {size bytes nm gen i len gen' : Nat} {zero : V} {rows : List V} {x : Opd} (hx : ev ρ x = .msl nm gen i len) (hs : σ nm = .arr gen' rows) (hg : gen = gen') (hw : (Nat.beq (wd nm) size && zero.cells.all leafB) = true)
  (h : WI P H pn Q fs r (put ρ dst (.tup [])) (ups σ nm (.arr gen (rows.take i ++ List.replicate len zero ++ rows.drop (i + len)))) g) : WI P H pn Q fs (.op dst none (.clear size bytes zero x) :: r) ρ σ g := i_out (by
 simp only [Bool.and_eq_true] at hw
 simp only [AWop, hx, hs]
 exact ⟨hg, hw.1, hw.2, h.out⟩)
theorem i_isnil {neg : Bool} {t : Tag} {rows : List V} {x : Opd} (hx : ev ρ x = .sl t rows) (h : ∀ b : Bool, (b = true → rows = []) → WI P H pn Q fs r (upd ρ d (.bool (b != neg))) σ g) : WI P H pn Q fs (.op (some d) none (.isnil neg x) :: r) ρ σ g := i_out (by
 simp only [AWop, hx]
 exact fun b hb => (h b hb).out)
theorem i_f {f : Opd} {args : List Opd} {fid : Nat} {as as' : List V} {v : V} (hf : calv ρ f args = some (fid, as)) (ha : as.map (er σ 6) = as') (hc : Fc P fid as' v) (hp : (flatB v || pureL as) = true)
  (h : WI P H pn Q fs r (put ρ dst v) σ g) : WI P H pn Q fs (.op dst none (.call .f f args) :: r) ρ σ g := i_out (by
 unfold calv at hf
 split at hf
 · rename_i e
   split at hf
   · rename_i e2
     cases hf
     cases ha
     cases fzL_eq e2
     simp only [AWop, AWcall, e]
     exact ⟨v, hc.out, by rw [Bool.or_comm]; exact hp, h.out⟩
   · cases hf
 · cases hf)
theorem i_c {f : Opd} {args : List Opd} {fid : Nat} {as : List V} {ns : List Nat} (hf : calv ρ f args = some (fid, as)) (hcl : closedL ns as = true) (hcs : closedSt ns σ ns = true) {K : V → Store → G → Prop} (hc : Cc P H fid as ns (restr ns σ) g K)
  (h : ∀ v σ' g', K v σ' g' → WI P H pn Q fs r (put ρ dst v) (merge ns σ σ') g') : WI P H pn Q fs (.op dst none (.call (.s ns) f args) :: r) ρ σ g := i_out (by
 unfold calv at hf
 split at hf
 · rename_i e
   split at hf
   · rename_i e2
     cases hf
     cases fzL_eq e2
     simp only [AWop, AWcall, e]
     exact ⟨hcl, hcs, CT_mono (fun v σ' g' hk => (h v σ' g' hk).out) hc.out⟩
   · cases hf
 · cases hf)
theorem c_frzv {t nm k : Nat} {rows : List V} (ht : ρ t = .sl (.own nm) rows) (hs : σ nm = .vec k) (h : WE P H pn Q fs .normal (upd ρ t (.sl .p rows)) (ups σ nm .dead) g) : WC P H pn Q fs (.frz t) ρ σ g := ⟨by
 simp only [AW, AWit, ht, hs]
 exact h.out⟩
theorem c_frza {t nm gen i len gen' : Nat} {rows : List V} (ht : ρ t = .msl nm gen i len) (hs : σ nm = .arr gen' rows) (hg : gen = gen') (h : WE P H pn Q fs .normal (upd ρ t (.sl .p ((rows.drop i).take len))) (ups σ nm .dead) g) : WC P H pn Q fs (.frz t) ρ σ g := ⟨by
 simp only [AW, AWit, ht, hs]
 exact ⟨hg, h.out⟩⟩
end
theorem Fn.step {P : Program} {f n : Nat} {rs : List RVar} {c : Cmd} {args : List V} {r : V} (hmix : P.follows .mixedOrders = true) (hc : chkFn P f n rs c = true) (h : WC (G := Unit) P noH [] (fnPost rs r) [] c (env0 args) σ0 ()) : Fc P f args r :=
 ⟨Fn.intro hmix hc h.out⟩
theorem CT.step {G : Type} {P : Program} {H : HT G} {f n : Nat} {σ : Store} {g : G} {rs : List RVar} {c : Cmd} {args : List V} {K : V → Store → G → Prop} (pn : List Nat) (hmix : P.follows .mixedOrders = true) (hc : chkFn P f n rs c = true)
  (hpn : ∀ nm, σ nm ≠ .unused → nm ∈ pn) (h : MonoH H → WC P H pn (ctPost pn rs K) [] c (env0 args) σ g) : Cc P H f args pn σ g K :=
 ⟨CT.intro pn hmix hc hpn fun hM => (h hM).out⟩
section
variable {G : Type} {P : Program} {H : HT G} {pn : List Nat} {Q : Exit → Env → Store → G → Prop} {fs : List (Frm G)} {ρ : Env} {σ : Store} {g : G} {r : List GItem} {d : Nat} {dst : Option Nat} {a b : Cmd} {v : V} {o : AOp}
def forN (pn : List Nat) (n : Nat) (E : Nat → List (Nat × V)) (Sg : Nat → List (Nat × Blk)) (inv : Nat → Prop) (g : G) (k : Nat) : Env → Store → G → Prop :=
 fun ρ' σ' g' => ∃ i', (i' ≤ n ∧ inv i') ∧ Fits pn (E i') (Sg i') ρ' σ' ∧ g = g' ∧ n - i' < n - k
theorem c_for (n : Nat) (E : Nat → List (Nat × V)) (Sg : Nat → List (Nat × Blk)) (inv : Nat → Prop) (h0 : inv 0) (hf : Fits pn (E 0) (Sg 0) ρ σ)
  (hs : ∀ k, k ≤ n → inv k → WC P H pn Q (.loop (forN pn n E Sg inv g k) :: fs) a (envOf (E k)) (stOf (Sg k)) g) : WC P H pn Q fs (.loop a) ρ σ g :=
 c_loop E Sg (fun _ => g) (fun k => k ≤ n ∧ inv k) (fun k => n - k) 0 ⟨Nat.zero_le _, h0⟩ hf rfl fun k hk => hs k hk.1 hk.2
theorem e_for {n : Nat} {E : Nat → List (Nat × V)} {Sg : Nat → List (Nat × Blk)} {inv : Nat → Prop} {k : Nat} (hk : k < n) (hi : inv (k + 1)) (hf : Fits pn (E (k + 1)) (Sg (k + 1)) ρ σ) :
  WE P H pn Q (.loop (forN pn n E Sg inv g k) :: fs) .normal ρ σ g := e_loop ⟨k + 1, ⟨hk, hi⟩, hf, rfl, by omega⟩
def lpN {ι : Type} (pn : List Nat) (E : ι → List (Nat × V)) (Sg : ι → List (Nat × Blk)) (inv : ι → Prop) (μ : ι → Nat) (g : G) (i : ι) : Env → Store → G → Prop :=
 fun ρ' σ' g' => ∃ i', inv i' ∧ Fits pn (E i') (Sg i') ρ' σ' ∧ g = g' ∧ μ i' < μ i
theorem c_lp {ι : Type} (E : ι → List (Nat × V)) (Sg : ι → List (Nat × Blk)) (inv : ι → Prop) (μ : ι → Nat) (i0 : ι) (h0 : inv i0) (hf : Fits pn (E i0) (Sg i0) ρ σ)
  (hs : ∀ i, inv i → WC P H pn Q (.loop (lpN pn E Sg inv μ g i) :: fs) a (envOf (E i)) (stOf (Sg i)) g) : WC P H pn Q fs (.loop a) ρ σ g :=
 c_loop E Sg (fun _ => g) inv μ i0 h0 hf rfl fun i hi => hs i hi
theorem e_lp {ι : Type} {E : ι → List (Nat × V)} {Sg : ι → List (Nat × Blk)} {inv : ι → Prop} {μ : ι → Nat} {i : ι} (i' : ι) (hi : inv i') (hm : μ i' < μ i) (hf : Fits pn (E i') (Sg i') ρ σ) :
  WE P H pn Q (.loop (lpN pn E Sg inv μ g i) :: fs) .normal ρ σ g := e_loop ⟨i', hi, hf, rfl, hm⟩
theorem i_iai {α : Type} {f : α → V} {l : List α} {size : Nat} {t : Tag} {kk : IntKind} {n : Int} {c : α} {x i : Opd} (hx : ev ρ x = .sl t (l.map f)) (hi : ev ρ i = .int kk n) (h0 : 0 ≤ n) (hr : l[n.toNat]? = some c) (hw : Nat.beq size (f c).cells.length = true)
  (h : WI P H pn Q fs r (upd ρ d (.cptr t (f c) 0)) σ g) : WI P H pn Q fs (.op (some d) none (.iaddr size x i) :: r) ρ σ g :=
 i_ia hx hi h0 (by simp [hr]) hw h
theorem i_len {α : Type} {f : α → V} {l : List α} {t : Tag} {x : Opd} (hx : ev ρ x = .sl t (l.map f)) (h : WI P H pn Q fs r (upd ρ d (.int .i64 l.length)) σ g) : WI P H pn Q fs (.op (some d) none (.len false x) :: r) ρ σ g := i_out (by
 simp only [AWop, hx, List.length_map]
 exact h.out)
theorem i_sti {f : Int → V} {l : List Int} {nm gen gen' i : Nat} {v : Int} {x y : Opd} (hf : f = fun n => V.int .i64 n) (hx : ev ρ x = .ptr nm gen i 0) (hy : ev ρ y = .int .i64 v) (hs : σ nm = .arr gen' (l.map f)) (hg : gen = gen') (hi : i < l.length)
  (h : WI P H pn Q fs r (put ρ dst (.tup [])) (ups σ nm (.arr gen ((l.set i v).map f))) g) : WI P H pn Q fs (.op dst none (.store 1 x y) :: r) ρ σ g := by
 subst hf
 refine i_stp (row := .int .i64 l[i]) (row' := .int .i64 v) hx hs hg (by simp [hi]) (by rw [hy]; rfl) (by rw [hy]; rfl) ?_
 rw [List.map_set] at h
 exact h
theorem i_appM {α : Type} {f : α → V} {l : List α} {c : α} {size bytes et nm k : Nat} {t : Tag} {x y : Opd} (hx : ev ρ x = .sl (.own nm) (l.map f)) (hy : ev ρ y = .sl t [f c]) (hs : σ nm = .vec k) (hk : l.length = k) (hw : ((Nat.beq (wd nm) size && tyOkB nm et) && (Nat.beq (f c).cells.length size && (f c).cells.all leafB)) = true)
  (h1 : (k + 1) * bytes ≤ 140737488355328) (h2 : k + 1 ≤ 140737488355328)
  (h : WI P H pn Q fs r (upd ρ d (.sl (.own nm) ((l ++ [c]).map f))) (ups σ nm (.vec (k + 1))) g) : WI P H pn Q fs (.op (some d) none (.append size bytes et x y) :: r) ρ σ g :=
 i_app1 hx hy hs (by simp [hk]) hw h1 h2 (by simpa using h)
end
def scan {α : Type} (bad : Nat → Option α) : Nat → Nat → Option α
 | _, 0 => none
 | i, n + 1 => match bad i with
   | some f => some f
   | none => scan bad (i + 1) n
theorem scan_none {α : Type} {bad : Nat → Option α} : ∀ (n i : Nat), (∀ j, i ≤ j → j < i + n → bad j = none) → scan bad i n = none
 | 0, _, _ => rfl
 | n + 1, i, h => by
  simp only [scan, h i (Nat.le_refl _) (by omega)]
  exact scan_none n (i + 1) fun j h1 h2 => h j (by omega) (by omega)
theorem scan_hit {α : Type} {bad : Nat → Option α} {f : α} : ∀ (n i k : Nat), (∀ j, i ≤ j → j < k → bad j = none) → i ≤ k → k < i + n → bad k = some f → scan bad i n = some f
 | 0, i, k, _, _, h, _ => by omega
 | n + 1, i, k, h, h1, h2, h3 => by
  simp only [scan]
  by_cases e : i = k
  · subst e; rw [h3]
  · rw [h i (Nat.le_refl _) (by omega)]
    exact scan_hit n (i + 1) k (fun j h4 h5 => h j (by omega) h5) (by omega) (by omega) h3
theorem scan0_none {α : Type} {bad : Nat → Option α} {n : Nat} (h : ∀ j, j < n → bad j = none) : scan bad 0 n = none := scan_none n 0 fun j _ h2 => h j (by omega)
theorem scan0_hit {α : Type} {bad : Nat → Option α} {n k : Nat} {f : α} (h : ∀ j, j < k → bad j = none) (hk : k < n) (hf : bad k = some f) : scan bad 0 n = some f := scan_hit n 0 k (fun j _ h2 => h j h2) (Nat.zero_le _) (by omega) hf
theorem all_succ {p : Nat → Prop} {k : Nat} (h : ∀ j, j < k → p j) (hk : p k) : ∀ j, j < k + 1 → p j := fun j hj => by
 by_cases e : j = k
 · rw [e]; exact hk
 · exact h j (by omega)
theorem all_zero {p : Nat → Prop} : ∀ j, j < 0 → p j := fun j hj => absurd hj (Nat.not_lt_zero j)
theorem get_some {α : Type} {l : List α} {k : Nat} (h : k < l.length) : ∃ c, l[k]? = some c := ⟨l[k], List.getElem?_eq_getElem h⟩
theorem get_lt {α : Type} {l : List α} {k : Nat} {c : α} (h : l[k]? = some c) : k < l.length := (List.getElem?_eq_some_iff.1 h).1
theorem take_succ_get {α : Type} {l : List α} {k : Nat} {c : α} (h : l[k]? = some c) : l.take (k + 1) = l.take k ++ [c] := by
 rw [List.take_add_one, h]; rfl
theorem mem_get {α : Type} {l : List α} {k : Nat} {c : α} (h : l[k]? = some c) : c ∈ l := List.mem_of_getElem? h
section
variable {G : Type} {P : Program} {H : HT G} {pn : List Nat} {Q : Exit → Env → Store → G → Prop} {fs : List (Frm G)} {ρ : Env} {σ : Store} {g : G} {r : List GItem} {d : Nat} {dst : Option Nat} {a b : Cmd} {v : V} {o : AOp}
theorem i_y {f : Opd} {args : List Opd} {as : List V} (hM : MonoH H) (hf : ev ρ f = .rnd) (ha : fzL (args.map (ev ρ)) = some as) (hp : pureL as = true) (h : H as g fun u g' => WI P H pn Q fs r (put ρ dst u) σ g') : WI P H pn Q fs (.op dst none (.call .y f args) :: r) ρ σ g := i_out (by
 cases fzL_eq ha
 simp only [AWop, AWcall, hf]
 exact ⟨hp, hM _ _ _ _ (fun u g' h => h.out) h⟩)
def YL (H : HT G) : List (List V) → G → (G → Prop) → Prop
 | [], g, K => K g
 | as :: r, g, K => H as g fun u g' => (u = .bool true ∧ YL H r g' K) ∨ (u = .bool false ∧ K g')
abbrev RG (G : Type) := Store × G × Option Exit
def rhQ (wo : List Nat) (K : V → RG G → Prop) : Exit → Env → Store → G → Prop := fun e _ σ2 g2 => closedSt wo σ2 wo = true ∧ (match e with
 | .normal => K (.bool true) (restr wo σ2, g2, none)
 | e => K (.bool false) (restr wo σ2, g2, some e))
def rhA (P : Program) (H : HT G) (wo : List Nat) (cb : Cmd) (K : V → RG G → Prop) : Exit → Env → Store → G → Prop := fun e ρ σ g => match e with
 | .normal => WC P H wo (rhQ wo K) [] cb ρ σ g
 | _ => False
theorem rh_intro {wo : List Nat} {ca cb : Cmd} {ps : List Nat} {E : List (Nat × V)} {args : List V} {σ1 : Store} {g1 : G} {K : V → RG G → Prop} (hM : MonoH H) (hl : Nat.beq args.length ps.length = true)
  (h : WC P H wo (rhA P H wo cb K) [] ca (bindAll ps args (envOf E)) σ1 g1) : RH P H wo ca cb ps E args (σ1, g1, none) K := by
 refine ⟨hl, rfl, AW_mono hM ca wo _ _ _ _ _ (fun e ρ' σ' g' h => ?_) h.out⟩
 cases e <;> try exact h
 exact WC.out h
def bQ (E : List (Nat × V)) (pf : List Nat) (P : Program) (H : HT G) (pn : List Nat) (Q : Exit → Env → Store → G → Prop) (fs : List (Frm G)) : V → Store → RG G → Prop := fun _ σ1 st => noRndSt σ1 pf = true ∧ (match st.2.2 with
 | none => WE P H pn Q fs .normal (envOf E) (merge pf st.1 σ1) st.2.1
 | some e => WE P H pn Q fs e (envOf E) (merge pf st.1 σ1) st.2.1)
theorem c_range {pf ps : List Nat} {f : Opd} {fid : Nat} {caps : List V} (E : List (Nat × V)) (Sg : List (Nat × Blk)) (hf : ev ρ f = .fn fid caps) (hfit : Fits pn E Sg ρ σ)
  (hb : (hasAll (Sg.map (·.1)) pf && closedL pf caps && closedSt pf (stOf Sg) pf && noRndL caps && noRndSt (stOf Sg) pf && closedE (without pf (Sg.map (·.1))) E && closedSt (without pf (Sg.map (·.1))) (stOf Sg) (without pf (Sg.map (·.1)))) = true)
  (hc : Cc P (RH P H (without pf (Sg.map (·.1))) a b ps E) fid (.rnd :: caps) pf (restr pf (stOf Sg)) (restr (without pf (Sg.map (·.1))) (stOf Sg), g, none) (bQ E pf P H pn Q fs)) :
  WC P H pn Q fs (.rangeF pf f ps a b) ρ σ g := ⟨by
 simp only [AW, hf]
 refine ⟨E, Sg, hfit, hb, CT_mono (fun v σ' st h => ?_) hc.out⟩
 obtain ⟨h0, h⟩ := h
 refine ⟨h0, ?_⟩
 obtain ⟨q1, q2, q3⟩ := st
 cases q3 with
 | none => exact WE.out h
 | some e => exact WE.out h⟩
theorem Cc_mono {f : Nat} {args : List V} {K K' : V → Store → G → Prop} (hk : ∀ v σ' g', K v σ' g' → K' v σ' g') (h : Cc P H f args pn σ g K) : Cc P H f args pn σ g K' := ⟨CT_mono hk h.out⟩
end
theorem restr_mem {pn : List Nat} {σ : Store} (nm : Nat) (h : restr pn σ nm ≠ .unused) : nm ∈ pn := by
 by_cases hm : nm ∈ pn
 · exact hm
 · exact absurd (restr_out (θ := θ0) hm).1 h
end Hm
namespace Hm
open Go
theorem stOf_mem : ∀ (L : List (Nat × Blk)) (nm : Nat), stOf L nm ≠ .unused → nm ∈ L.map (·.1)
 | [], nm, h => absurd rfl h
 | (d, b) :: r, nm, h => by
   simp only [stOf] at h
   cases hb : Nat.beq nm d with
   | true => rw [Nat.eq_of_beq_eq_true hb]; simp
   | false => rw [hb] at h; exact List.mem_cons_of_mem _ (stOf_mem r nm h)
end Hm
namespace Hm
open Go
section
variable {G : Type} {P : Program} {H : HT G} {pn : List Nat} {Q : Exit → Env → Store → G → Prop} {fs : List (Frm G)} {ρ : Env} {σ : Store} {g : G} {a b : Cmd}
theorem c_rangeS {pf ps : List Nat} {f : Opd} {fid : Nat} {caps : List V} (E : List (Nat × V)) (Sg : List (Nat × Blk)) (wo : List Nat) (S1 S2 : List (Nat × Blk)) (hf : ev ρ f = .fn fid caps) (hfit : Fits pn E Sg ρ σ)
  (hwo : without pf (Sg.map (·.1)) = wo) (h1 : pf.map (fun nm => (nm, stOf Sg nm)) = S1) (h2 : wo.map (fun nm => (nm, stOf Sg nm)) = S2)
  (hb : (hasAll (Sg.map (·.1)) pf && closedL pf caps && closedSt pf (stOf Sg) pf && noRndL caps && noRndSt (stOf Sg) pf && closedE wo E && closedSt wo (stOf Sg) wo) = true)
  (hc : Cc P (RH P H wo a b ps E) fid (.rnd :: caps) pf (stOf S1) (stOf S2, g, none) (bQ E pf P H pn Q fs)) :
  WC P H pn Q fs (.rangeF pf f ps a b) ρ σ g := by
 subst hwo h1 h2
 refine c_range E Sg hf hfit hb ?_
 rw [restr_stOf, restr_stOf (stOf Sg) (without pf (Sg.map (·.1)))]
 exact hc
theorem rhq_n {wo : List Nat} {K : V → RG G → Prop} {L : List (Nat × Blk)} (h1 : closedSt wo σ wo = true) (hL : wo.map (fun nm => (nm, σ nm)) = L) (h : K (.bool true) (stOf L, g, none)) : rhQ wo K .normal ρ σ g :=
 ⟨h1, by rw [restr_stOf, hL]; exact h⟩
end
structure Flt where
 code : Int
 index : Int
instance : DecidableEq Flt := fun a b => if h : a.code = b.code ∧ a.index = b.index then isTrue (by cases a; cases b; simp only at h; rw [h.1, h.2]) else isFalse (by rintro rfl; exact h ⟨rfl, rfl⟩)
def ftV (f : Flt) : V := .agg [.int .i64 f.code, .int .i64 f.index]
def okF : Flt := ⟨0, 0⟩
def i64V (n : Int) : V := .int .i64 n
theorem congr_ft {f : Flt} {c i : Int} (h : f = ⟨c, i⟩) : ftV f = .agg [.int .i64 c, .int .i64 i] := by rw [h]; rfl
theorem ft_ok_iff (f : Flt) : (f.code == 0 && (f.index == 0 && true)) = decide (f = okF) := by
 cases f with
 | mk c i =>
  simp only [okF, Flt.mk.injEq, Bool.and_true]
  by_cases h1 : c = 0 <;> by_cases h2 : i = 0 <;> simp [h1, h2]
theorem ne_ok {f : Flt} (h : (!(f.code == 0 && (f.index == 0 && true))) = true) : f ≠ okF := by
 rw [ft_ok_iff] at h; simpa using h
theorem eq_ok {f : Flt} (h : (!(f.code == 0 && (f.index == 0 && true))) = false) : f = okF := by
 rw [ft_ok_iff] at h; simpa using h
def fidx {α : Type} (p : α → Bool) (l : List α) : Int := match l.findIdx? p with
 | some i => i
 | none => -1
theorem fidx_hit {α : Type} {p : α → Bool} {l : List α} {k : Nat} {c : α} (h : ∀ j, j < k → ∀ c, l[j]? = some c → p c = false) (hc : l[k]? = some c) (hp : p c = true) : fidx p l = k := by
 have : l.findIdx? p = some k := by
  rw [List.findIdx?_eq_some_iff_getElem]
  have hk := get_lt hc
  refine ⟨hk, ?_, fun j hj => ?_⟩
  · rw [List.getElem?_eq_getElem hk] at hc; injection hc with hc; rw [hc]; exact hp
  · simp [h j hj _ (List.getElem?_eq_getElem (by omega))]
 simp [fidx, this]
theorem fidx_none {α : Type} {p : α → Bool} {l : List α} (h : ∀ j, j < l.length → ∀ c, l[j]? = some c → p c = false) : fidx p l = -1 := by
 have : l.findIdx? p = none := by
  rw [List.findIdx?_eq_none_iff]
  intro x hx
  obtain ⟨j, hj, e⟩ := List.getElem_of_mem hx
  exact h j hj x (by rw [← e]; exact List.getElem?_eq_getElem hj)
 simp [fidx, this]
theorem fidx_any {α : Type} (p : α → Bool) (l : List α) : decide (fidx p l ≥ 0) = l.any p := by
 unfold fidx
 cases h : l.findIdx? p with
 | none =>
  rw [List.findIdx?_eq_none_iff] at h
  have : l.any p = false := by
   rw [Bool.eq_false_iff]
   intro e
   obtain ⟨x, h1, h2⟩ := List.any_eq_true.1 e
   rw [h x h1] at h2
   cases h2
  rw [this]; rfl
 | some k =>
  rw [List.findIdx?_eq_some_iff_getElem] at h
  obtain ⟨h1, h2, _⟩ := h
  have : l.any p = true := List.any_eq_true.2 ⟨_, List.getElem_mem h1, h2⟩
  rw [this]
  simp
structure Obj where
 name : List UInt8
 type : Int
theorem scan_all {α : Type} {bad : Nat → Option α} : ∀ (n i : Nat), scan bad i n = none → ∀ j, i ≤ j → j < i + n → bad j = none
 | 0, i, _, j, h1, h2 => by omega
 | n + 1, i, h, j, h1, h2 => by
  simp only [scan] at h
  split at h
  · cases h
  · rename_i e
    by_cases hj : j = i
    · rw [hj]; exact e
    · exact scan_all n (i + 1) h j (by omega) (by omega)
structure SOp where
 pre : List Int
 add : List Int
 del : List Int
 cost : Int
structure STask where
 facts : Int
 init : List Int
 goal : List Int
 ops : List SOp
def soV (o : SOp) : V := .agg [.sl .p (o.pre.map i64V), .sl .p (o.add.map i64V), .sl .p (o.del.map i64V), .int .i64 o.cost]
def skV (t : STask) : V := .agg [.int .i64 t.facts, .sl .p (t.init.map i64V), .sl .p (t.goal.map i64V), .sl .p (t.ops.map soV)]
def skZ : STask := ⟨0, [], [], []⟩
structure SkOk (s : STask) : Prop where
 i : s.init.length ≤ 140737488355328
 g : s.goal.length ≤ 140737488355328
 o : s.ops.length ≤ 140737488355328
 e : ∀ o ∈ s.ops, o.pre.length ≤ 140737488355328 ∧ o.add.length ≤ 140737488355328 ∧ o.del.length ≤ 140737488355328
section
variable {G : Type} {P : Program} {H : HT G} {pn : List Nat} {Q : Exit → Env → Store → G → Prop} {fs : List (Frm G)} {ρ : Env} {σ : Store} {g : G} {r : List GItem} {d : Nat} {dst : Option Nat} {a b : Cmd} {v : V} {o : AOp}
theorem i_ldr (nm : Nat) {agg : Bool} {size b j : Nat} {l0 : List V} {x : Opd} (hx : ev ρ x = .raw b j) (hs : σ nm = .box (.tag b l0)) (hl : fzA (ldrow agg size j (.agg l0)) = some v) (h : WI P H pn Q fs r (upd ρ d v) σ g) : WI P H pn Q fs (.op (some d) none (.load agg size x) :: r) ρ σ g := i_out (by
 simp only [AWop, hx]
 exact ⟨nm, l0, v, hs, fzA_eq hl, h.out⟩)
theorem i_str (nm : Nat) {size b j : Nat} {l0 l1 : List V} {x y : Opd} (hx : ev ρ x = .raw b j) (hs : σ nm = .box (.tag b l0)) (hl : fzA (strow size j (.agg l0) (ev ρ y)) = some (.agg l1)) (h : WI P H pn Q fs r (put ρ dst (.tup [])) (ups σ nm (.box (.tag b l1))) g) : WI P H pn Q fs (.op dst none (.store size x y) :: r) ρ σ g := i_out (by
 simp only [AWop, hx]
 exact ⟨nm, l0, l1, hs, fzA_eq hl, h.out⟩)
theorem i_lenm {nm gen i n gen' : Nat} {rows : List V} {x : Opd} (hx : ev ρ x = .msl nm gen i n) (hs : σ nm = .arr gen' rows) (hg : gen = gen') (h : WI P H pn Q fs r (upd ρ d (.int .i64 n)) σ g) : WI P H pn Q fs (.op (some d) none (.len false x) :: r) ρ σ g := i_out (by
 simp only [AWop, hx, hs]
 exact ⟨hg, h.out⟩)
theorem i_appmM {α : Type} {f : α → V} {l : List α} (xs : List α) {size bytes et nm gen gen' : Nat} {t : Tag} {x y : Opd} (hx : ev ρ x = .msl nm gen 0 l.length) (hy : ev ρ y = .sl t (xs.map f)) (hs : σ nm = .arr gen' (l.map f)) (hg : gen = gen') (hw : Nat.beq (wd nm) size = true)
  (hr : ∀ c ∈ xs, (f c).cells.length = size ∧ (f c).cells.all leafB = true) (h1 : (l.length + xs.length) * bytes ≤ 140737488355328) (h2 : l.length + xs.length ≤ 140737488355328)
  (h : WI P H pn Q fs r (upd ρ d (.msl nm (gen + 1) 0 (l ++ xs).length)) (ups σ nm (.arr (gen + 1) ((l ++ xs).map f))) g) : WI P H pn Q fs (.op (some d) none (.append size bytes et x y) :: r) ρ σ g := by
 refine i_appm hx hy hs hg hw (fun row hrow => ?_) (by simpa using h1) (by simpa using h2) ?_
 · obtain ⟨c, hc, rfl⟩ := List.mem_map.1 hrow
   exact hr c hc
 · have e1 : (l.map f).take l.length ++ xs.map f = (l ++ xs).map f := by rw [List.take_of_length_le (by simp), List.map_append]
   rw [e1, List.length_map, ← List.length_append]
   exact h
theorem i_shr {k k' : IntKind} {m n q : Int} {st : Bool} {et : List LT} {x y : Opd}
  (hx : ev ρ x = .int k m) (hy : ev ρ y = .int k' n) (h0 : 0 ≤ n) (hq : m.fdiv (2 ^ (min n.toNat k.bits)) = q) (h : WI P H pn Q fs r (upd ρ d (.int k q)) σ g) :
  WI P H pn Q fs (.op (some d) none (.bin .shr st et x y) :: r) ρ σ g := i_out (by
 simp only [AWop, hx, hy, abin]
 exact ⟨h0, hq ▸ h.out⟩)
theorem i_shl {k k' : IntKind} {m n q : Int} {st : Bool} {et : List LT} {x y : Opd}
  (hx : ev ρ x = .int k m) (hy : ev ρ y = .int k' n) (h0 : 0 ≤ n) (hq : k.wrap (m * 2 ^ (min n.toNat k.bits)) = q) (h : WI P H pn Q fs r (upd ρ d (.int k q)) σ g) :
  WI P H pn Q fs (.op (some d) none (.bin .shl st et x y) :: r) ρ σ g := i_out (by
 simp only [AWop, hx, hy, abin]
 exact ⟨h0, hq ▸ h.out⟩)
theorem i_and {k : IntKind} {m n q : Int} {st : Bool} {et : List LT} {x y : Opd} (hk : kEq k k = true)
  (hx : ev ρ x = .int k m) (hy : ev ρ y = .int k n) (hq : k.wrap (BitVec.ofInt k.bits m &&& BitVec.ofInt k.bits n).toNat = q) (h : WI P H pn Q fs r (upd ρ d (.int k q)) σ g) :
  WI P H pn Q fs (.op (some d) none (.bin .and st et x y) :: r) ρ σ g := i_out (by
 simp only [AWop, hx, hy, abin, hk, cond_true]
 exact hq ▸ h.out)
theorem i_addw {k : IntKind} {m n q : Int} {st : Bool} {et : List LT} {x y : Opd} (hk : kEq k k = true) (hx : ev ρ x = .int k m) (hy : ev ρ y = .int k n) (hq : k.wrap (m + n) = q) (h : WI P H pn Q fs r (upd ρ d (.int k q)) σ g) :
  WI P H pn Q fs (.op (some d) none (.bin .add st et x y) :: r) ρ σ g := i_out (by
 simp only [AWop, hx, hy, abin, hk, cond_true]
 exact hq ▸ h.out)
theorem fzL_all : ∀ l : List V, fzL l = some l
 | [] => rfl
 | v :: r => by
  have h : fz v = some v := by cases v <;> rfl
  simp only [fzL, h, fzL_all r]
theorem fzA_agg (l : List V) : fzA (some (.agg l)) = some (.agg l) := by simp only [fzA, fzL_all]
theorem i_irs {b len c : Nat} {k : IntKind} {n : Int} {size : Nat} {x i : Opd} (hx : ev ρ x = .rsl b len c) (hi : ev ρ i = .int k n) (h0 : 0 ≤ n) (h1 : n < len) (h : WI P H pn Q fs r (upd ρ d (.raw b (n.toNat * size))) σ g) : WI P H pn Q fs (.op (some d) none (.iaddr size x i) :: r) ρ σ g := i_out (by
 simp only [AWop, hx, hi]
 exact ⟨h0, h1, h.out⟩)
theorem i_apn (nm : Nat) {size bytes et : Nat} {xs : List V} {x y : Opd} (hx : ev ρ x = .sl .nil []) (hy : srcR σ (ev ρ y) = some xs) (hne : xs ≠ []) (hc : ∀ row ∈ xs, row.cells.length = size ∧ row.cells.all leafB = true) (h1 : xs.length * bytes ≤ 140737488355328) (h2 : xs.length ≤ 140737488355328) (hs : σ nm = .unused) (ht : tyOkB nm et = true)
  (h : ∀ b c, xs.length ≤ c → WI P H pn Q fs r (upd ρ d (.rsl b xs.length c)) (ups σ nm (.box (.tag b (flatC xs ++ List.replicate ((c - xs.length) * size) .any)))) g) : WI P H pn Q fs (.op (some d) none (.appR size bytes et x y) :: r) ρ σ g := i_out (by
 simp only [AWop, hx, hy]
 exact ⟨hne, hc, h1, h2, nm, hs, ht, fun b c hc => (h b c hc).out⟩)
theorem i_apr (nm : Nat) {size bytes et b n c : Nat} {xs l : List V} {x y : Opd} (hx : ev ρ x = .rsl b n c) (hy : srcR σ (ev ρ y) = some xs) (hne : xs ≠ []) (hc : ∀ row ∈ xs, row.cells.length = size ∧ row.cells.all leafB = true) (h1 : (n + xs.length) * bytes ≤ 140737488355328) (h2 : n + xs.length ≤ 140737488355328) (hs : σ nm = .box (.tag b l)) (hl : c * size ≤ l.length)
  (hr : n + xs.length ≤ c → WI P H pn Q fs r (upd ρ d (.rsl b (n + xs.length) c)) (ups σ nm (.box (.tag b (l.take (n * size) ++ flatC xs ++ l.drop (n * size + (flatC xs).length))))) g)
  (hg : c < n + xs.length → ∃ nm', σ nm' = .unused ∧ tyOkB nm' et = true ∧ ∀ b' c', n + xs.length ≤ c' → WI P H pn Q fs r (upd ρ d (.rsl b' (n + xs.length) c')) (ups σ nm' (.box (.tag b' (l.take (n * size) ++ flatC xs ++ List.replicate ((c' - (n + xs.length)) * size) .any)))) g) : WI P H pn Q fs (.op (some d) none (.appR size bytes et x y) :: r) ρ σ g := i_out (by
 simp only [AWop, hx, hy]
 exact ⟨hne, hc, h1, h2, nm, l, hs, hl, fun h => (hr h).out, fun h => by
  obtain ⟨nm', a1, a2, a3⟩ := hg h
  exact ⟨nm', a1, a2, fun b' c' hc => (a3 b' c' hc).out⟩⟩)
theorem i_slr {size b n c : Nat} {k1 k2 : IntKind} {m : Int} {x : Opd} {lo : Option Opd} {hi : Opd} (hx : ev ρ x = .rsl b n c) (hlo : loV ρ lo = .int k1 0) (hhi : ev ρ hi = .int k2 m) (h0 : 0 ≤ m) (h1 : m ≤ n) (h : WI P H pn Q fs r (upd ρ d (.rsl b m.toNat c)) σ g) : WI P H pn Q fs (.op (some d) none (.slice false size x lo (some hi)) :: r) ρ σ g := i_out (by
 unfold loV at hlo
 simp only [AWop, hx, hlo, hhi, Option.map_some]
 exact ⟨trivial, h0, h1, h.out⟩)
theorem i_mkm {nm : Nat} {k : IntKind} (hs : σ nm = .unused) (h : WI P H pn Q fs r (upd ρ d (.mp nm)) (ups σ nm (.mp k [] [])) g) : WI P H pn Q fs (.op (some d) none (.mkMap nm k) :: r) ρ σ g := i_out (by
 simp only [AWop, hs]
 exact h.out)
theorem i_mg {ok : Bool} {zero v : V} {k k' : IntKind} {ns : List Int} {vs : List V} {n : Int} {x i : Opd} (hm : mapOf σ (ev ρ x) = some (k, ns, vs)) (hi : ev ρ i = .int k' n) (hk : kEq k k' = true) (hv : mres ok zero (mgetv ns vs n) = v)
  (h : WI P H pn Q fs r (upd ρ d v) σ g) : WI P H pn Q fs (.op (some d) none (.mget ok zero x i) :: r) ρ σ g := i_out (by
 simp only [AWop, hm, hi, hk, cond_true, hv]
 exact h.out)
theorem i_mput {k k' : IntKind} {ns : List Int} {vs : List V} {n : Int} {nm : Nat} {x i v : Opd} {b : Blk} (hx : ev ρ x = .mp nm) (hi : ev ρ i = .int k' n) (hs : σ nm = .mp k ns vs) (hk : kEq k k' = true) (hp : pureB (ev ρ v) = true) (hb : msetB k ns vs n (ev ρ v) = b)
  (h : WI P H pn Q fs r (put ρ dst (.tup [])) (ups σ nm b) g) : WI P H pn Q fs (.op dst none (.mput x i v) :: r) ρ σ g := i_out (by
 simp only [AWop, hx, hi, hs, hk, hp, Bool.and_self, cond_true, hb]
 exact h.out)
theorem i_mdel {k k' : IntKind} {ns : List Int} {vs : List V} {n : Int} {nm : Nat} {x i : Opd} {b : Blk} (hx : ev ρ x = .mp nm) (hi : ev ρ i = .int k' n) (hs : σ nm = .mp k ns vs) (hk : kEq k k' = true) (hb : mdelB k ns vs n = b)
  (h : WI P H pn Q fs r (put ρ dst (.tup [])) (ups σ nm b) g) : WI P H pn Q fs (.op dst none (.mdel x i) :: r) ρ σ g := i_out (by
 simp only [AWop, hx, hi, hs, hk, cond_true, hb]
 exact h.out)
theorem i_mlen {k : IntKind} {ns : List Int} {vs : List V} {x : Opd} (hm : mapOf σ (ev ρ x) = some (k, ns, vs)) (h : WI P H pn Q fs r (upd ρ d (.int .i64 ns.length)) σ g) : WI P H pn Q fs (.op (some d) none (.mlen x) :: r) ρ σ g := i_out (by
 simp only [AWop, hm]
 exact h.out)
theorem i_ifc {t : Nat} {x : Opd} {v : V} (hx : ev ρ x = v) (h : WI P H pn Q fs r (upd ρ d (.ifv t v)) σ g) : WI P H pn Q fs (.op (some d) none (.mkifc t x) :: r) ρ σ g := i_out (by
 simp only [AWop, hx]
 exact h.out)
theorem i_tas {t : Nat} {x : Opd} {v : V} (hx : ev ρ x = .ifv t v) (h : WI P H pn Q fs r (upd ρ d v) σ g) : WI P H pn Q fs (.op (some d) none (.tass t x) :: r) ρ σ g := i_out (by
 simp only [AWop, hx, Nat.beq_refl, cond_true]
 exact h.out)
def recv (σ : Store) (pr : Bool) (v u : V) : Prop := match pr with
 | true => v = u
 | false => ∃ b j nm l, v = .raw b j ∧ σ nm = .box (.tag b l) ∧ l[j]? = some u
theorem i_fM {name : String} {x : Opd} {args : List Opd} {t fid : Nat} {pr : Bool} {v0 u v : V} {as as' : List V} (hx : ev ρ x = .ifv t v0) (hm : methF P t name = some (fid, pr)) (hr : recv σ pr v0 u) (has : fzL (args.map (ev ρ)) = some as)
  (ha : (u :: as).map (er σ 6) = as') (hc : Fc P fid as' v) (hp : (flatB v || pureL (u :: as)) = true) (h : WI P H pn Q fs r (put ρ dst v) σ g) : WI P H pn Q fs (.op dst none (.callM .f name x args) :: r) ρ σ g := i_out (by
 cases fzL_eq has
 cases ha
 have key : AWcall P H σ g .f (.fn fid []) (u :: args.map (ev ρ)) (fun v' σ' g' => (WI P H pn Q fs r (put ρ dst v') σ' g')) := by
  refine ⟨v, by rw [List.append_nil]; exact hc.out, ?_, h⟩
  rw [List.append_nil, Bool.or_comm]
  exact hp
 cases pr with
 | true =>
  cases hr
  simp only [AWop, hx, hm]
  obtain ⟨r', k1, k2, k3⟩ := key
  exact ⟨r', k1, k2, k3.out⟩
 | false =>
  obtain ⟨b, j, nm, l, rfl, h1, h2⟩ := hr
  simp only [AWop, hx, hm]
  obtain ⟨r', k1, k2, k3⟩ := key
  exact ⟨nm, l, u, h1, h2, r', k1, k2, k3.out⟩)
theorem i_cd (ns : List Nat) {f : Opd} {args : List Opd} {fid : Nat} {as : List V} (hf : calv ρ f args = some (fid, as)) (hcl : closedL ns as = true) (hcs : closedSt ns σ ns = true) {K : V → Store → G → Prop} (hc : Cc P H fid as ns (restr ns σ) g K)
  (h : ∀ v σ' g', K v σ' g' → WI P H pn Q fs r (put ρ dst v) (merge ns σ σ') g') : WI P H pn Q fs (.op dst none (.call .d f args) :: r) ρ σ g := i_out (by
 unfold calv at hf
 split at hf
 · rename_i e
   split at hf
   · rename_i e2
     cases hf
     cases fzL_eq e2
     simp only [AWop, AWcall, e]
     exact ⟨ns, hcl, hcs, CT_mono (fun v σ' g' hk => (h v σ' g' hk).out) hc.out⟩
   · cases hf
 · cases hf)
theorem i_dM (ns : List Nat) {name : String} {x : Opd} {args : List Opd} {t fid : Nat} {pr : Bool} {v0 u : V} {as : List V} (hx : ev ρ x = .ifv t v0) (hm : methF P t name = some (fid, pr)) (hr : recv σ pr v0 u) (has : fzL (args.map (ev ρ)) = some as)
  (hcl : closedL ns (u :: as) = true) (hcs : closedSt ns σ ns = true) {K : V → Store → G → Prop} (hc : Cc P H fid (u :: as) ns (restr ns σ) g K)
  (h : ∀ v σ' g', K v σ' g' → WI P H pn Q fs r (put ρ dst v) (merge ns σ σ') g') : WI P H pn Q fs (.op dst none (.callM .d name x args) :: r) ρ σ g := i_out (by
 cases fzL_eq has
 cases pr with
 | true =>
  cases hr
  simp only [AWop, hx, hm, AWcall, List.append_nil]
  exact ⟨ns, hcl, hcs, CT_mono (fun v σ' g' hk => (h v σ' g' hk).out) hc.out⟩
 | false =>
  obtain ⟨b, j, nm, l, rfl, h1, h2⟩ := hr
  simp only [AWop, hx, hm, AWcall, List.append_nil]
  exact ⟨nm, l, u, h1, h2, ns, hcl, hcs, CT_mono (fun v σ' g' hk => (h v σ' g' hk).out) hc.out⟩)
theorem i_boxR (nm : Nat) {et size : Nat} {x : Opd} {l : List V} (hx : rowB (ev ρ x) = true) (hl : (ev ρ x).cells = l) (hw : Nat.beq size l.length = true) (hs : σ nm = .unused) (ht : tyOkB nm et = true)
  (h : ∀ b, WI P H pn Q fs r (upd ρ d (.raw b 0)) (ups σ nm (.box (.tag b l))) g) : WI P H pn Q fs (.op (some d) none (.boxR et size x) :: r) ρ σ g := i_out (by
 subst hl
 simp only [AWop, hx, hw, Bool.and_self, cond_true]
 exact ⟨nm, hs, ht, fun b => (h b).out⟩)
end
theorem sw {p q : Prop} (x : q) (h : q → p := by first | exact c_seq | exact c_cut0 | exact c_ops | exact i_nil | exact e_seq | exact e_block | exact c_block | exact c_skip | exact c_ret | exact c_exit | exact e_exit rfl | exact c_leaf | fail) : p := h x
theorem sp {p q r : Prop} (x : q) (z : r) (h : q → r → p := by first | exact c_node | exact i_g rfl | exact c_cond rfl | fail) : p := h x z
abbrev qm (d t : Nat) : GItem := .op (some d) none (.mov (.t t))
abbrev qc (d : Nat) (n : Int) : GItem := .op (some d) none (.mov (.c (.int .i64 n)))
abbrev qb (d : Nat) (b : Bool) : GItem := .op (some d) none (.mov (.c (.bool b)))
abbrev qq (d : Nat) (o : AOp) : GItem := .op (some d) none o
abbrev qg (d s : Nat) (b : Bool) (o : AOp) : GItem := .op (some d) (some (s, b)) o
abbrev ql (d n t : Nat) : GItem := .op (some d) none (.load false n (.t t))
abbrev qL (d n t : Nat) : GItem := .op (some d) none (.load true n (.t t))
abbrev qf (d n t : Nat) : GItem := .op (some d) none (.faddr n (.t t))
abbrev qi (d n x y : Nat) : GItem := .op (some d) none (.iaddr n (.t x) (.t y))
abbrev qn (d t : Nat) : GItem := .op (some d) none (.len false (.t t))
abbrev qx (d n m t : Nat) : GItem := .op (some d) none (.box n m (.t t))
abbrev qu (d : Nat) (o : BinOp) (l : List LT) (x y : Nat) : GItem := .op (some d) none (.bin o false l (.t x) (.t y))
abbrev qv (d : Nat) (o : BinOp) (l : List LT) (x : Nat) (n : Int) : GItem := .op (some d) none (.bin o false l (.t x) (.c (.int .i64 n)))
abbrev qk (d f : Nat) (l : List Nat) : GItem := .op (some d) none (.call .f (.c (.fn f [])) (l.map .t))
abbrev qs (n x y : Nat) : GItem := .op none none (.store n (.t x) (.t y))
abbrev qS (l : List GItem) (c : Cmd) : Cmd := .seq (.ops l) (.cut c)
abbrev qT (a c : Cmd) : Cmd := .seq a (.cut c)
theorem ft {pn : List Nat} {E : List (Nat × V)} {S : List (Nat × Blk)} {ρ : Env} {σ : Store} (h : Fits pn E S ρ σ := by first | exact ⟨by repeat (first | exact trivial | refine ⟨rfl, ?_⟩), by repeat (first | exact trivial | refine ⟨rfl, ?_⟩), rfl⟩ | fail) : Fits pn E S ρ σ := h
section
variable {G : Type} {P : Program} {H : HT G} {pn : List Nat} {Q : Exit → Env → Store → G → Prop} {fs : List (Frm G)} {ρ : Env} {σ : Store} {g : G} {r : List GItem} {dst : Option Nat}
variable {d : Nat}
theorem ja {k : IntKind} {m n : Int} {st : Bool} {et : List LT} {x y : Opd} (hx : ev ρ x = .int k m) (hy : ev ρ y = .int k n) (h : WI P H pn Q fs r (upd ρ d (.int k (m + n))) σ g) (hr : InR k (m + n) := by first | (simp only [InR, List.length_map]; omega) | fail) :
  WI P H pn Q fs (.op (some d) none (.bin .add st et x y) :: r) ρ σ g := i_add hx hy hr h
theorem jb {k : IntKind} {m n : Int} {st : Bool} {et : List LT} {x y : Opd} (hx : ev ρ x = .int k m) (hy : ev ρ y = .int k n) (h : WI P H pn Q fs r (upd ρ d (.int k (m - n))) σ g) (hr : InR k (m - n) := by first | (simp only [InR, List.length_map]; omega) | fail) :
  WI P H pn Q fs (.op (some d) none (.bin .sub st et x y) :: r) ρ σ g := i_sub hx hy hr h
theorem jc {k k' : IntKind} {n : Int} {x : Opd} (hx : ev ρ x = .int k' n) (h : WI P H pn Q fs r (upd ρ d (.int k n)) σ g) (hr : InR k n := by first | (simp only [InR, List.length_map]; omega) | fail) : WI P H pn Q fs (.op (some d) none (.conv k x) :: r) ρ σ g := i_conv hx hr h
theorem jd {α : Type} {f : α → V} {l : List α} {size : Nat} {t : Tag} {kk : IntKind} {n : Int} {c : α} {x i : Opd} (hx : ev ρ x = .sl t (l.map f)) (hi : ev ρ i = .int kk n)
  (h : WI P H pn Q fs r (upd ρ d (.cptr t (f c) 0)) σ g) (h0 : 0 ≤ n := by first | omega | fail) (hr : l[n.toNat]? = some c := by first | assumption | fail) (hw : Nat.beq size (f c).cells.length = true := by first | exact rfl | fail) : WI P H pn Q fs (.op (some d) none (.iaddr size x i) :: r) ρ σ g :=
 i_iai hx hi h0 hr hw h
theorem sf {f : Opd} {args : List Opd} {fid : Nat} {as as' : List V} {v : V} (hf : calv ρ f args = some (fid, as)) (ha : as.map (er σ 6) = as') (hc : Fc P fid as' v) (h : WI P H pn Q fs r (put ρ dst v) σ g) (hp : (flatB v || pureL as) = true := by first | exact rfl | fail)
  : WI P H pn Q fs (.op dst none (.call .f f args) :: r) ρ σ g := i_f hf ha hc hp h
end
structure At where
 pred : Int
 args : List Int
deriving DecidableEq
structure Lit where
 neg : Bool
 at_ : At
deriving DecidableEq
def signI (a b : Int) : Int := if a < b then -1 else if a > b then 1 else 0
def cmpL : List Int → List Int → Int
 | [], [] => 0
 | [], _ :: _ => -1
 | _ :: _, [] => 1
 | a :: r, b :: s => if a = b then cmpL r s else signI a b
theorem signI_zero {a b : Int} : signI a b = 0 ↔ a = b := by
 unfold signI
 split
 · simp; omega
 · split
   · simp; omega
   · simp; omega
theorem cmpL_zero : ∀ {a b : List Int}, cmpL a b = 0 ↔ a = b
 | [], [] => by simp [cmpL]
 | [], _ :: _ => by simp [cmpL]
 | _ :: _, [] => by simp [cmpL]
 | a :: r, b :: s => by
  simp only [cmpL]
  split
  · rename_i h; subst h; rw [cmpL_zero]; simp
  · rename_i h; rw [signI_zero]; simp [h]
theorem cmpL_take : ∀ (k : Nat) (a b : List Int), a.take k = b.take k → k ≤ a.length → k ≤ b.length → cmpL a b = cmpL (a.drop k) (b.drop k)
 | 0, a, b, _, _, _ => by simp
 | k + 1, [], b, _, h, _ => by simp at h
 | k + 1, a :: r, [], _, _, h => by simp at h
 | k + 1, a :: r, b :: s, h, h1, h2 => by
  simp only [List.take_succ_cons, List.cons.injEq] at h
  obtain ⟨rfl, h⟩ := h
  simp only [cmpL, if_true, List.drop_succ_cons]
  exact cmpL_take k r s h (by simpa using h1) (by simpa using h2)
theorem cmpL_at {k : Nat} {a b : List Int} {x y : Int} (h : a.take k = b.take k) (hx : a[k]? = some x) (hy : b[k]? = some y) (hne : x ≠ y) : cmpL a b = signI x y := by
 have h1 := get_lt hx
 have h2 := get_lt hy
 rw [cmpL_take k a b h (by omega) (by omega), List.drop_eq_getElem_cons h1, List.drop_eq_getElem_cons h2]
 rw [List.getElem?_eq_getElem h1, Option.some.injEq] at hx
 rw [List.getElem?_eq_getElem h2, Option.some.injEq] at hy
 rw [hx, hy]
 simp only [cmpL]
 rw [if_neg hne]
theorem cmpL_end {k : Nat} {a b : List Int} (h : a.take k = b.take k) (h1 : k ≤ a.length) (h2 : k ≤ b.length) (he : k = a.length ∨ k = b.length) : cmpL a b = signI a.length b.length := by
 rw [cmpL_take k a b h h1 h2]
 unfold signI
 rcases he with e | e
 · rw [List.drop_of_length_le (by omega)]
   by_cases hb : k = b.length
   · rw [List.drop_of_length_le (by omega), if_neg (by omega), if_neg (by omega)]; rfl
   · rw [List.drop_eq_getElem_cons (by omega : k < b.length), if_pos (by omega)]; rfl
 · rw [List.drop_of_length_le (by omega : b.length ≤ k)]
   by_cases ha : k = a.length
   · rw [List.drop_of_length_le (by omega), if_neg (by omega), if_neg (by omega)]; rfl
   · rw [List.drop_eq_getElem_cons (by omega : k < a.length), if_neg (by omega), if_pos (by omega)]; rfl
theorem signI_neg (a b : Int) : signI b a = -signI a b := by unfold signI; (repeat' split) <;> omega
theorem signI_lt {a b : Int} : signI a b < 0 ↔ a < b := by unfold signI; (repeat' split) <;> omega
theorem cmpL_neg : ∀ (a b : List Int), cmpL b a = -cmpL a b
 | [], [] => rfl
 | [], _ :: _ => rfl
 | _ :: _, [] => rfl
 | a :: r, b :: s => by
  simp only [cmpL]
  by_cases h : a = b
  · rw [if_pos h, if_pos h.symm, cmpL_neg r s]
  · rw [if_neg h, if_neg (fun e => h e.symm), signI_neg]
theorem cmpL_trans : ∀ {a b c : List Int}, cmpL a b < 0 → cmpL b c < 0 → cmpL a c < 0
 | [], [], _, h, _ => by simp [cmpL] at h
 | [], _ :: _, [], _, h => by simp [cmpL] at h
 | [], _ :: _, _ :: _, _, _ => by simp [cmpL]
 | _ :: _, [], _, h, _ => by simp [cmpL] at h
 | _ :: _, _ :: _, [], _, h => by simp [cmpL] at h
 | a :: r, b :: s, c :: t, h1, h2 => by
  simp only [cmpL] at h1 h2 ⊢
  by_cases e1 : a = b
  · rw [if_pos e1] at h1
    by_cases e2 : b = c
    · rw [if_pos e2] at h2
      rw [if_pos (e1.trans e2)]
      exact cmpL_trans h1 h2
    · rw [if_neg e2] at h2
      rw [if_neg (by rw [e1]; exact e2), e1]
      exact h2
  · rw [if_neg e1, signI_lt] at h1
    by_cases e2 : b = c
    · rw [if_neg (by rw [← e2]; exact e1), ← e2, signI_lt]
      exact h1
    · rw [if_neg e2, signI_lt] at h2
      rw [if_neg (by omega), signI_lt]
      omega
def Cl (ns : List Nat) (σ : Store) : Prop := closedSt ns σ ns = true
theorem Cl.at {ns : List Nat} {σ : Store} {nm : Nat} {row : V} (h : Cl ns σ) (hm : nm ∈ ns) (hb : σ nm = .box row) : closedB ns row = true := (closedSt_iff ns σ ns).1 h nm hm row hb
theorem Cl.ups {ns : List Nat} {σ : Store} {nm : Nat} {b : Blk} (h : Cl ns σ) (hb : ∀ row, b = .box row → closedB ns row = true) : Cl ns (ups σ nm b) := (closedSt_iff _ _ _).2 fun n hn row hr => by
 by_cases e : n = nm
 · subst e
   rw [upt_self] at hr
   exact hb row hr
 · rw [upt_ne σ b e] at hr
   exact h.at hn hr
theorem Cl.of {ns : List Nat} {σ σ' : Store} (h : Cl ns σ) (he : ∀ nm ∈ ns, σ' nm = σ nm) : Cl ns σ' := (closedSt_iff _ _ _).2 fun n hn row hr => h.at hn ((he n hn).symm.trans hr)
theorem restr_at {ns : List Nat} {σ : Store} {nm : Nat} (h : nm ∈ ns) : restr ns σ nm = σ nm := (restr_in (σ := σ) (θ := θ0) h).1
theorem restr_off {ns : List Nat} {σ : Store} {nm : Nat} (h : nm ∉ ns) : restr ns σ nm = .unused := (restr_out (σ := σ) (θ := θ0) h).1
theorem merge_at {ns : List Nat} {σ σ' : Store} {nm : Nat} (h : nm ∈ ns) : merge ns σ σ' nm = σ' nm := (merge_in (σ := σ) (σ' := σ') (θ := θ0) (θ' := θ0) h).1
theorem merge_off {ns : List Nat} {σ σ' : Store} {nm : Nat} (h : nm ∉ ns) : merge ns σ σ' nm = σ nm := (merge_out (σ := σ) (σ' := σ') (θ := θ0) (θ' := θ0) h).1
theorem Cl.restr {ns : List Nat} {σ : Store} (h : Cl ns σ) : Cl ns (restr ns σ) := h.of fun nm hm => restr_at hm
theorem restr_all {ns : List Nat} {σ : Store} (h : ∀ nm, σ nm ≠ .unused → nm ∈ ns) : restr ns σ = σ := by
 funext nm
 by_cases hm : nm ∈ ns
 · exact restr_at hm
 · rw [restr_off hm]
   cases hk : σ nm with
   | unused => rfl
   | _ => exact absurd (h nm (by rw [hk]; intro e; cases e)) hm
theorem merge_all {ns : List Nat} {σ σ' : Store} (h : ∀ nm, σ nm ≠ .unused → nm ∈ ns) (h' : ∀ nm, σ' nm ≠ .unused → nm ∈ ns) : merge ns σ σ' = σ' := by
 funext nm
 by_cases hm : nm ∈ ns
 · exact merge_at hm
 · rw [merge_off hm]
   cases hk : σ nm with
   | unused => cases hk' : σ' nm with
     | unused => rfl
     | _ => exact absurd (h' nm (by rw [hk']; intro e; cases e)) hm
   | _ => exact absurd (h nm (by rw [hk]; intro e; cases e)) hm
theorem ups_mem {ns : List Nat} {σ : Store} {nm : Nat} {b : Blk} (h : ∀ nm, σ nm ≠ .unused → nm ∈ ns) (hm : nm ∈ ns) : ∀ n, ups σ nm b n ≠ .unused → n ∈ ns := fun n hn => by
 by_cases e : n = nm
 · exact e ▸ hm
 · rw [upt_ne σ b e] at hn
   exact h n hn
abbrev lsn (ns : List Nat) (σ : Store) : List (Nat × Blk) := ns.map fun nm => (nm, σ nm)
theorem lsn_fst (ns : List Nat) (σ : Store) : (lsn ns σ).map (·.1) = ns := by
 unfold lsn
 rw [List.map_map]
 exact List.map_id ns
theorem stOf_lsn (ns : List Nat) (σ : Store) : stOf (lsn ns σ) = restr ns σ := (restr_stOf σ ns).symm
theorem fitsS_lsn {σ σ' : Store} : ∀ {ns : List Nat}, (∀ nm ∈ ns, σ' nm = σ nm) → FitsS (lsn ns σ) σ'
 | [], _ => trivial
 | n :: r, h => ⟨h n (by simp), fitsS_lsn fun nm hm => h nm (by simp [hm])⟩
theorem fit_ns {ns pn : List Nat} {E : List (Nat × V)} {ρ : Env} {σ σ' : Store} (hE : FitsE E ρ) (hσ : ∀ nm ∈ ns, σ' nm = σ nm) (hc : closedE ns E = true) (hcl : Cl ns σ) (hp : ∀ n ∈ pn, n ∈ ns) : Fits pn E (lsn ns σ) ρ σ' := by
 refine ⟨hE, fitsS_lsn hσ, ?_⟩
 unfold fitB
 rw [lsn_fst, stOf_lsn, hc, Bool.true_and, Bool.and_eq_true]
 exact ⟨hcl.restr, (hasAll_iff _ _).2 hp⟩
mutual
theorem closed_pure (pn : List Nat) : ∀ v : V, pureB v = true → closedB pn v = true
 | .any, _ | .bool _, _ | .int _ _, _ | .str _, _ | .nilptr, _ | .nilfn, _ | .raw _ _, _ | .ifc _, _ | .rsl _ _ _, _ | .nilmp, _ | .mps _ _ _, _ => rfl
 | .agg l, h => closedL_pure pn l h
 | .tup l, h => closedL_pure pn l h
 | .fn _ l, h => closedL_pure pn l h
 | .ifv _ v, h => closed_pure pn v h
 | .sl .p _, _ | .sl .nil _, _ | .cptr .p _ _, _ => rfl
 | .sl (.own _) _, h => by cases h
 | .cptr .nil _ _, h => by cases h
 | .cptr (.own _) _ _, h => by cases h
 | .msl _ _ _ _, h => by cases h
 | .ptr _ _ _ _, h => by cases h
 | .bptr _ _, h => by cases h
 | .rnd, h => by cases h
 | .tag _ _, h => by cases h
 | .mp _, h => by cases h
theorem closedL_pure (pn : List Nat) : ∀ l : List V, pureL l = true → closedL pn l = true
 | [], _ => rfl
 | v :: r, h => by
  have h2 : (pureB v && pureL r) = true := h
  rw [Bool.and_eq_true] at h2
  show (closedB pn v && closedL pn r) = true
  rw [closed_pure pn v h2.1, closedL_pure pn r h2.2]
  rfl
end
theorem pureL_all : ∀ {l : List V}, (∀ v ∈ l, pureB v = true) → pureL l = true
 | [], _ => rfl
 | v :: r, h => by
  show (pureB v && pureL r) = true
  rw [h v (by simp), pureL_all fun v hv => h v (by simp [hv])]
  rfl
theorem fresh_name (ns : List Nat) (h : ns.length < 1000000000000) : ∃ nm, nm ∉ ns ∧ nm < 1000000000000 := by
 by_cases c : ∃ nm, nm ∉ ns ∧ nm < 1000000000000
 · exact c
 · exfalso
   have hsub : ∀ x ∈ List.range (ns.length + 1), x ∈ ns := fun x hx => by
    refine Classical.byContradiction fun hn => c ⟨x, hn, ?_⟩
    have := List.mem_range.1 hx
    omega
   have := List.Nodup.length_le_of_subset (List.nodup_range (n := ns.length + 1)) hsub
   rw [List.length_range] at this
   omega
theorem ty_low {nm et : Nat} (h : nm < 1000000000000) : tyOkB nm et = true := by
 have e : nm / 1099511627776 = 0 := Nat.div_eq_of_lt (by omega)
 unfold tyOkB
 rw [e]
 rfl
theorem mgetv_nil (vs : List V) (n : Int) : mgetv [] vs n = none := rfl
theorem mgetv_cons (k : Int) (ks : List Int) (v : V) (vs : List V) (n : Int) : mgetv (k :: ks) (v :: vs) n = if k = n then some v else mgetv ks vs n := by
 unfold mgetv
 rw [List.idxOf?_cons]
 by_cases h : k = n
 · simp [h]
 · have hb : (k == n) = false := by simpa using h
   rw [if_neg h, hb]
   cases ks.idxOf? n <;> simp
def setK : List Int → List V → Int → V → List Int × List V
 | k :: ks, v0 :: vs, n, v => if k = n then (k :: ks, v :: vs) else (k :: (setK ks vs n v).1, v0 :: (setK ks vs n v).2)
 | _, _, n, v => ([n], [v])
theorem msetB_eq (kk : IntKind) (n : Int) (v : V) : ∀ (ks : List Int) (vs : List V), vs.length = ks.length → msetB kk ks vs n v = .mp kk (setK ks vs n v).1 (setK ks vs n v).2
 | [], [], _ => rfl
 | k :: ks, v0 :: vs, h => by
  have ih := msetB_eq kk n v ks vs (by simpa using h)
  unfold msetB at ih ⊢
  rw [List.idxOf?_cons]
  by_cases c : k = n
  · have hb : (k == n) = true := by simpa using c
    simp [hb, setK, c]
  · have hb : (k == n) = false := by simpa using c
    rw [hb]
    simp only [setK, if_neg c]
    cases hi : ks.idxOf? n with
    | none =>
     rw [hi] at ih
     simp only [Blk.mp.injEq, true_and] at ih
     simp [← ih.1, ← ih.2]
    | some i =>
     rw [hi] at ih
     simp only [Blk.mp.injEq, true_and] at ih
     simp [← ih.1, ← ih.2]
theorem setK_len (n : Int) (v : V) : ∀ (ks : List Int) (vs : List V), vs.length = ks.length → (setK ks vs n v).2.length = (setK ks vs n v).1.length
 | [], [], _ => rfl
 | k :: ks, v0 :: vs, h => by
  have ih := setK_len n v ks vs (by simpa using h)
  simp only [setK]
  split
  · simpa using h
  · simp [ih]
theorem setK_mem (n : Int) (v : V) (x : Int) : ∀ (ks : List Int) (vs : List V), vs.length = ks.length → (x ∈ (setK ks vs n v).1 ↔ x ∈ ks ∨ x = n)
 | [], [], _ => by simp [setK]
 | k :: ks, v0 :: vs, h => by
  have ih := setK_mem n v x ks vs (by simpa using h)
  simp only [setK]
  split
  · rename_i c
    subst c
    simp only [List.mem_cons]
    constructor
    · exact .inl
    · rintro (h | h)
      · exact h
      · exact .inl h
  · simp only [List.mem_cons, ih, or_assoc]
theorem setK_nd (n : Int) (v : V) : ∀ (ks : List Int) (vs : List V), vs.length = ks.length → ks.Nodup → (setK ks vs n v).1.Nodup
 | [], [], _, _ => by simp [setK]
 | k :: ks, v0 :: vs, h, hn => by
  have hl : vs.length = ks.length := by simpa using h
  have hn' := List.nodup_cons.1 hn
  have ih := setK_nd n v ks vs hl hn'.2
  simp only [setK]
  split
  · exact hn
  · rename_i c
    refine List.nodup_cons.2 ⟨fun hm => ?_, ih⟩
    rcases (setK_mem n v k ks vs hl).1 hm with h1 | h1
    · exact hn'.1 h1
    · exact c h1
theorem setK_get (n : Int) (v : V) (m : Int) : ∀ (ks : List Int) (vs : List V), vs.length = ks.length → mgetv (setK ks vs n v).1 (setK ks vs n v).2 m = if m = n then some v else mgetv ks vs m
 | [], [], _ => by
  simp only [setK, mgetv_cons, mgetv_nil]
  by_cases c : m = n
  · subst c; simp
  · rw [if_neg (fun e => c e.symm), if_neg c]
 | k :: ks, v0 :: vs, h => by
  have ih := setK_get n v m ks vs (by simpa using h)
  simp only [setK]
  split
  · rename_i c
    subst c
    rw [mgetv_cons, mgetv_cons]
    by_cases c2 : m = k
    · subst c2; simp
    · rw [if_neg (fun e => c2 e.symm), if_neg c2, if_neg (fun e => c2 e.symm)]
  · rename_i c
    rw [mgetv_cons, mgetv_cons, ih]
    by_cases c2 : k = m
    · subst c2
      rw [if_pos rfl, if_neg c, if_pos rfl]
    · rw [if_neg c2, if_neg c2]
def delMK : List Int → List V → Int → List Int × List V
 | k :: ks, v0 :: vs, n => if k = n then (ks, vs) else (k :: (delMK ks vs n).1, v0 :: (delMK ks vs n).2)
 | ks, vs, _ => (ks, vs)
theorem mdelB_eq (kk : IntKind) (n : Int) : ∀ (ks : List Int) (vs : List V), vs.length = ks.length → mdelB kk ks vs n = .mp kk (delMK ks vs n).1 (delMK ks vs n).2
 | [], [], _ => rfl
 | k :: ks, v0 :: vs, h => by
  have ih := mdelB_eq kk n ks vs (by simpa using h)
  unfold mdelB at ih ⊢
  rw [List.idxOf?_cons]
  by_cases c : k = n
  · have hb : (k == n) = true := by simpa using c
    simp [hb, delMK, c]
  · have hb : (k == n) = false := by simpa using c
    rw [hb]
    simp only [delMK, if_neg c]
    cases hi : ks.idxOf? n with
    | none =>
     rw [hi] at ih
     simp only [Blk.mp.injEq, true_and] at ih
     simp [← ih.1, ← ih.2]
    | some i =>
     rw [hi] at ih
     simp only [Blk.mp.injEq, true_and] at ih
     simp [← ih.1, ← ih.2]
theorem delMK_len (n : Int) : ∀ (ks : List Int) (vs : List V), vs.length = ks.length → (delMK ks vs n).2.length = (delMK ks vs n).1.length
 | [], [], _ => rfl
 | k :: ks, v0 :: vs, h => by
  have ih := delMK_len n ks vs (by simpa using h)
  simp only [delMK]
  split
  · simpa using h
  · simp [ih]
theorem delK_sub (n : Int) : ∀ (ks : List Int) (vs : List V), (delMK ks vs n).1.Sublist ks
 | [], vs => by cases vs <;> exact List.Sublist.refl _
 | k :: ks, [] => List.Sublist.refl _
 | k :: ks, v0 :: vs => by
  simp only [delMK]
  split
  · exact List.sublist_cons_self _ _
  · exact (delK_sub n ks vs).cons_cons k
theorem mgetv_out {m : Int} : ∀ {ks : List Int} {vs : List V}, m ∉ ks → mgetv ks vs m = none := fun {ks vs} h => by
 unfold mgetv
 rw [List.idxOf?_eq_none_iff.2 h]
 rfl
theorem delK_get (n m : Int) : ∀ (ks : List Int) (vs : List V), vs.length = ks.length → ks.Nodup → mgetv (delMK ks vs n).1 (delMK ks vs n).2 m = if m = n then none else mgetv ks vs m
 | [], [], _, _ => by simp [delMK, mgetv_nil]
 | k :: ks, v0 :: vs, h, hn => by
  have hn' := List.nodup_cons.1 hn
  have ih := delK_get n m ks vs (by simpa using h) hn'.2
  simp only [delMK]
  split
  · rename_i c
    subst c
    rw [mgetv_cons]
    by_cases c2 : m = k
    · subst c2
      rw [if_pos rfl]
      exact mgetv_out hn'.1
    · rw [if_neg c2, if_neg (fun e => c2 e.symm)]
  · rename_i c
    rw [mgetv_cons, mgetv_cons, ih]
    by_cases c2 : k = m
    · subst c2
      rw [if_pos rfl, if_neg c, if_pos rfl]
    · rw [if_neg c2, if_neg c2]
structure MB (b : Blk) (F : Int → Option V) where
 ks : List Int
 vs : List V
 eq : b = .mp .u32 ks vs
 len : vs.length = ks.length
 nd : ks.Nodup
 get : ∀ n, mgetv ks vs n = F n
def MP (b : Blk) (F : Int → Option V) : Prop := Nonempty (MB b F)
theorem MP.nil : MP (.mp .u32 [] []) (fun _ => none) := ⟨[], [], rfl, rfl, List.nodup_nil, fun _ => rfl⟩
theorem MP.ext {b : Blk} {F F' : Int → Option V} (h : MP b F) (e : ∀ n, F n = F' n) : MP b F' := h.elim fun h => ⟨h.ks, h.vs, h.eq, h.len, h.nd, fun n => (h.get n).trans (e n)⟩
section
variable {G : Type} {P : Program} {H : HT G} {pn : List Nat} {Q : Exit → Env → Store → G → Prop} {fs : List (Frm G)} {ρ : Env} {σ : Store} {g : G} {r : List GItem} {d : Nat} {dst : Option Nat} {F : Int → Option V}
theorem i_mgF {ok : Bool} {zero v : V} {k' : IntKind} {nm : Nat} {n : Int} {x i : Opd} (hx : ev ρ x = .mp nm) (hm : MP (σ nm) F) (hi : ev ρ i = .int k' n) (hk : kEq .u32 k' = true) (hv : mres ok zero (F n) = v)
  (h : WI P H pn Q fs r (upd ρ d v) σ g) : WI P H pn Q fs (.op (some d) none (.mget ok zero x i) :: r) ρ σ g := by
 obtain ⟨ks, vs, e, _, _, hg⟩ := hm
 exact i_mg (k := .u32) (ns := ks) (vs := vs) (by rw [hx]; simp only [mapOf, e]) hi hk (by rw [hg]; exact hv) h
theorem i_mputF {k' : IntKind} {n : Int} {nm : Nat} {x i v : Opd} {u : V} (hx : ev ρ x = .mp nm) (hi : ev ρ i = .int k' n) (hm : MP (σ nm) F) (hk : kEq .u32 k' = true) (hu : ev ρ v = u) (hp : pureB u = true)
  (h : ∀ b, MP b (fun m => if m = n then some u else F m) → WI P H pn Q fs r (put ρ dst (.tup [])) (ups σ nm b) g) : WI P H pn Q fs (.op dst none (.mput x i v) :: r) ρ σ g := by
 subst hu
 obtain ⟨ks, vs, e, hl, hn, hg⟩ := hm
 refine i_mput hx hi e hk hp (msetB_eq .u32 n _ ks vs hl) (h _ ⟨⟨_, _, rfl, setK_len _ _ _ _ hl, setK_nd _ _ _ _ hl hn, fun m => ?_⟩⟩)
 rw [setK_get _ _ _ _ _ hl, hg]
theorem i_mdelF {k' : IntKind} {n : Int} {nm : Nat} {x i : Opd} (hx : ev ρ x = .mp nm) (hi : ev ρ i = .int k' n) (hm : MP (σ nm) F) (hk : kEq .u32 k' = true)
  (h : ∀ b, MP b (fun m => if m = n then none else F m) → WI P H pn Q fs r (put ρ dst (.tup [])) (ups σ nm b) g) : WI P H pn Q fs (.op dst none (.mdel x i) :: r) ρ σ g := by
 obtain ⟨ks, vs, e, hl, hn, hg⟩ := hm
 refine i_mdel hx hi e hk (mdelB_eq .u32 n ks vs hl) (h _ ⟨⟨_, _, rfl, delMK_len _ _ _ hl, (delK_sub n ks vs).nodup hn, fun m => ?_⟩⟩)
 rw [delK_get _ _ _ _ hl hn, hg]
end
theorem MP.box {b : Blk} {F : Int → Option V} (h : MP b F) : ∀ row, b = .box row → False := fun row e => by
 obtain ⟨ks, vs, e2, _⟩ := h
 rw [e2] at e
 cases e
end Hm
end
