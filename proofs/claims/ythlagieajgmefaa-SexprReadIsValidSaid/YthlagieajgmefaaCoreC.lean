/- Soundness, twenty-first part: the outside of a round. -/
import Derived.Test.YthlagieajgmefaaCoreB
import Derived.RangeFuncRecord
import Derived.ProofKit
import Derived.SizedLaws
import Derived.Carry
import Derived.Deep.Slices
section
/- Soundness, twenty-first part: the outside of a round. -/
namespace Hm
set_option linter.unusedVariables false
set_option linter.unusedSimpArgs false
open Go

/-- The outside with one object more. -/
def WJ {G : Type} (J : JT G) (lr : Nat) (ob : Obj) : JT G := fun g w S F => ∃ F2 : Nat → Prop, (∀ b, F b ↔ F2 b ∨ b = lr) ∧ J g w S F2 ∧ ¬ F2 lr ∧ w.heap[lr]? = some ob

section
variable {G : Type} {J : JT G} {w w' w'' : World} {S F S' F' S'' F'' : Nat → Prop} {θ θ' θ'' : Names} {σ σ' σ'' : Store} {l n : Nat} {g g' : G}
variable {P : Program} {o : Oper} {a : Act} {ρ : Env} {H : HT G} {s0 : Start} {lr : Nat} {ob : Obj}

theorem WJ.stable (hst : Stable J) : Stable (WJ J lr ob) := by
  rintro g w S F w' S' ⟨F2, h1, h2, h3, h4⟩ hS hF hsame hmono hsize hos htape hout hsok hsized
  refine ⟨F2, h1, hst g w S F2 w' S' h2 hS (fun b hb => hF b ((h1 b).2 (.inl hb))) (fun b hb => hsame b (by
    rcases hb with hb | hb
    · exact .inl hb
    · exact .inr ((h1 b).2 (.inl hb)))) hmono hsize hos htape hout (fun b hb => ⟨(hsok b hb).1, fun hf => (hsok b hb).2 ((h1 b).2 (.inl hf))⟩) hsized, h3, ?_⟩
  rw [hsame lr (.inr ((h1 lr).2 (.inr rfl)))]
  exact h4

/-- Out of the wider outside. -/
theorem WJ.out (hs : St (WJ J lr ob) w S F θ σ l g) : ∃ F2 : Nat → Prop, (∀ b, F b ↔ F2 b ∨ b = lr) ∧ ¬ F2 lr ∧ w.heap[lr]? = some ob ∧ St J w S F2 θ σ l g ∧ ¬ S lr ∧ ¬ LiveB θ σ lr := by
  obtain ⟨F2, h1, h2, h3, h4⟩ := hs.hJ
  have hlr := hs.hF lr ((h1 lr).2 (.inr rfl))
  exact ⟨F2, h1, h3, h4, ⟨hs.hS, hs.hblk, hs.hinj, hs.hliveS, fun b hb => hs.hF b ((h1 b).2 (.inl hb)), h2⟩, hlr.2.1, hlr.2.2⟩

theorem WJ.into (hs : St J w S F θ σ l g) (h3 : ¬ F lr) (h4 : w.heap[lr]? = some ob) (hS : ¬ S lr) (hL : ¬ LiveB θ σ lr) : St (WJ J lr ob) w S (fun b => F b ∨ b = lr) θ σ l g :=
  ⟨hs.hS, hs.hblk, hs.hinj, hs.hliveS, fun b hb => by
    rcases hb with hb | rfl
    · exact hs.hF b hb
    · exact ⟨(Array.getElem?_eq_some_iff.1 h4).1, hS, hL⟩, F, fun b => Iff.rfl, hs.hJ, h3, h4⟩

theorem WJ.hok (hH : HokS P J H l) : HokS P (WJ J lr ob) H l := by
  intro args xs g w S F K hs ha hh
  obtain ⟨F2, h1, h2, h3, h4, h5, h6⟩ := WJ.out hs
  obtain ⟨lf, tmps, asg, body, hy, hr⟩ := hH args xs g w S F2 K h4 ha hh
  refine ⟨lf, tmps, asg, body, hy, hr.mono fun e w' he => ?_⟩
  obtain ⟨r, x', g', S', F', e1, hk, hrep, hs', hfr⟩ := he
  have hlt := (Array.getElem?_eq_some_iff.1 h3).1
  have hn : ¬ F' lr := fun hf => h2 (hfr.fsub lr hf hlt)
  have hS' : ¬ S' lr := fun hS => by
    rcases hfr.snew lr hS with k | ⟨nm, m, k, _⟩ | k | k
    · exact h5 k
    · exact k
    · exact h2 k
    · omega
  have hL' : ¬ LiveB θ0 σ0 lr := fun ⟨nm, m, k, _⟩ => k
  have hc : w'.heap[lr]? = some ob := by rw [hfr.same lr hlt hL' h2]; exact h3
  refine ⟨r, x', g', S', fun b => F' b ∨ b = lr, e1, hk, hrep, WJ.into hs' hn hc hS' hL', ?_⟩
  exact {
    size := hfr.size
    os := hfr.os
    tape := hfr.tape
    output := hfr.output
    same := fun b hb hl hF => hfr.same b hb hl (fun h => hF ((h1 b).2 (.inl h)))
    sized := hfr.sized
    vecs := hfr.vecs
    smono := hfr.smono
    snew := fun b hb => by
      rcases hfr.snew b hb with k | k | k | k
      · exact .inl k
      · exact .inr (.inl k)
      · exact .inr (.inr (.inl ((h1 b).2 (.inl k))))
      · exact .inr (.inr (.inr k))
    live := hfr.live
    fsub := fun b hb hlt => by
      rcases hb with hb | rfl
      · exact (h1 b).2 (.inl (hfr.fsub b hb hlt))
      · exact (h1 b).2 (.inr rfl)
    kdead := hfr.kdead
    kbox := hfr.kbox
    karr := hfr.karr
    kvec := hfr.kvec }

/-- The object is set anew. -/
theorem WJ.put (hst : Stable J) (hnc : ∀ c e fr, ob ≠ .cells c e fr) (ob' : Obj) (h : Cur (WJ J lr ob) l n s0 w S F θ σ g ρ a) (hlrF : s0.F lr ∨ s0.w.heap.size ≤ lr) : Cur (WJ J lr ob') l n s0 (w.putObj lr ob') S F θ σ g ρ a := by
  obtain ⟨F2, h1, h2, h3, h4, h5, h6⟩ := WJ.out h.st
  have hlt := (Array.getElem?_eq_some_iff.1 h3).1
  have hsz : (w.putObj lr ob').heap.size = w.heap.size := by simp [World.putObj]
  have hstay : Stays w S F2 θ σ (w.putObj lr ob') S := Stays.set h4 hsz (fun b hb => World.putObj_heap_other hb) h3 hnc rfl rfl rfl h5 h2 h6
  have hs' := hstay.st hst h4
  have hs2 := WJ.into (ob := ob') hs' h2 (World.putObj_heap_same hlt) h5 h6
  have hF : F = fun b => F2 b ∨ b = lr := funext fun b => propext (h1 b)
  have hlrF' : F lr := (h1 lr).2 (.inr rfl)
  refine ⟨by rw [hF]; exact hs2, fun t => hstay.rep h4 (h.env t), h.sz, ?_, ?_, h.dn⟩
  · have k := h.fr
    exact {
      size := by rw [hsz]; exact k.size
      os := k.os
      tape := k.tape
      output := k.output
      same := fun b hb hl hFb => by
        rw [World.putObj_heap_other (fun e => by
          subst e
          rcases hlrF with h | h
          · exact hFb h
          · omega)]
        exact k.same b hb hl hFb
      sized := fun b c e fr hc => by
        obtain ⟨c', f1, h7, h8, h7'⟩ := k.sized b c e fr hc
        obtain ⟨c'', f2, h9, h10, h9'⟩ := hstay.sized b c' e f1 h7
        refine ⟨c'', f2, h9, h10.trans h8, ?_⟩
        rcases h9' with rfl | h9'
        · exact h7'
        · exact .inr ⟨h9', fun hl => h.st.hliveS b hl h9'⟩
      vecs := fun nm q b m h7 h8 j hj => by
        have h9 := k.vecs nm q b m h7 h8 j hj
        rw [← h9]
        refine cell_of_heap (World.putObj_heap_other fun e => ?_)
        subst e
        rcases k.kvec nm q h7 with ⟨_, hd⟩ | ⟨q', h10, _, _, h11⟩
        · exact h5 (hd b m h8)
        · rcases h11 b m h8 with h12 | h12
          · exact h6 ⟨nm, m, live_vec h10, h12⟩
          · exact h5 h12
      smono := k.smono
      snew := k.snew
      live := k.live
      fsub := k.fsub
      kdead := k.kdead
      kbox := k.kbox
      karr := k.karr
      kvec := k.kvec }
  · have key : ∀ ds : List Deferred, DefOk w S F θ σ ds → DefOk (w.putObj lr ob') S F θ σ ds := by
      intro ds
      induction ds with
      | nil => intro _; trivial
      | cons d ds ih =>
        rintro ⟨⟨r, k1, k2, k3, k4, k5, k6⟩, k7⟩
        exact ⟨⟨r, k1, by rw [World.putObj_heap_other (fun e => k4 (by rw [e]; exact hlrF'))]; exact k2, k3, k4, k5, k6⟩, ih k7⟩
    exact key _ h.de
end
end Hm
end

section
/- Soundness, twenty-second part: one round of a range over a function. -/
namespace Hm
set_option linter.unusedVariables false
set_option linter.unusedSimpArgs false
open Go

/-- What the soundness of a body says. r: it may stand in a round. -/
def Sound {G : Type} (P : Program) (H : HT G) (n : Nat) (r : Bool) (c : Cmd) (code : Code) : Prop :=
  ∀ (J : JT G) (l : Nat), Stable J → MonoH H → HokS P J H l → ∀ (ro : Option Nat), (r = false → ro = none) → ∀ (pn : List Nat) (ρ : Env) (σ : Store) (g : G) (Q : Exit → Env → Store → G → Prop) (s0 : Start) (w : World) (S F : Nat → Prop) (θ : Names) (a : Act),
    (∀ nm, s0.σ nm ≠ .unused → nm ∈ pn) → Cur J l n s0 w S F θ σ g ρ a → AW P H pn c ρ σ g Q → code.wpIn (wf ro) 0 P (PostA J l n s0 Q) a w

/-- The parameters of a range. -/
structure RP where
  l : Nat
  r : Nat
  fn : FuncId
  tmps : Array Value
  qs : Array Tmp
  asg : Code
  body : Code
  E : List (Nat × V)
  wo : List Nat
  wB : World
  SB : Nat → Prop
  FB : Nat → Prop
  θB : Names
  σB : Store

def RP.rc (R : RP) (s : LoopState) (p : Option Code) : Loop := { state := s, pending := p, fn := R.fn, tmps := R.tmps, params := R.qs, assign := R.asg, body := R.body, defers := R.r }
def pend : Option Exit → Option Code
  | some .ret => some .ret
  | some (.exit id) => some (.exit id)
  | _ => none
def lst (e : Option Exit) : LoopState := if e.isNone then .ready else .done

structure RJc {G : Type} (J : JT G) (l : Nat) (R : RP) (st : Store × G × Option Exit) (w : World) (S F : Nat → Prop) (θ2 : Names) (F2 : Nat → Prop) : Prop where
  st2 : St J w S F2 θ2 st.1 l st.2.1
  hFe : ∀ b, F b ↔ F2 b ∨ LiveB θ2 st.1 b ∨ b = R.l ∨ b = R.r
  hl : ¬ S R.l ∧ ¬ F2 R.l ∧ ¬ LiveB θ2 st.1 R.l
  hr : ¬ S R.r ∧ ¬ F2 R.r ∧ ¬ LiveB θ2 st.1 R.r
  hlo : w.heap[R.l]? = some (.loop (R.rc (lst st.2.2) (pend st.2.2)))
  hde : w.heap[R.r]? = some (.deferred (some []))
  env : ∀ t, Rep w S θ2 st.1 l (envOf R.E t) (R.tmps.getD t undef)
  frn : FrN R.wB R.SB R.θB R.σB w S θ2 st.1
  fsub : ∀ b, F2 b → b < R.wB.heap.size → R.FB b
  hwo : ∀ nm, nm ∉ R.wo → st.1 nm = .unused
  ex : ∀ e, st.2.2 = some e → e = .ret ∨ ∃ id, e = .exit id

def RJ {G : Type} (J : JT G) (l : Nat) (R : RP) : JT (Store × G × Option Exit) := fun st w S F => ∃ θ2 F2, RJc J l R st w S F θ2 F2

def RH {G : Type} (P : Program) (H : HT G) (wo : List Nat) (ca cb : Cmd) (ps : List Nat) (E : List (Nat × V)) : HT (Store × G × Option Exit) :=
  fun args st K => Nat.beq args.length ps.length = true ∧ st.2.2 = none ∧ AW P H wo ca (bindAll ps args (envOf E)) st.1 st.2.1 fun e ρ1 σ1 g1 => match e with
    | .normal => AW P H wo cb ρ1 σ1 g1 fun e _ σ2 g2 => closedSt wo σ2 wo = true ∧ (match e with
      | .normal => K (.bool true) (restr wo σ2, g2, none)
      | e => K (.bool false) (restr wo σ2, g2, some e))
    | _ => False

section
variable {G : Type} {J : JT G} {w w' w'' : World} {S F S' F' S'' F'' : Nat → Prop} {θ θ' θ'' : Names} {σ σ' σ'' : Store} {l n : Nat} {g g' : G}
variable {P : Program} {o : Oper} {a : Act} {ρ : Env} {H : HT G} {s0 : Start} {R : RP}

theorem RJ.stable (hst : Stable J) : Stable (RJ J l R) := by
  rintro st w S F w' S' ⟨θ2, F2, h⟩ hS hF hsame hmono hsize hos htape hout hsok hsized
  have hstay : Stays w S F2 θ2 st.1 w' S' := {
    size := hsize
    os := hos
    tape := htape
    output := hout
    same := fun b hb => hsame b (by
      rcases hb with hb | hb | hb
      · exact .inl hb
      · exact .inr ((h.hFe b).2 (.inl hb))
      · exact .inr ((h.hFe b).2 (.inr (.inl hb))))
    sized := hsized
    smono := hmono
    sok := fun b hb => ⟨(hsok b hb).1, fun hf => (hsok b hb).2 ((h.hFe b).2 (.inl hf)), fun hl => (hsok b hb).2 ((h.hFe b).2 (.inr (.inl hl)))⟩ }
  refine ⟨θ2, F2, {
    st2 := hstay.st hst h.st2
    hFe := h.hFe
    hl := ⟨fun hb => (hsok _ hb).2 ((h.hFe _).2 (.inr (.inr (.inl rfl)))), h.hl.2⟩
    hr := ⟨fun hb => (hsok _ hb).2 ((h.hFe _).2 (.inr (.inr (.inr rfl)))), h.hr.2⟩
    hlo := by rw [hsame _ (.inr ((h.hFe _).2 (.inr (.inr (.inl rfl)))))]; exact h.hlo
    hde := by rw [hsame _ (.inr ((h.hFe _).2 (.inr (.inr (.inr rfl)))))]; exact h.hde
    env := fun t => hstay.rep h.st2 (h.env t)
    frn := h.frn.trans (fun b hb => hsame b (.inl hb)) (hstay.frN h.st2)
    fsub := h.fsub
    hwo := h.hwo
    ex := h.ex }⟩

theorem bind_env : ∀ (ps : List Nat) (vs : List V) (xs : List Value) (ρ : Env) (tmps : Array Value), (∀ t, Rep w S θ σ l (ρ t) (tmps.getD t undef)) → vs.length = ps.length → Reps (RepP w S) vs xs → (∀ p ∈ ps, p < n) → n ≤ tmps.size →
    (∀ t, Rep w S θ σ l (bindAll ps vs ρ t) (((ps.zip xs).foldl (fun (tmps : Array Value) (p : Nat × Value) => tmps.setIfInBounds p.1 p.2) tmps).getD t undef)) ∧
      ((ps.zip xs).foldl (fun (tmps : Array Value) (p : Nat × Value) => tmps.setIfInBounds p.1 p.2) tmps).size = tmps.size
  | [], vs, xs, ρ, tmps, he, hl, hr, hp, hn => by
    have : vs = [] := List.eq_nil_of_length_eq_zero hl
    subst this
    exact ⟨he, rfl⟩
  | p :: ps, [], xs, ρ, tmps, he, hl, hr, hp, hn => by simp at hl
  | p :: ps, v :: vs, [], ρ, tmps, he, hl, hr, hp, hn => by have := hr.1; simp at this
  | p :: ps, v :: vs, x :: xs, ρ, tmps, he, hl, hr, hp, hn => by
    have hx : RepP w S v x := hr.2 0 v x rfl rfl
    have hput := EnvRep.put (n := n) (a := ⟨tmps, []⟩) (dst := some p) (d := some p) (x := x) he (by
      have := hp p (by simp)
      simp [chkDst, Nat.blt_eq, this]) hn (.pure hx)
    obtain ⟨h1, h2⟩ := bind_env ps vs xs (upd ρ p v) (tmps.setIfInBounds p x) hput (by simpa using hl) ⟨by have := hr.1; simpa using this, fun i v x h1 h2 => hr.2 (i + 1) v x (by simpa using h1) (by simpa using h2)⟩ (fun q hq => hp q (by simp [hq])) (by simpa using hn)
    exact ⟨h1, by rw [show ((p :: ps).zip (x :: xs)) = (p, x) :: ps.zip xs from rfl, List.foldl_cons, h2]; simp⟩

theorem envOf_closed {pn : List Nat} {E : List (Nat × V)} (h : closedE pn E = true) (t : Nat) : closedB pn (envOf E t) = true := by
  induction E with
  | nil => rfl
  | cons p r ih =>
    obtain ⟨d, v⟩ := p
    simp only [closedE, Bool.and_eq_true] at h
    simp only [envOf]
    cases Nat.beq t d with
    | true => exact h.1
    | false => exact ih h.2
end
end Hm
end

section
/- Soundness, twenty-third part: one round, joined. -/
namespace Hm
set_option linter.unusedVariables false
set_option linter.unusedSimpArgs false
open Go

section
variable {G : Type} {J : JT G} {w w' w'' : World} {S F S' F' S'' F'' : Nat → Prop} {θ θ' θ'' : Names} {σ σ' σ'' : Store} {l n : Nat} {g g' : G}
variable {P : Program} {o : Oper} {a : Act} {ρ : Env} {H : HT G} {s0 : Start} {R : RP}

/-- Behind a round. -/
theorem round_end {st : Store × G × Option Exit} {θ2 : Names} {F2 : Nat → Prop} {w3 : World} {S3 F3 : Nat → Prop} {θ3 : Names} {σ3 : Store} {g3 : G} {ρ3 : Env} {a3 : Act} {ob : Obj} (e' : Option Exit) (hst : Stable J)
    (h : RJc J l R st w S F θ2 F2) (hncOb : ∀ c e fr, ob ≠ .cells c e fr) (hne : R.l ≠ R.r) (hB : ∀ nm, R.σB nm ≠ .unused → nm ∈ R.wo) (hE : closedE R.wo R.E = true)
    (hSt : St (WJ J R.l (.loop (R.rc .ready none))) w S (fun b => F2 b ∨ b = R.l) θ2 st.1 l st.2.1)
    (hc : Cur (WJ J R.l ob) l n ⟨w, S, fun b => F2 b ∨ b = R.l, θ2, st.1⟩ w3 S3 F3 θ3 σ3 g3 ρ3 a3) (hcl : closedSt R.wo σ3 R.wo = true) (hex : ∀ e, e' = some e → e = .ret ∨ ∃ id, e = .exit id) :
    ∃ F4, RJ J l R (restr R.wo σ3, g3, e') (w3.putObj R.l (.loop (R.rc (lst e') (pend e')))) S3 F4 ∧
      St (RJ J l R) (w3.putObj R.l (.loop (R.rc (lst e') (pend e')))) S3 F4 θ0 σ0 R.l (restr R.wo σ3, g3, e') ∧
      Fr w S F θ0 σ0 (w3.putObj R.l (.loop (R.rc (lst e') (pend e')))) S3 F4 θ0 σ0 := by
  have k := hc.fr
  obtain ⟨F2', q1, q2, q3, q4, q5, q6⟩ := WJ.out hc.st
  have hlt := (Array.getElem?_eq_some_iff.1 q3).1
  obtain ⟨w4, hw4⟩ : ∃ w4, w4 = w3.putObj R.l (.loop (R.rc (lst e') (pend e'))) := ⟨_, rfl⟩
  rw [← hw4]
  have hsz : w4.heap.size = w3.heap.size := by rw [hw4]; simp
  have hother : ∀ b, b ≠ R.l → w4.heap[b]? = w3.heap[b]? := fun b hb => by rw [hw4]; exact World.putObj_heap_other hb
  have hthere : w4.heap[R.l]? = some (.loop (R.rc (lst e') (pend e'))) := by rw [hw4]; exact World.putObj_heap_same hlt
  have hrlt := (Array.getElem?_eq_some_iff.1 h.hde).1
  have hllt := (Array.getElem?_eq_some_iff.1 h.hlo).1
  have hclm := (closedSt_iff _ _ _).1 hcl
  -- the state under the outer names
  have hs3 : St J w3 S3 F2' (restrN R.wo θ3) (restr R.wo σ3) l g3 := q4.restr (fun nm hm => restr_in hm) (fun nm hm => restr_out hm) (fun nm hm row hrow => hclm nm hm row hrow)
  have hL3 : ∀ b, LiveB (restrN R.wo θ3) (restr R.wo σ3) b → LiveB θ3 σ3 b := fun b hb => restr_live (fun nm hm => restr_in hm) (fun nm hm => restr_out hm) hb
  have hstay : Stays w3 S3 F2' (restrN R.wo θ3) (restr R.wo σ3) w4 S3 := Stays.set hs3 hsz hother q3 hncOb (by rw [hw4]; rfl) (by rw [hw4]; rfl) (by rw [hw4]; rfl) q5 q2 (fun hl => q6 (hL3 _ hl))
  have hs4 := hstay.st hst hs3
  -- block r
  have hrF : ¬ F3 R.r := fun hf => by
    rcases k.fsub R.r hf hrlt with h1 | h1
    · exact h.hr.2.1 h1
    · exact hne h1.symm
  have hrS : ¬ S3 R.r := fun hS => by
    rcases k.snew R.r hS with h1 | h1 | h1 | h1
    · exact h.hr.1 h1
    · exact h.hr.2.2 h1
    · rcases h1 with h1 | h1
      · exact h.hr.2.1 h1
      · exact hne h1.symm
    · simp only at h1; omega
  have hrL : ¬ LiveB θ3 σ3 R.r := fun hl => h.hr.2.2 (k.live R.r hl hrlt)
  have hrc : w4.heap[R.r]? = some (.deferred (some [])) := by
    rw [hother R.r (fun e => hne e.symm), k.same R.r hrlt h.hr.2.2 (fun hf => by
      rcases hf with h1 | h1
      · exact h.hr.2.1 h1
      · exact hne h1.symm)]
    exact h.hde
  have hfsub : ∀ b, F2' b → b < w.heap.size → F2 b := fun b hb hlt => by
    rcases k.fsub b ((q1 b).2 (.inl hb)) hlt with h1 | h1
    · exact h1
    · rw [h1] at hb; exact absurd hb q2
  obtain ⟨F4, hF4⟩ : ∃ F4 : Nat → Prop, F4 = fun b => F2' b ∨ LiveB (restrN R.wo θ3) (restr R.wo σ3) b ∨ b = R.l ∨ b = R.r := ⟨_, rfl⟩
  have hRJ : RJ J l R (restr R.wo σ3, g3, e') w4 S3 F4 := ⟨restrN R.wo θ3, F2', {
    st2 := hs4
    hFe := fun b => by rw [hF4]
    hl := ⟨q5, q2, fun hl => q6 (hL3 _ hl)⟩
    hr := ⟨hrS, fun hf => hrF ((q1 _).2 (.inl hf)), fun hl => hrL (hL3 _ hl)⟩
    hlo := hthere
    hde := hrc
    env := fun t => hstay.rep hs3 (((h.env t).fr k hSt).restr (fun nm hm => restr_in hm) (envOf_closed hE t))
    frn := ((h.frn.trans (fun b hb => k.stable hSt b hb) k.toN).drop hB (fun nm hm => restr_in hm) (fun nm hm => restr_out hm)).trans (fun b hb => hstay.same b (.inl hb)) (hstay.frN hs3)
    fsub := fun b hb hlt => h.fsub b (hfsub b hb (Nat.lt_of_lt_of_le hlt h.frn.size)) hlt
    hwo := fun nm hm => (restr_out (θ := θ3) hm).1
    ex := hex }⟩
  refine ⟨F4, hRJ, ⟨hs4.hS, fun nm => rfl, fun nm _ _ _ _ h1 => h1.elim, fun b hb => by obtain ⟨nm, m, h1, _⟩ := hb; exact h1.elim, fun b hb => ?_, hRJ⟩, ?_⟩
  · rw [hF4] at hb
    have hno : ¬ LiveB θ0 σ0 b := fun ⟨nm, m, h1, _⟩ => h1
    rcases hb with hb | hb | rfl | rfl
    · obtain ⟨a1, a2, _⟩ := hs4.hF b hb; exact ⟨a1, a2, hno⟩
    · obtain ⟨nm, m, b1, b2⟩ := hb
      exact ⟨live_lt hs4 b1 b2, hs4.hliveS b ⟨nm, m, b1, b2⟩, hno⟩
    · exact ⟨by omega, q5, hno⟩
    · exact ⟨(Array.getElem?_eq_some_iff.1 hrc).1, hrS, hno⟩
  · exact {
      size := by rw [hsz]; exact k.size
      os := by rw [hw4]; exact k.os
      tape := by rw [hw4]; exact k.tape
      output := by rw [hw4]; exact k.output
      same := fun b hb _ hF => by
        rw [hother b (fun e => hF ((h.hFe b).2 (.inr (.inr (.inl e)))))]
        exact k.same b hb (fun hl => hF ((h.hFe b).2 (.inr (.inl hl)))) (fun hf => by
          rcases hf with hf | hf
          · exact hF ((h.hFe b).2 (.inl hf))
          · exact hF ((h.hFe b).2 (.inr (.inr (.inl hf)))))
      sized := fun b c e fr hcc => by
        obtain ⟨c', f1, h1, h2, h1'⟩ := k.sized b c e fr hcc
        obtain ⟨c'', f2, h3, h4, h3'⟩ := hstay.sized b c' e f1 h1
        refine ⟨c'', f2, h3, h4.trans h2, ?_⟩
        rcases h3' with rfl | h3'
        · exact h1'.imp id fun h5 => ⟨h5.1, fun ⟨nm, m, h6, _⟩ => h6⟩
        · exact .inr ⟨h3', fun ⟨nm, m, h6, _⟩ => h6⟩
      vecs := fun nm q b m h1 => by cases h1
      smono := k.smono
      snew := fun b hb => by
        rcases k.snew b hb with h1 | h1 | h1 | h1
        · exact .inl h1
        · exact .inr (.inr (.inl ((h.hFe b).2 (.inr (.inl h1)))))
        · refine .inr (.inr (.inl ((h.hFe b).2 ?_)))
          rcases h1 with h1 | h1
          · exact .inl h1
          · exact .inr (.inr (.inl h1))
        · exact .inr (.inr (.inr h1))
      live := fun b hb _ => hb
      fsub := fun b hb hlt => by
        rw [hF4] at hb
        rcases hb with hb | hb | rfl | rfl
        · exact (h.hFe b).2 (.inl (hfsub b hb hlt))
        · exact (h.hFe b).2 (.inr (.inl (k.live b (hL3 b hb) hlt)))
        · exact (h.hFe _).2 (.inr (.inr (.inl rfl)))
        · exact (h.hFe _).2 (.inr (.inr (.inr rfl)))
      kdead := fun nm h1 => by cases h1
      kbox := fun nm row h1 => by cases h1
      karr := fun nm gen rows h1 => by cases h1
      kvec := fun nm k h1 => by cases h1 }

/-- WHAT A CALL OF yield DOES IN A RANGE OVER A FUNCTION. -/
theorem round_hok {ca cb : Cmd} {ps : List Nat} (hst : Stable J) (hM : MonoH H) (hH : HokS P J H l) (ha : Sound P H n true ca R.asg) (hb : Sound P H n true cb R.body)
    (hps : ps = R.qs.toList) (hpn : ∀ p ∈ ps, p < n) (hn : n ≤ R.tmps.size) (hne : R.l ≠ R.r) (hB : ∀ nm, R.σB nm ≠ .unused → nm ∈ R.wo) (hE : closedE R.wo R.E = true) :
    HokS P (RJ J l R) (RH P H R.wo ca cb ps R.E) R.l := by
  rintro args xs st w S F K hs0 hargs ⟨hlen, hnone, hAW⟩
  obtain ⟨θ2, F2, h⟩ := hs0.hJ
  have hlo := h.hlo
  rw [hnone] at hlo
  have elen := Nat.eq_of_beq_eq_true hlen
  have hxl : xs.length = ps.length := by rw [← hargs.1]; exact elen
  have hy := run_yield (P := P) (args := xs.toArray) hlo (by simp only [RP.rc, List.size_toArray]; rw [hxl, hps]; simp)
  have hst2 : St J w S F2 θ2 st.1 l st.2.1 := h.st2
  have hWs : St (WJ J R.l (.loop (R.rc .ready none))) w S (fun b => F2 b ∨ b = R.l) θ2 st.1 l st.2.1 := WJ.into hst2 h.hl.2.1 hlo h.hl.1 h.hl.2.2
  obtain ⟨be1, be2⟩ := bind_env ps args xs (envOf R.E) R.tmps h.env elen hargs hpn hn
  have etm : (R.qs.zip xs.toArray).foldl (fun (tmps : Array Value) (p : Tmp × Value) => tmps.setIfInBounds p.1 p.2) R.tmps = (ps.zip xs).foldl (fun (tmps : Array Value) (p : Nat × Value) => tmps.setIfInBounds p.1 p.2) R.tmps := by
    rw [hps, ← Array.foldl_toList]
    simp
  refine ⟨_, _, _, _, hy, roundIn_of_wpIn trivial ?_⟩
  have hcur : Cur (WJ J R.l (.loop (R.rc .ready none))) l n ⟨w, S, fun b => F2 b ∨ b = R.l, θ2, st.1⟩ w S (fun b => F2 b ∨ b = R.l) θ2 st.1 st.2.1 (bindAll ps args (envOf R.E))
      ⟨(R.qs.zip xs.toArray).foldl (fun (tmps : Array Value) (p : Tmp × Value) => tmps.setIfInBounds p.1 p.2) R.tmps, []⟩ :=
    ⟨hWs, by rw [etm]; exact be1, by rw [etm, be2]; exact hn, Fr.refl _ _ _ _ _, trivial, fun d hd => by cases hd⟩
  have hpn0 : ∀ nm, st.1 nm ≠ .unused → nm ∈ R.wo := fun nm hnm => by
    by_cases hm : nm ∈ R.wo
    · exact hm
    · exact absurd (h.hwo nm hm) hnm
  have h1 := ha (WJ J R.l (.loop (R.rc .ready none))) l (WJ.stable hst) hM (WJ.hok hH) (some R.l) (fun h => by cases h) R.wo _ _ _ _ ⟨w, S, fun b => F2 b ∨ b = R.l, θ2, st.1⟩ w S _ θ2 _ hpn0 hcur hAW
  refine wpIn_mono h1 fun e a1 w1 hp => ?_
  obtain ⟨hex, ρ1, σ1, g1, S1, F1, θ1, hQ, hc1⟩ := hp
  cases e with
  | normal =>
    simp only at hQ
    obtain ⟨F1', q1, q2, q3, q4, q5, q6⟩ := WJ.out hc1.st
    have hc2 := WJ.put hst (by intro c e fr h; cases h) (.loop (R.rc .busy none)) hc1 (.inl (.inr rfl))
    refine ⟨_, run_beginRound q3 rfl, ?_⟩
    have h2 := hb (WJ J R.l (.loop (R.rc .busy none))) l (WJ.stable hst) hM (WJ.hok hH) (some R.l) (fun h => by cases h) R.wo _ _ _ _ ⟨w, S, fun b => F2 b ∨ b = R.l, θ2, st.1⟩ _ S1 _ θ1 _ hpn0 hc2 hQ
    refine wpIn_mono h2 fun e a3 w3 hp => ?_
    obtain ⟨hex, ρ3, σ3, g3, S3, F3, θ3, ⟨hcl, hQ3⟩, hc3⟩ := hp
    obtain ⟨F3', r1, r2, r3, _⟩ := WJ.out hc3.st
    cases e with
    | normal =>
      obtain ⟨F4, k1, k2, k3⟩ := round_end none hst h (by intro c e fr h; cases h) hne hB hE hWs hc3 hcl (fun e h => by cases h)
      exact ⟨_, _, run_endRound none r3, _, _, _, _, _, rfl, hQ3, .bool true, k2, k3⟩
    | ret =>
      obtain ⟨F4, k1, k2, k3⟩ := round_end (some .ret) hst h (by intro c e fr h; cases h) hne hB hE hWs hc3 hcl (fun e h => by injection h with h; exact .inl h.symm)
      exact ⟨_, _, run_endRound (some .ret) r3, _, _, _, _, _, rfl, hQ3, .bool false, k2, k3⟩
    | exit id =>
      obtain ⟨F4, k1, k2, k3⟩ := round_end (some (.exit id)) hst h (by intro c e fr h; cases h) hne hB hE hWs hc3 hcl (fun e h => by injection h with h; exact .inr ⟨id, h.symm⟩)
      exact ⟨_, _, run_endRound (some (.exit id)) r3, _, _, _, _, _, rfl, hQ3, .bool false, k2, k3⟩
    | goto _ => rcases hex with h | h | ⟨_, h⟩ <;> cases h
    | panic _ => rcases hex with h | h | ⟨_, h⟩ <;> cases h
    | outgrown => rcases hex with h | h | ⟨_, h⟩ <;> cases h
  | exit id => exact hQ
  | ret => exact hQ
  | goto _ => exact hQ
  | panic _ => exact hQ
  | outgrown => exact hQ
end
end Hm
end

section
/- Soundness, twenty-fourth part: a range over a function. -/
namespace Hm
set_option linter.unusedVariables false
set_option linter.unusedSimpArgs false
open Go

section
variable {G : Type} {J : JT G} {w w' w'' : World} {S F S' F' S'' F'' : Nat → Prop} {θ θ' θ'' : Names} {σ σ' σ'' : Store} {l n : Nat} {g g' : G}
variable {P : Program} {o : Oper} {a : Act} {ρ : Env} {H : HT G} {s0 : Start}

theorem RH_mono {wo : List Nat} {ca cb : Cmd} {ps : List Nat} {E : List (Nat × V)}
    (ha : ∀ (pn : List Nat) (ρ : Env) (σ : Store) (g : G) (Q Q' : Exit → Env → Store → G → Prop), (∀ e ρ' σ' g', Q e ρ' σ' g' → Q' e ρ' σ' g') → AW P H pn ca ρ σ g Q → AW P H pn ca ρ σ g Q')
    (hb : ∀ (pn : List Nat) (ρ : Env) (σ : Store) (g : G) (Q Q' : Exit → Env → Store → G → Prop), (∀ e ρ' σ' g', Q e ρ' σ' g' → Q' e ρ' σ' g') → AW P H pn cb ρ σ g Q → AW P H pn cb ρ σ g Q') : MonoH (RH P H wo ca cb ps E) := by
  rintro args st K K' hk ⟨h1, h2, h3⟩
  refine ⟨h1, h2, ha _ _ _ _ _ _ (fun e ρ1 σ1 g1 h => ?_) h3⟩
  cases e <;> try exact h
  refine hb _ _ _ _ _ _ (fun e ρ2 σ2 g2 h => ?_) h
  obtain ⟨h4, h5⟩ := h
  refine ⟨h4, ?_⟩
  cases e <;> exact hk _ _ h5

theorem AWT_mono (hM : MonoH H) {items : List GItem} : ∀ (t : OT) {K K' : Env → Store → G → Prop}, (∀ ρ' σ' g', K ρ' σ' g' → K' ρ' σ' g') → AWT P H items t ρ σ g K → AWT P H items t ρ σ g K'
  | .leaf _, _, _, hk, h => AWits_mono hM hk h
  | .node _ _ x y, _, _, hk, h => ⟨AWT_mono hM x hk h.1, AWT_mono hM y hk h.2⟩

/-- The weakest precondition is monotone. -/
theorem AW_mono (hM : MonoH H) : ∀ (c : Cmd) (pn : List Nat) (ρ : Env) (σ : Store) (g : G) (Q Q' : Exit → Env → Store → G → Prop), (∀ e ρ' σ' g', Q e ρ' σ' g' → Q' e ρ' σ' g') → AW P H pn c ρ σ g Q → AW P H pn c ρ σ g Q'
  | .skip, _, _, _, _, _, _, hq, h => hq _ _ _ _ h
  | .ops l, _, _, _, _, _, _, hq, h => AWits_mono hM (fun _ _ _ h => hq _ _ _ _ h) h
  | .opsT t l, _, _, _, _, _, _, hq, h => AWT_mono hM t (fun _ _ _ h => hq _ _ _ _ h) h
  | .frz t, _, _, _, _, _, _, hq, h => AWit_mono hM (fun _ _ _ h => hq _ _ _ _ h) h
  | .seq a b, pn, ρ, σ, g, Q, Q', hq, h => by
    simp only [AW] at h ⊢
    refine AW_mono hM a pn ρ σ g _ _ (fun e ρ' σ' g' h => ?_) h
    cases e with
    | normal => exact AW_mono hM b pn _ _ _ _ _ hq h
    | _ => exact hq _ _ _ _ h
  | .cond x a b, pn, ρ, σ, g, Q, Q', hq, h => by
    simp only [AW] at h ⊢
    split at h
    · rename_i t ht
      cases t
      · exact AW_mono hM b pn ρ σ g _ _ hq h
      · exact AW_mono hM a pn ρ σ g _ _ hq h
    · exact h.elim
  | .block id a, pn, ρ, σ, g, Q, Q', hq, h => by
    simp only [AW] at h ⊢
    refine AW_mono hM a pn ρ σ g _ _ (fun e ρ' σ' g' h => ?_) h
    cases e with
    | exit id' =>
      simp only at h ⊢
      cases hb : Nat.beq id' id with
      | true => rw [hb] at h; exact hq _ _ _ _ h
      | false => rw [hb] at h; exact hq _ _ _ _ h
    | _ => exact hq _ _ _ _ h
  | .loop a, pn, ρ, σ, g, Q, Q', hq, h => by
    simp only [AW] at h ⊢
    obtain ⟨ι, E, Sg, gi, inv, μ, h1, h2⟩ := h
    refine ⟨ι, E, Sg, gi, inv, μ, h1, fun i hi => AW_mono hM a pn _ _ _ _ _ (fun e ρ' σ' g' h => ?_) (h2 i hi)⟩
    cases e with
    | normal => exact h
    | _ => exact hq _ _ _ _ h
  | .exit id, _, _, _, _, _, _, hq, h => hq _ _ _ _ h
  | .fzb t j a, pn, ρ, σ, g, Q, Q', hq, h => by
    simp only [AW] at h ⊢
    split at h
    · split at h
      · split at h
        · split at h
          · exact AW_mono hM a pn _ _ _ _ _ hq h
          · exact h.elim
        · exact h.elim
      · exact h.elim
    · exact h.elim
  | .nvb t j nm a, pn, ρ, σ, g, Q, Q', hq, h => by
    simp only [AW] at h ⊢
    split at h
    · split at h
      · split at h
        · exact AW_mono hM a pn _ _ _ _ _ hq h
        · exact h.elim
      · exact h.elim
    · exact h.elim
  | .nvs t nm a, pn, ρ, σ, g, Q, Q', hq, h => by
    simp only [AW] at h ⊢
    split at h
    · split at h
      · exact AW_mono hM a pn _ _ _ _ _ hq h
      · exact h.elim
    · exact h.elim
  | .cut a, pn, ρ, σ, g, Q, Q', hq, h => by
    simp only [AW] at h ⊢
    rcases h with h | ⟨E, Sg, h1, h2⟩
    · exact .inl (AW_mono hM a pn _ _ _ _ _ hq h)
    · exact .inr ⟨E, Sg, h1, AW_mono hM a pn _ _ _ _ _ hq h2⟩
  | .ret, _, _, _, _, _, _, hq, h => hq _ _ _ _ h
  | .rangeF pf f ps a b, pn, ρ, σ, g, Q, Q', hq, h => by
    simp only [AW] at h ⊢
    split at h
    · obtain ⟨E, Sg, h1, h2, h3⟩ := h
      refine ⟨E, Sg, h1, h2, CT_mono (fun v σ' g' h => ?_) h3⟩
      obtain ⟨q1, q2, q3⟩ := g'
      obtain ⟨h0, h⟩ := h
      refine ⟨h0, ?_⟩
      cases q3 with
      | none => exact hq _ _ _ _ h
      | some e => exact hq _ _ _ _ h
    · exact h.elim

theorem noRndL_iff (l : List V) : noRndL l = true ↔ ∀ v ∈ l, noRndB v = true := by
  induction l with
  | nil => simp [noRndL]
  | cons a r ih => simp [noRndL, ih]
theorem noRndSt_iff (σ : Store) (l : List Nat) : noRndSt σ l = true ↔ ∀ nm ∈ l, ∀ row, σ nm = .box row → noRndB row = true := by
  induction l with
  | nil => simp [noRndSt]
  | cons a r ih =>
    simp only [noRndSt, Bool.and_eq_true, ih, List.mem_cons, forall_eq_or_imp]
    constructor
    · rintro ⟨h1, h2⟩
      exact ⟨fun row hrow => by rw [hrow] at h1; exact h1, h2⟩
    · rintro ⟨h1, h2⟩
      refine ⟨?_, h2⟩
      split
      · rename_i row hrow; exact h1 row hrow
      · rfl

/-- What holds no yield stands for the same at every loop. -/
theorem Rep.atL {v : V} {x : Value} (l' : Nat) (h : Rep w S θ σ l v x) (hnr : noRndB v = true) : Rep w S θ σ l' v x := by
  induction h with
  | pure h => exact .pure h
  | agg vs xs hl _ ih => exact .agg vs xs hl fun i v x h1 h2 => ih i v x h1 h2 ((noRndL_iff vs).1 (by simpa [noRndB] using hnr) v (mem_of_get h1))
  | tup vs xs hl _ ih => exact .tup vs xs hl fun i v x h1 h2 => ih i v x h1 h2 ((noRndL_iff vs).1 (by simpa [noRndB] using hnr) v (mem_of_get h1))
  | fn f vs xs hl _ ih => exact .fn f vs xs hl fun i v x h1 h2 => ih i v x h1 h2 ((noRndL_iff vs).1 (by simpa [noRndB] using hnr) v (mem_of_get h1))
  | bptr nm j x ho hn h1 => exact .bptr nm j x ho hn h1
  | ptr nm gen i j x ho hn hg h1 => exact .ptr nm gen i j x ho hn hg h1
  | msl nm gen i len x ho hn hg h1 => exact .msl nm gen i len x ho hn hg h1
  | own nm rows b off cap m ys hn hb hcap hw hc hr hf => exact .own nm rows b off cap m ys hn hb hcap hw hc hr hf
  | ownemp nm a hn => exact .ownemp nm a hn
  | cptro nm row b o j ys hn hb hc hr => exact .cptro nm row b o j ys hn hb hc hr
  | rnd => simp [noRndB] at hnr

theorem noRnd_cells {v : V} (h : noRndB v = true) : ∀ u ∈ v.cells, noRndB u = true := by
  intro u hu
  cases v with
  | agg ll => exact (noRndL_iff ll).1 (by simpa [noRndB] using h) u hu
  | _ => simp only [V.cells, List.mem_singleton] at hu; rw [hu]; exact h

/-- One block's condition under other names that stand for the same, at another loop. -/
theorem BlkOk.ext {nm l' : Nat} (hk : BlkOk w S θ σ l nm (σ nm)) (hp : ∀ nm, σ nm ≠ .unused → σ' nm = σ nm ∧ θ' nm = θ nm) (h1 : σ' nm = σ nm) (h2 : θ' nm = θ nm) (hn : ∀ row, σ nm = .box row → noRndB row = true ∨ l' = l) : BlkOk w S θ' σ' l' nm (σ' nm) := by
  rw [h1]
  cases h : σ nm with
  | unused => rw [h] at hk; simp only [BlkOk] at hk ⊢; rw [h2]; exact hk
  | dead => trivial
  | box row =>
    rw [h] at hk
    simp only [BlkOk] at hk ⊢
    obtain ⟨b, c, e, k1, k2, k3, k4⟩ := hk
    refine ⟨b, c, e, by rw [h2]; exact k1, k2, k3, fun j v hj => ?_⟩
    obtain ⟨y, hy, hr⟩ := k4 j v hj
    refine ⟨y, hy, ?_⟩
    rcases hn row h with hn | rfl
    · exact (hr.ext hp).atL l' (noRnd_cells hn v (mem_of_get hj))
    · exact hr.ext hp
  | arr gen rows => rw [h] at hk; simp only [BlkOk] at hk ⊢; rw [h2]; exact hk
  | vec k => rw [h] at hk; simp only [BlkOk] at hk ⊢; rw [h2]; exact hk
end
end Hm
end

section
/- Soundness, twenty-fifth part: a range over a function. -/
namespace Hm
set_option linter.unusedVariables false
set_option linter.unusedSimpArgs false
open Go

section
variable {G : Type} {J : JT G} {w w' w'' : World} {S F S' F' S'' F'' : Nat → Prop} {θ θ' θ'' : Names} {σ σ' σ'' : Store} {l n : Nat} {g g' : G}
variable {P : Program} {o : Oper} {a : Act} {ρ : Env} {H : HT G} {s0 : Start}

/-- Behind a range over a function: the names that the function was handed, and the others, come together again. -/
theorem range_join {pf wo : List Nat} {R : RP} {st : Store × G × Option Exit} {W1 : World} {F1 : Nat → Prop} {θ2 : Names} {F2 : Nat → Prop} {lx : Nat} (hdis : ∀ nm, nm ∈ pf → nm ∉ wo)
    (hs1 : St J w S F θ σ l g) (hall : ∀ nm, σ nm ≠ .unused → nm ∈ pf ∨ nm ∈ wo)
    (hw1 : W1.heap.size = w.heap.size + 2) (hos : W1.os = w.os) (htape : W1.tape = w.tape) (hout : W1.output = w.output) (hold : ∀ b, b < w.heap.size → W1.heap[b]? = w.heap[b]?)
    (hRl : R.l = w.heap.size + 1) (hRr : R.r = w.heap.size) (hRB : R.wB = w ∧ R.SB = S ∧ R.FB = F ∧ R.θB = restrN wo θ ∧ R.σB = restr wo σ ∧ R.wo = wo)
    (hF1 : ∀ b, F1 b ↔ F b ∨ LiveB (restrN wo θ) (restr wo σ) b ∨ b = R.l ∨ b = R.r)
    (hs' : St (RJ J l R) w' S' F' θ' σ' lx st) (h2 : RJc J l R st w' S' F' θ2 F2) (hfr : Fr W1 S F1 (restrN pf θ) (restr pf σ) w' S' F' θ' σ') (hun : ∀ nm, nm ∉ pf → σ' nm = .unused) (hnr : noRndSt σ' pf = true) :
    St J w' S' F2 (mergeN pf θ2 θ') (merge pf st.1 σ') l st.2.1 ∧ Fr w S F θ σ w' S' F2 (mergeN pf θ2 θ') (merge pf st.1 σ') ∧ (∀ v x, Rep w' S' θ2 st.1 l v x → Rep w' S' (mergeN pf θ2 θ') (merge pf st.1 σ') l v x) ∧
      ¬ LiveB (mergeN pf θ2 θ') (merge pf st.1 σ') R.l ∧ ¬ LiveB (mergeN pf θ2 θ') (merge pf st.1 σ') R.r := by
  obtain ⟨hB1, hB2, hB3, hB4, hB5, hB6⟩ := hRB
  have hun' : ∀ nm, σ' nm ≠ .unused → nm ∈ pf := fun nm h => by
    by_cases hm : nm ∈ pf
    · exact hm
    · exact absurd (hun nm hm) h
  have hwo' : ∀ nm, st.1 nm ≠ .unused → nm ∈ wo := fun nm h => by
    by_cases hm : nm ∈ wo
    · exact hm
    · exact absurd (h2.hwo nm (by rw [hB6]; exact hm)) h
  have e1 : ∀ nm, σ' nm ≠ .unused → merge pf st.1 σ' nm = σ' nm ∧ mergeN pf θ2 θ' nm = θ' nm := fun nm h => merge_in (hun' nm h)
  have e2 : ∀ nm, st.1 nm ≠ .unused → merge pf st.1 σ' nm = st.1 nm ∧ mergeN pf θ2 θ' nm = θ2 nm := fun nm h => merge_out (fun hm => hdis nm hm (hwo' nm h))
  have liveM : ∀ b, LiveB (mergeN pf θ2 θ') (merge pf st.1 σ') b → LiveB θ' σ' b ∨ LiveB θ2 st.1 b := by
    rintro b ⟨nm, m, k1, k2⟩
    by_cases hm : nm ∈ pf
    · obtain ⟨q1, q2⟩ := merge_in (σ := st.1) (σ' := σ') (θ := θ2) (θ' := θ') hm
      exact .inl ⟨nm, m, by rw [← q1]; exact k1, by rw [← q2]; exact k2⟩
    · obtain ⟨q1, q2⟩ := merge_out (σ := st.1) (σ' := σ') (θ := θ2) (θ' := θ') hm
      exact .inr ⟨nm, m, by rw [← q1]; exact k1, by rw [← q2]; exact k2⟩
  have clash : ∀ b, LiveB θ' σ' b → LiveB θ2 st.1 b → False := fun b k1 k2 => (hs'.hF b ((h2.hFe b).2 (.inr (.inl k2)))).2.2 k1
  have livePf : ∀ b, LiveB (restrN pf θ) (restr pf σ) b → LiveB θ σ b := fun b h => restr_live (fun nm hm => restr_in hm) (fun nm hm => restr_out hm) h
  have liveWo : ∀ b, LiveB (restrN wo θ) (restr wo σ) b → LiveB θ σ b := fun b h => restr_live (fun nm hm => restr_in hm) (fun nm hm => restr_out hm) h
  have liveLt : ∀ b, LiveB θ σ b → b < w.heap.size := fun b ⟨nm, m, k1, k2⟩ => live_lt hs1 k1 k2
  have kn := h2.frn
  rw [hB1, hB2, hB4, hB5] at kn
  refine ⟨⟨hs'.hS, fun nm => ?_, fun n1 n2 b m m' k1 k2 k3 k4 => ?_, fun b hb hS => ?_, fun b hb => ?_, h2.st2.hJ⟩, ?_, fun v x hr => hr.ext e2, fun hl => ?_, fun hl => ?_⟩
  · by_cases hm : nm ∈ pf
    · obtain ⟨q1, q2⟩ := merge_in (σ := st.1) (σ' := σ') (θ := θ2) (θ' := θ') hm
      exact BlkOk.ext (hs'.hblk nm) e1 q1 q2 (fun row hrow => .inl ((noRndSt_iff σ' pf).1 hnr nm hm row hrow))
    · obtain ⟨q1, q2⟩ := merge_out (σ := st.1) (σ' := σ') (θ := θ2) (θ' := θ') hm
      exact BlkOk.ext (h2.st2.hblk nm) e2 q1 q2 (fun row hrow => .inr rfl)
  · by_cases m1 : n1 ∈ pf
    · obtain ⟨q1, q2⟩ := merge_in (σ := st.1) (σ' := σ') (θ := θ2) (θ' := θ') m1
      rw [q1] at k1
      rw [q2] at k3
      by_cases m2 : n2 ∈ pf
      · obtain ⟨q3, q4⟩ := merge_in (σ := st.1) (σ' := σ') (θ := θ2) (θ' := θ') m2
        exact hs'.hinj n1 n2 b m m' k1 (by rw [← q3]; exact k2) k3 (by rw [← q4]; exact k4)
      · obtain ⟨q3, q4⟩ := merge_out (σ := st.1) (σ' := σ') (θ := θ2) (θ' := θ') m2
        exact (clash b ⟨n1, m, k1, k3⟩ ⟨n2, m', by rw [← q3]; exact k2, by rw [← q4]; exact k4⟩).elim
    · obtain ⟨q1, q2⟩ := merge_out (σ := st.1) (σ' := σ') (θ := θ2) (θ' := θ') m1
      rw [q1] at k1
      rw [q2] at k3
      by_cases m2 : n2 ∈ pf
      · obtain ⟨q3, q4⟩ := merge_in (σ := st.1) (σ' := σ') (θ := θ2) (θ' := θ') m2
        exact (clash b ⟨n2, m', by rw [← q3]; exact k2, by rw [← q4]; exact k4⟩ ⟨n1, m, k1, k3⟩).elim
      · obtain ⟨q3, q4⟩ := merge_out (σ := st.1) (σ' := σ') (θ := θ2) (θ' := θ') m2
        exact h2.st2.hinj n1 n2 b m m' k1 (by rw [← q3]; exact k2) k3 (by rw [← q4]; exact k4)
  · rcases liveM b hb with k | k
    · exact hs'.hliveS b k hS
    · exact h2.st2.hliveS b k hS
  · obtain ⟨k1, k2, k3⟩ := h2.st2.hF b hb
    refine ⟨k1, k2, fun hl => ?_⟩
    rcases liveM b hl with k | k
    · exact (hs'.hF b ((h2.hFe b).2 (.inl hb))).2.2 k
    · exact k3 k
  · exact {
      size := by have := hfr.size; omega
      os := hfr.os.trans hos
      tape := hfr.tape.trans htape
      output := hfr.output.trans hout
      same := fun b hb hl hF => by
        rw [hfr.same b (by omega) (fun h => hl (livePf b h)) (fun h => by
          rcases (hF1 b).1 h with k | k | k | k
          · exact hF k
          · exact hl (liveWo b k)
          · omega
          · omega)]
        exact hold b hb
      sized := fun b c e fr hc => by
        obtain ⟨c', f, q1, q2, q3⟩ := hfr.sized b c e fr (by rw [hold b (Array.getElem?_eq_some_iff.1 hc).1]; exact hc)
        refine ⟨c', f, q1, q2, q3.imp id fun q4 => ⟨q4.1, fun hl => ?_⟩⟩
        rcases liveM b hl with k | k
        · exact hs'.hliveS b k q4.1
        · exact h2.st2.hliveS b k q4.1
      vecs := fun nm k b m k1 k2 j hj => by
        rcases hall nm (by rw [k1]; intro h; cases h) with hm | hm
        · obtain ⟨q1, q2⟩ := restr_in (σ := σ) (θ := θ) hm
          rw [hfr.vecs nm k b m (by rw [q1]; exact k1) (by rw [q2]; exact k2) j hj]
          exact cell_of_heap (hold b (live_lt hs1 (live_vec k1) k2))
        · obtain ⟨q1, q2⟩ := restr_in (σ := σ) (θ := θ) hm
          exact kn.vecs nm k b m (by rw [q1]; exact k1) (by rw [q2]; exact k2) j hj
      smono := hfr.smono
      snew := fun b hb => by
        rcases hfr.snew b hb with k | k | k | k
        · exact .inl k
        · exact .inr (.inl (livePf b k))
        · rcases (hF1 b).1 k with k | k | k | k
          · exact .inr (.inr (.inl k))
          · exact .inr (.inl (liveWo b k))
          · exact .inr (.inr (.inr (by omega)))
          · exact .inr (.inr (.inr (by omega)))
        · exact .inr (.inr (.inr (by omega)))
      live := fun b hb hlt => by
        rcases liveM b hb with k | k
        · exact livePf b (hfr.live b k (by omega))
        · exact liveWo b (kn.live b k hlt)
      fsub := fun b hb hlt => by
        have := h2.fsub b hb (by rw [hB1]; exact hlt)
        rw [hB3] at this
        exact this
      kdead := fun nm k1 => by
        rcases hall nm (by rw [k1]; intro h; cases h) with hm | hm
        · rw [(merge_in (σ := st.1) (σ' := σ') (θ := θ2) (θ' := θ') hm).1]
          exact hfr.kdead nm (by rw [(restr_in (σ := σ) (θ := θ) hm).1]; exact k1)
        · rw [(merge_out (σ := st.1) (σ' := σ') (θ := θ2) (θ' := θ') (fun h => hdis nm h hm)).1]
          exact kn.kdead nm (by rw [(restr_in (σ := σ) (θ := θ) hm).1]; exact k1)
      kbox := fun nm row k1 => by
        rcases hall nm (by rw [k1]; intro h; cases h) with hm | hm
        · obtain ⟨q1, q2⟩ := merge_in (σ := st.1) (σ' := σ') (θ := θ2) (θ' := θ') hm
          obtain ⟨q3, q4⟩ := restr_in (σ := σ) (θ := θ) hm
          rw [q1, q2, ← q4]
          exact hfr.kbox nm row (by rw [q3]; exact k1)
        · obtain ⟨q1, q2⟩ := merge_out (σ := st.1) (σ' := σ') (θ := θ2) (θ' := θ') (fun h => hdis nm h hm)
          obtain ⟨q3, q4⟩ := restr_in (σ := σ) (θ := θ) hm
          rw [q1, q2, ← q4]
          exact kn.kbox nm row (by rw [q3]; exact k1)
      karr := fun nm gen rows k1 => by
        rcases hall nm (by rw [k1]; intro h; cases h) with hm | hm
        · obtain ⟨q1, q2⟩ := merge_in (σ := st.1) (σ' := σ') (θ := θ2) (θ' := θ') hm
          obtain ⟨q3, q4⟩ := restr_in (σ := σ) (θ := θ) hm
          rw [q1, q2, ← q4]
          exact hfr.karr nm gen rows (by rw [q3]; exact k1)
        · obtain ⟨q1, q2⟩ := merge_out (σ := st.1) (σ' := σ') (θ := θ2) (θ' := θ') (fun h => hdis nm h hm)
          obtain ⟨q3, q4⟩ := restr_in (σ := σ) (θ := θ) hm
          rw [q1, q2, ← q4]
          exact kn.karr nm gen rows (by rw [q3]; exact k1)
      kvec := fun nm k k1 => by
        rcases hall nm (by rw [k1]; intro h; cases h) with hm | hm
        · obtain ⟨q1, q2⟩ := merge_in (σ := st.1) (σ' := σ') (θ := θ2) (θ' := θ') hm
          obtain ⟨q3, q4⟩ := restr_in (σ := σ) (θ := θ) hm
          rw [q1, q2, ← q4]
          exact hfr.kvec nm k (by rw [q3]; exact k1)
        · obtain ⟨q1, q2⟩ := merge_out (σ := st.1) (σ' := σ') (θ := θ2) (θ' := θ') (fun h => hdis nm h hm)
          obtain ⟨q3, q4⟩ := restr_in (σ := σ) (θ := θ) hm
          rw [q1, q2, ← q4]
          exact kn.kvec nm k (by rw [q3]; exact k1) }
  · rcases liveM _ hl with k | k
    · exact (hs'.hF _ ((h2.hFe _).2 (.inr (.inr (.inl rfl))))).2.2 k
    · exact h2.hl.2.2 k
  · rcases liveM _ hl with k | k
    · exact (hs'.hF _ ((h2.hFe _).2 (.inr (.inr (.inr rfl))))).2.2 k
    · exact h2.hr.2.2 k
end
end Hm
end

section
/- Soundness, twenty-sixth part: bodies. -/
namespace Hm
set_option linter.unusedVariables false
set_option linter.unusedSimpArgs false
open Go

section
variable {G : Type} {J : JT G} {w w' w'' : World} {S F S' F' S'' F'' : Nat → Prop} {θ θ' θ'' : Names} {σ σ' σ'' : Store} {l n : Nat} {g g' : G}
variable {P : Program} {o : Oper} {a : Act} {ρ : Env} {H : HT G} {s0 : Start}

theorem def_lt {ds : List Deferred} (h : DefOk w S F θ σ ds) {d : Deferred} (hd : d ∈ ds) : ∃ r, d.target = .collected r ∧ r < w.heap.size := by
  induction ds with
  | nil => cases hd
  | cons x ds ih =>
    obtain ⟨⟨r, h1, h2, _⟩, h3⟩ := h
    rcases List.mem_cons.1 hd with rfl | hd
    · exact ⟨r, h1, (Array.getElem?_eq_some_iff.1 h2).1⟩
    · exact ih h3 hd

/-- A RANGE OVER A FUNCTION. -/
theorem rangeF_wp {pf : List Nat} {f : Opd} {ps : List Nat} {ca cb : Cmd} {gop : Operand} {qs : Array Tmp} {asg body : Code} {pn : List Nat} {Q : Exit → Env → Store → G → Prop} (hst : Stable J) (hM : MonoH H) (hH : HokS P J H l)
    (ha : Sound P H n true ca asg) (hb : Sound P H n true cb body) (hf : chkOpd gop f = true) (hps : ps = qs.toList) (hpsn : ∀ p ∈ ps, p < n) (hpn : ∀ nm, s0.σ nm ≠ .unused → nm ∈ pn)
    (h : Cur J l n s0 w S F θ σ g ρ a) (hw : AW P H pn (.rangeF pf f ps ca cb) ρ σ g Q) : (Code.rangeFunc gop qs asg body).wpIn (wf none) 0 P (PostA J l n s0 Q) a w := by
  simp only [AW] at hw
  split at hw
  case h_2 => exact hw.elim
  rename_i fid caps hfv
  obtain ⟨E, Sg, hfit, hck, hct⟩ := hw
  simp only [Bool.and_eq_true] at hck
  obtain ⟨⟨⟨⟨⟨⟨c1, c2⟩, c3⟩, c6⟩, c7⟩, c4⟩, c5⟩ := hck
  have hfr := opd_rep h.env hf
  rw [hfv] at hfr
  have hcur := h.weaken hpn hfit
  obtain ⟨hfE, hfS, hfB⟩ := hfit
  obtain ⟨N, hN⟩ : ∃ N, N = Sg.map (·.1) := ⟨_, rfl⟩
  rw [← hN] at c1 c4 c5 hct hcur
  obtain ⟨wo, hwo⟩ : ∃ wo, wo = without pf N := ⟨_, rfl⟩
  rw [← hwo] at c4 c5 hct
  obtain ⟨σ1, hσ1⟩ : ∃ σ1, σ1 = stOf Sg := ⟨_, rfl⟩
  rw [← hσ1] at c3 c5 c7 hct hcur
  obtain ⟨θ1, hθ1⟩ : ∃ θ1, θ1 = restrN N θ := ⟨_, rfl⟩
  rw [← hθ1] at hcur
  have hpfN : ∀ nm ∈ pf, nm ∈ N := fun nm hm => (hasAll_iff _ _).1 c1 nm hm
  have hwoN : ∀ nm, nm ∈ wo ↔ nm ∈ N ∧ nm ∉ pf := fun nm => by rw [hwo]; exact mem_without pf N nm
  have hσN : ∀ nm, nm ∈ N → σ1 nm = σ nm ∧ θ1 nm = θ nm := fun nm hm => by
    rw [hσ1, hθ1]
    exact ⟨(fitsS_mem hfS nm).1 (by rw [← hN]; exact hm), (restr_in (σ := σ) hm).2⟩
  have hσu : ∀ nm, nm ∉ N → σ1 nm = .unused := fun nm hm => by
    rw [hσ1]
    exact (fitsS_mem hfS nm).2 (by rw [← hN]; exact hm)
  have hall : ∀ nm, σ1 nm ≠ .unused → nm ∈ pf ∨ nm ∈ wo := fun nm hnm => by
    by_cases hm : nm ∈ pf
    · exact .inl hm
    · refine .inr ((hwoN nm).2 ⟨?_, hm⟩)
      by_cases hmN : nm ∈ N
      · exact hmN
      · exact absurd (hσu nm hmN) hnm
  have hs1 := hcur.st
  obtain ⟨cs, hfe, hcl, hcr⟩ := hfr.fn_inv
  refine wpIn_rangeFunc fun fn _ => ?_
  obtain ⟨R, hR⟩ : ∃ R : RP, R = { l := w.heap.size + 1, r := w.heap.size, fn, tmps := a.tmps, qs, asg, body, E, wo, wB := w, SB := S, FB := F, θB := restrN wo θ1, σB := restr wo σ1 } := ⟨_, rfl⟩
  obtain ⟨W1, hW1⟩ : ∃ W1, W1 = (w.alloc (.deferred (some []))).alloc (.loop (R.rc .ready none)) := ⟨_, rfl⟩
  have hz1 : W1.heap.size = w.heap.size + 2 := by rw [hW1]; simp
  have hold : ∀ b, b < w.heap.size → W1.heap[b]? = w.heap[b]? := fun b hb => by
    rw [hW1, heap_alloc_old' _ _ (by simp; omega), heap_alloc_old' _ _ hb]
  have hlo : W1.heap[w.heap.size + 1]? = some (.loop (R.rc .ready none)) := by
    rw [hW1]; have := heap_alloc_new' (w.alloc (.deferred (some []))) (.loop (R.rc .ready none)); rwa [World.size_alloc] at this
  have hde : W1.heap[w.heap.size]? = some (.deferred (some [])) := by
    rw [hW1, heap_alloc_old' _ _ (by simp)]; exact heap_alloc_new' w _
  have hlt1 : ∀ b, LiveB θ1 σ1 b → b < w.heap.size := fun b ⟨nm, m, k1, k2⟩ => live_lt hs1 k1 k2
  have hsub : ∀ pl : List Nat, ∀ b, LiveB (restrN pl θ1) (restr pl σ1) b → LiveB θ1 σ1 b := fun pl b hb => restr_live (fun nm hm => restr_in hm) (fun nm hm => restr_out hm) hb
  have mkStay : ∀ pl : List Nat, Stays w S F (restrN pl θ1) (restr pl σ1) W1 S := fun pl => {
    size := by omega
    os := by rw [hW1]; rfl
    tape := by rw [hW1]; rfl
    output := by rw [hW1]; rfl
    same := fun b hb => hold b (by
      rcases hb with hb | hb | hb
      · exact hs1.hS b hb
      · exact (hs1.hF b hb).1
      · exact hlt1 b (hsub pl b hb))
    sized := fun b c e fr hc => ⟨c, fr, by rw [hold b (Array.getElem?_eq_some_iff.1 hc).1]; exact hc, rfl, .inl rfl⟩
    smono := fun _ h => h
    sok := fun b hb => ⟨by have := hs1.hS b hb; omega, fun hf => (hs1.hF b hf).2.1 hb, fun hl => hs1.hliveS b (hsub pl b hl) hb⟩ }
  have hsPf : St J w S F (restrN pf θ1) (restr pf σ1) l g := hs1.restr (fun nm hm => restr_in hm) (fun nm hm => restr_out hm) (fun nm hm row hrow => (closedSt_iff pf σ1 pf).1 c3 nm hm row hrow)
  have hsWo : St J w S F (restrN wo θ1) (restr wo σ1) l g := hs1.restr (fun nm hm => restr_in hm) (fun nm hm => restr_out hm) (fun nm hm row hrow => (closedSt_iff wo σ1 wo).1 c5 nm hm row hrow)
  have hSlt : ∀ b, w.heap.size ≤ b → ¬ S b ∧ ¬ F b ∧ ¬ LiveB θ1 σ1 b := fun b hb => ⟨fun h => by have := hs1.hS b h; omega, fun h => by have := (hs1.hF b h).1; omega, fun h => by have := hlt1 b h; omega⟩
  obtain ⟨F1, hF1⟩ : ∃ F1 : Nat → Prop, F1 = fun b => F b ∨ LiveB (restrN wo θ1) (restr wo σ1) b ∨ b = R.l ∨ b = R.r := ⟨_, rfl⟩
  have hRl : R.l = w.heap.size + 1 := by rw [hR]
  have hRr : R.r = w.heap.size := by rw [hR]
  have hRB : R.wB = w ∧ R.SB = S ∧ R.FB = F ∧ R.θB = restrN wo θ1 ∧ R.σB = restr wo σ1 ∧ R.wo = wo := by rw [hR]; exact ⟨rfl, rfl, rfl, rfl, rfl, rfl⟩
  have hRE : R.E = E := by rw [hR]
  have hRt : R.tmps = a.tmps := by rw [hR]
  have hW := (mkStay wo).st hst hsWo
  have hRJ : RJc J l R (restr wo σ1, g, none) W1 S F1 (restrN wo θ1) F := {
    st2 := hW
    hFe := fun b => by rw [hF1]
    hl := by rw [hRl]; exact ⟨(hSlt _ (by omega)).1, (hSlt _ (by omega)).2.1, fun hl => (hSlt _ (by omega)).2.2 (hsub wo _ hl)⟩
    hr := by rw [hRr]; exact ⟨(hSlt _ (Nat.le_refl _)).1, (hSlt _ (Nat.le_refl _)).2.1, fun hl => (hSlt _ (Nat.le_refl _)).2.2 (hsub wo _ hl)⟩
    hlo := by rw [hRl]; exact hlo
    hde := by rw [hRr]; exact hde
    env := fun t => by
      rw [hRE, hRt]
      exact (mkStay wo).rep hsWo ((hcur.env t).restr (fun nm hm => restr_in hm) (envOf_closed c4 t))
    frn := by
      rw [hRB.1, hRB.2.1, hRB.2.2.2.1, hRB.2.2.2.2.1]
      exact (mkStay wo).frN hsWo
    fsub := fun b hb _ => by rw [hRB.2.2.1]; exact hb
    hwo := fun nm hm => (restr_out (θ := θ1) (by rw [hRB.2.2.2.2.2] at hm; exact hm)).1
    ex := fun e h => by cases h }
  have hPf := (mkStay pf).st hst hsPf
  have hStJ : St (RJ J l R) W1 S F1 (restrN pf θ1) (restr pf σ1) R.l (restr wo σ1, g, none) := by
    refine ⟨hPf.hS, fun nm => BlkOk.ext (hPf.hblk nm) (fun _ _ => ⟨rfl, rfl⟩) rfl rfl (fun row hrow => .inl ?_), hPf.hinj, hPf.hliveS, fun b hb => ?_, ⟨_, _, hRJ⟩⟩
    · by_cases hm : nm ∈ pf
      · rw [(restr_in (θ := θ1) hm).1] at hrow
        exact (noRndSt_iff σ1 pf).1 c7 nm hm row hrow
      · rw [(restr_out (θ := θ1) hm).1] at hrow; cases hrow
    · rw [hF1] at hb
      rcases hb with hb | hb | rfl | rfl
      · exact hPf.hF b hb
      · obtain ⟨nm, m, k1, k2⟩ := hb
        refine ⟨live_lt hW k1 k2, hW.hliveS b ⟨nm, m, k1, k2⟩, fun ⟨nm', m', k3, k4⟩ => ?_⟩
        have hm : nm ∈ wo := by
          by_cases hm : nm ∈ wo
          · exact hm
          · rw [(restr_out (θ := θ1) hm).1] at k1; exact k1.elim
        have hm' : nm' ∈ pf := by
          by_cases hm : nm' ∈ pf
          · exact hm
          · rw [(restr_out (θ := θ1) hm).1] at k3; exact k3.elim
        obtain ⟨q1, q2⟩ := restr_in (σ := σ1) (θ := θ1) hm
        obtain ⟨q3, q4⟩ := restr_in (σ := σ1) (θ := θ1) hm'
        have := hs1.hinj nm nm' b m m' (by rw [← q1]; exact k1) (by rw [← q3]; exact k3) (by rw [← q2]; exact k2) (by rw [← q4]; exact k4)
        exact ((hwoN nm).1 hm).2 (by rw [this]; exact hm')
      · rw [hRl]
        exact ⟨by omega, (hSlt _ (by omega)).1, fun hl => (hSlt _ (by omega)).2.2 (hsub pf _ hl)⟩
      · rw [hRr]
        exact ⟨by omega, (hSlt _ (Nat.le_refl _)).1, fun hl => (hSlt _ (Nat.le_refl _)).2.2 (hsub pf _ hl)⟩
  have hReps : Reps (Rep W1 S (restrN pf θ1) (restr pf σ1) R.l) (.rnd :: caps) (.func (.yield R.l) #[] #[] :: cs) := by
    refine ⟨by simp [hcl], fun i v x hv hx => ?_⟩
    cases i with
    | zero =>
      simp at hv hx
      subst hv hx
      exact .rnd
    | succ i =>
      simp at hv hx
      have h1 := hcr i v x hv hx
      have h2 : Rep w S (restrN pf θ1) (restr pf σ1) l v x := h1.restr (pn := pf) (fun nm hm => by
        obtain ⟨q1, q2⟩ := restr_in (σ := σ1) (θ := θ1) hm
        obtain ⟨q3, q4⟩ := hσN nm (hpfN nm hm)
        exact ⟨q1.trans q3, q2.trans q4⟩) ((closedL_iff pf caps).1 c2 v (mem_of_get hv))
      exact ((mkStay pf).rep hsPf h2).atL R.l ((noRndL_iff caps).1 c6 v (mem_of_get hv))
  have hok := round_hok (R := R) (ca := ca) (cb := cb) (ps := ps) hst hM hH (by rw [hR]; exact ha) (by rw [hR]; exact hb) (by rw [hR]; exact hps) hpsn (by rw [hRt]; exact h.sz) (by rw [hRl, hRr]; omega)
    (fun nm hnm => by
      rw [hRB.2.2.2.2.1] at hnm
      rw [hRB.2.2.2.2.2]
      by_cases hm : nm ∈ wo
      · exact hm
      · exact absurd (restr_out (θ := θ1) hm).1 hnm) (by rw [hRB.2.2.2.2.2, hRE]; exact c4)
  rw [hRB.2.2.2.2.2, hRE] at hok
  have hcall := hct.2 (RJ J l R) R.l (RJ.stable hst) (RH_mono (fun pn ρ σ g Q Q' => AW_mono hM ca pn ρ σ g Q Q') (fun pn ρ σ g Q Q' => AW_mono hM cb pn ρ σ g Q Q')) hok W1 S F1 (restrN pf θ1) (.func (.yield R.l) #[] #[] :: cs) hStJ hReps
  have hcb := hct.1
  refine ⟨w.heap.size + 1, [{ target := .collected w.heap.size, args := #[] }], W1, { target := .fn (.func fid) cs.toArray, args := #[.func (.yield (w.heap.size + 1)) #[] #[]] }, W1, fid, (.func (.yield R.l) #[] #[] :: cs).toArray, W1, ?_, ?_, fun _ _ => trivial, ?_, (fun h => by cases h), (callsIn_wf hcall).mono fun e w' he => ?_⟩
  · rw [hW1, hR]; exact run_enterLoop_outer _ _ _ _ _
  · simp [resolve, hfe, Deferred.ofValue]
    rfl
  · have : (#[Value.func (.yield (w.heap.size + 1)) #[] #[]] ++ cs.toArray) = (.func (.yield R.l) #[] #[] :: cs).toArray := by rw [hRl]; apply Array.ext'; simp
    simp only [invoke]
    rw [this]
    exact call_run hcb _ _
  · obtain ⟨r, x', σ', st, S', F', θ', rfl, ⟨hnr, hK⟩, hs', _, hfr', hun⟩ := he
    obtain ⟨θ2, F2, h2⟩ := hs'.hJ
    obtain ⟨j1, j2, j3, j4, j5⟩ := range_join (R := R) (pf := pf) (wo := wo) (fun nm h1 h2 => ((hwoN nm).1 h2).2 h1) hs1 hall hz1 (by rw [hW1]; rfl) (by rw [hW1]; rfl) (by rw [hW1]; rfl) hold hRl hRr hRB (fun b => by rw [hF1]) hs' h2 hfr' hun hnr
    have hend := run_endLoop (P := P) h2.hlo (by
      simp only [RP.rc, lst]
      cases st.2.2 <;> simp)
    have hstay : Stays w' S' F2 (mergeN pf θ2 θ') (merge pf st.1 σ') (w'.putObj R.l (.loop { R.rc (lst st.2.2) (pend st.2.2) with state := .exhausted })) S' :=
      Stays.set j1 (by simp) (fun b hb => World.putObj_heap_other hb) h2.hlo (by intro c e fr h; cases h) rfl rfl rfl h2.hl.1 h2.hl.2.1 j4
    have j6 := hstay.st hst j1
    have hsame : Fr w S F θ1 σ1 (w'.putObj R.l (.loop { R.rc (lst st.2.2) (pend st.2.2) with state := .exhausted })) S' F2 (mergeN pf θ2 θ') (merge pf st.1 σ') := {
      j2 with
      size := by have := j2.size; simp; omega
      same := fun b hb hl hF => by
        rw [World.putObj_heap_other (by rw [hRl]; omega)]
        exact j2.same b hb hl hF
      sized := fun b c e fr hc => by
        obtain ⟨c', f1, k1, k2, k1'⟩ := j2.sized b c e fr hc
        obtain ⟨c'', f2, k3, k4, k3'⟩ := hstay.sized b c' e f1 k1
        refine ⟨c'', f2, k3, k4.trans k2, ?_⟩
        rcases k3' with rfl | k3'
        · exact k1'
        · exact .inr ⟨k3', fun hl => j1.hliveS b hl k3'⟩
      vecs := fun nm k b m k1 k2 j hj => by
        rw [← j2.vecs nm k b m k1 k2 j hj]
        exact cell_of_heap (World.putObj_heap_other (by rw [hRl]; have := live_lt hs1 (live_vec k1) k2; omega)) }
    have hfin : Cur J l n s0 (w'.putObj R.l (.loop { R.rc (lst st.2.2) (pend st.2.2) with state := .exhausted })) S' F2 (mergeN pf θ2 θ') (merge pf st.1 σ') st.2.1 (envOf E) { a with defers := [{ target := .collected w.heap.size, args := #[] }] ++ a.defers } := by
      refine ⟨j6, fun t => ?_, h.sz, hcur.fr.trans hs1 hsame, ⟨⟨w.heap.size, rfl, ?_, ?_⟩, hcur.de.fr hsame⟩, fun d hd r hr => ?_⟩
      · have := h2.env t
        rw [hRE, hRt] at this
        exact hstay.rep j1 (j3 _ _ this)
      · rw [World.putObj_heap_other (by rw [hRl]; omega), ← hRr]; exact h2.hde
      · rw [← hRr]
        refine ⟨h2.hr.1, h2.hr.2.1, j5, fun d' hd' e => ?_⟩
        obtain ⟨r', k1, k2⟩ := def_lt hcur.de hd'
        rw [k1] at e
        injection e with e
        omega
      · rcases List.mem_cons.1 hd with rfl | hd
        · injection hr with hr
          have := hcur.fr.size
          omega
        · exact hcur.dn d hd r hr
    have hl1 : w.heap.size + 1 = R.l := hRl.symm
    rw [hl1]
    refine ⟨_, _, hend, ?_⟩
    cases hj : st.2.2 with
    | none =>
      rw [hj] at hK
      simp only [RP.rc, pend]
      rw [hj] at hfin
      exact ⟨.inl rfl, _, _, _, _, _, _, hK, hfin⟩
    | some e =>
      rw [hj] at hK hfin
      rcases h2.ex e hj with rfl | ⟨id, rfl⟩
      · simp only [RP.rc, pend]
        exact wpIn_ret ⟨.inr (.inl rfl), _, _, _, _, _, _, hK, hfin⟩
      · simp only [RP.rc, pend]
        exact wpIn_exit ⟨.inr (.inr ⟨id, rfl⟩), _, _, _, _, _, _, hK, hfin⟩

theorem seq_cases {n : Nat} {r : Bool} {x y : Cmd} {code : Code} (hc : chk P n r (.seq x y) code = true) :
    (∃ t, x = .frz t ∧ chk P n r y code = true) ∨ (∃ t, y = .frz t ∧ chk P n r x code = true) ∨ ∃ x' y', code = .seq x' y' ∧ chk P n r x x' = true ∧ chk P n r y y' = true := by
  unfold chk at hc
  split at hc
  · simp only [Bool.and_eq_true] at hc
    exact .inl ⟨_, rfl, hc.2⟩
  · simp only [Bool.and_eq_true] at hc
    exact .inr (.inl ⟨_, rfl, hc.2⟩)
  · split at hc
    · simp only [Bool.and_eq_true] at hc
      exact .inr (.inr ⟨_, _, rfl, hc.1, hc.2⟩)
    · cases hc

/-- THE SOUNDNESS OF THE WEAKEST PRECONDITION. -/
theorem aw_sound (hmix : P.follows .mixedOrders = true) : ∀ (c : Cmd) (r : Bool) (code : Code), chk P n r c code = true → Sound P H n r c code
  | .skip, r, code, hc => by
    intro J l hst hM hH ro hro pn ρ σ g Q s0 w S F θ a hpn h hw
    cases code <;> first | (cases r <;> cases hc; done) | skip
    exact wpIn_skip ⟨.inl rfl, _, _, _, _, _, _, hw, h⟩
  | .ops l', r, code, hc => by
    intro J l hst hM hH ro hro pn ρ σ g Q s0 w S F θ a hpn h hw
    cases code <;> first | (cases r <;> cases hc; done) | skip
    rename_i id ops draw
    cases draw with
    | false =>
      have hc : seqOk P n ops l' (List.range ops.size) = true := by cases r <;> exact hc
      exact wpIn_region (items_wp hst hM hH _ _ hc h hw (fun ρ' σ' g' S' F' θ' w' a' hk hc => ⟨.inl rfl, ρ', σ', g', S', F', θ', hk, hc⟩))
    | true =>
      have hc : chkDraw P n ops l' (.leaf (List.range ops.size)) = true := by cases r <;> exact hc
      refine draw_wp hmix hst hM hH hc h ?_
      have hlen : l'.length = ops.size := by
        simp only [chkDraw, allOps, Bool.and_eq_true] at hc
        exact Nat.eq_of_beq_eq_true hc.1.2.1
      show AWits P H (pickAll l' (List.range ops.size)) ρ σ g _
      rw [← hlen, pickAll_range]
      exact hw
  | .opsT t l', r, code, hc => by
    intro J l hst hM hH ro hro pn ρ σ g Q s0 w S F θ a hpn h hw
    cases code <;> first | (cases r <;> cases hc; done) | skip
    rename_i id ops draw
    cases draw with
    | false => cases r <;> cases hc
    | true =>
      have hc : chkDraw P n ops l' t = true := by cases r <;> exact hc
      exact draw_wp hmix hst hM hH hc h hw
  | .frz t, r, code, hc => by cases code <;> cases r <;> cases hc
  | .seq x y, r, code, hc => by
    intro J l hst hM hH ro hro pn ρ σ g Q s0 w S F θ a hpn h hw
    simp only [AW] at hw
    rcases seq_cases hc with ⟨t, rfl, h1⟩ | ⟨t, rfl, h1⟩ | ⟨x', y', rfl, h1, h2⟩
    · simp only [AW] at hw
      obtain ⟨ρ', σ', S', k1, k2⟩ := frz_cur hst h hw
      exact aw_sound hmix y r code h1 J l hst hM hH ro hro pn ρ' σ' g Q s0 w S' F θ a hpn k2 k1
    · refine wpIn_mono (aw_sound hmix x r code h1 J l hst hM hH ro hro pn ρ σ g _ s0 w S F θ a hpn h hw) fun e a' w' hp => ?_
      obtain ⟨hex, ρ', σ', g', S', F', θ', hq, hc'⟩ := hp
      cases e with
      | normal =>
        simp only [AW] at hq
        obtain ⟨ρ2, σ2, S2, k1, k2⟩ := frz_cur hst hc' hq
        exact ⟨.inl rfl, _, _, _, _, _, _, k1, k2⟩
      | _ => exact ⟨hex, _, _, _, _, _, _, hq, hc'⟩
    · refine wpIn_seq (wpIn_mono (aw_sound hmix x r x' h1 J l hst hM hH ro hro pn ρ σ g _ s0 w S F θ a hpn h hw) fun e a' w' hp => ?_)
      obtain ⟨hex, ρ', σ', g', S', F', θ', hq, hc'⟩ := hp
      cases e with
      | normal => exact aw_sound hmix y r y' h2 J l hst hM hH ro hro pn ρ' σ' g' Q s0 w' S' F' θ' a' hpn hc' hq
      | _ => exact ⟨hex, _, _, _, _, _, _, hq, hc'⟩
  | .cond x y z, r, code, hc => by
    intro J l hst hM hH ro hro pn ρ σ g Q s0 w S F θ a hpn h hw
    cases code <;> first | (cases r <;> cases hc; done) | skip
    rename_i c' y' z'
    have hc : (chkOpd c' x && chk P n r y y' && chk P n r z z') = true := by cases r <;> exact hc
    simp only [Bool.and_eq_true] at hc
    obtain ⟨⟨h1, h2⟩, h3⟩ := hc
    have hr := opd_rep h.env h1
    simp only [AW] at hw
    split at hw
    · rename_i t ht
      rw [ht] at hr
      have e := hr.bool_inv
      cases t with
      | true => exact wpIn_cond_true e (aw_sound hmix y r y' h2 J l hst hM hH ro hro pn ρ σ g Q s0 w S F θ a hpn h hw)
      | false => exact wpIn_cond_false e (aw_sound hmix z r z' h3 J l hst hM hH ro hro pn ρ σ g Q s0 w S F θ a hpn h hw)
    · exact hw.elim
  | .block id x, r, code, hc => by
    intro J l hst hM hH ro hro pn ρ σ g Q s0 w S F θ a hpn h hw
    cases code <;> first | (cases r <;> cases hc; done) | skip
    rename_i id' x'
    have hc : (Nat.beq id id' && chk P n r x x') = true := by cases r <;> exact hc
    simp only [Bool.and_eq_true] at hc
    have e := Nat.eq_of_beq_eq_true hc.1
    subst e
    refine wpIn_block (wpIn_mono (aw_sound hmix x r x' hc.2 J l hst hM hH ro hro pn ρ σ g _ s0 w S F θ a hpn h hw) fun e a' w' hp => ?_)
    obtain ⟨hex, ρ', σ', g', S', F', θ', hq, hc'⟩ := hp
    cases e with
    | exit i =>
      simp only at hq
      simp only [Exit.inBlock]
      cases hb : Nat.beq i id with
      | true =>
        rw [hb] at hq
        rw [if_pos (Nat.eq_of_beq_eq_true hb)]
        exact ⟨.inl rfl, _, _, _, _, _, _, hq, hc'⟩
      | false =>
        rw [hb] at hq
        rw [if_neg (fun e => by rw [e] at hb; simp at hb)]
        exact ⟨hex, _, _, _, _, _, _, hq, hc'⟩
    | _ => exact ⟨hex, _, _, _, _, _, _, hq, hc'⟩
  | .loop x, r, code, hc => by
    intro J l hst hM hH ro hro pn ρ σ g Q s0 w S F θ a hpn h hw
    cases code <;> first | (cases r <;> cases hc; done) | skip
    rename_i x'
    have hc : chk P n r x x' = true := by cases r <;> exact hc
    simp only [AW] at hw
    obtain ⟨ι, E, Sg, gi, inv, μ, ⟨i0, hi0, hf0, hg0⟩, hstep⟩ := hw
    refine loop_ix (fun i a w => inv i ∧ ∃ S F θ, Cur J l n s0 w S F θ (stOf (Sg i)) (gi i) (envOf (E i)) a) μ i0 ⟨hi0, S, F, _, by rw [hg0]; exact h.weaken hpn hf0⟩ fun i a w hI => ?_
    obtain ⟨hi, S, F, θ, hcur⟩ := hI
    refine wpIn_mono (aw_sound hmix x r x' hc J l hst hM hH ro hro pn _ _ _ _ s0 w S F θ a hpn hcur (hstep i hi)) fun e a' w' hp => ?_
    obtain ⟨hex, ρ', σ', g', S', F', θ', hq, hc'⟩ := hp
    cases e with
    | normal =>
      obtain ⟨i', hi', hf', hg', hμ⟩ := hq
      exact ⟨i', ⟨hi', S', F', _, by rw [hg']; exact hc'.weaken hpn hf'⟩, hμ⟩
    | _ => exact ⟨hex, _, _, _, _, _, _, hq, hc'⟩
  | .fzb t j x, r, code, hc => by
    intro J l hst hM hH ro hro pn ρ σ g Q s0 w S F θ a hpn h hw
    have hc : chk P n r x code = true := by cases r <;> cases code <;> exact hc
    simp only [AW] at hw
    split at hw
    · split at hw
      · rename_i l0 hb
        split at hw
        · rename_i nm rows hj
          split at hw
          · rename_i k hu
            obtain ⟨S2, h2⟩ := fzb_cur hst h hb hu hj
            exact aw_sound hmix x r code hc J l hst hM hH ro hro pn _ _ _ _ s0 w S2 F _ a hpn h2 hw
          · exact hw.elim
        · exact hw.elim
      · exact hw.elim
    · exact hw.elim
  | .nvb t j nm x, r, code, hc => by
    intro J l hst hM hH ro hro pn ρ σ g Q s0 w S F θ a hpn h hw
    have hc : chk P n r x code = true := by cases r <;> cases code <;> exact hc
    simp only [AW] at hw
    split at hw
    · rename_i bn ht hu
      split at hw
      · rename_i l0 hb
        split at hw
        · rename_i hj
          exact aw_sound hmix x r code hc J l hst hM hH ro hro pn _ _ _ _ s0 w S F _ a hpn (nvb_cur hst h hb hu hj) hw
        · exact hw.elim
      · exact hw.elim
    · exact hw.elim
  | .nvs t nm x, r, code, hc => by
    intro J l hst hM hH ro hro pn ρ σ g Q s0 w S F θ a hpn h hw
    have hc : chk P n r x code = true := by cases r <;> cases code <;> exact hc
    simp only [AW] at hw
    split at hw
    · rename_i bn ht hu
      split at hw
      · rename_i hb
        exact aw_sound hmix x r code hc J l hst hM hH ro hro pn _ _ _ _ s0 w S F _ a hpn (nvs_cur hst h hb hu) hw
      · exact hw.elim
    · exact hw.elim
  | .cut x, r, code, hc => by
    intro J l hst hM hH ro hro pn ρ σ g Q s0 w S F θ a hpn h hw
    have hc : chk P n r x code = true := by cases r <;> cases code <;> exact hc
    simp only [AW] at hw
    rcases hw with hw | ⟨E, Sg, hf, hw⟩
    · exact aw_sound hmix x r code hc J l hst hM hH ro hro pn ρ σ g Q s0 w S F θ a hpn h hw
    · exact aw_sound hmix x r code hc J l hst hM hH ro hro pn _ _ _ _ s0 w S F _ a hpn (h.weaken hpn hf) hw
  | .exit id, r, code, hc => by
    intro J l hst hM hH ro hro pn ρ σ g Q s0 w S F θ a hpn h hw
    cases code <;> first | (cases r <;> cases hc; done) | skip
    rename_i id'
    have hc : Nat.beq id id' = true := by cases r <;> exact hc
    have e := Nat.eq_of_beq_eq_true hc
    subst e
    exact wpIn_exit ⟨.inr (.inr ⟨_, rfl⟩), _, _, _, _, _, _, hw, h⟩
  | .ret, r, code, hc => by
    intro J l hst hM hH ro hro pn ρ σ g Q s0 w S F θ a hpn h hw
    cases code <;> first | (cases r <;> cases hc; done) | skip
    exact wpIn_ret ⟨.inr (.inl rfl), _, _, _, _, _, _, hw, h⟩
  | .rangeF pf f ps x y, r, code, hc => by
    intro J l hst hM hH ro hro pn ρ σ g Q s0 w S F θ a hpn h hw
    cases r with
    | true => cases code <;> cases hc
    | false =>
      cases code <;> first | (cases hc; done) | skip
      rename_i g' qs x' y'
      have hc : (chkOpd g' f && (ps == qs.toList) && (ps.all fun p => Nat.blt p n) && chk P n true x x' && chk P n true y y') = true := hc
      simp only [Bool.and_eq_true, beq_iff_eq] at hc
      obtain ⟨⟨⟨⟨h1, h2⟩, h3⟩, h4⟩, h5⟩ := hc
      rw [hro rfl]
      exact rangeF_wp hst hM hH (aw_sound hmix x true x' h4) (aw_sound hmix y true y' h5) h1 h2 (fun p hp => by
        have := (List.all_eq_true.1 h3) p hp
        simpa [Nat.blt_eq] using this) hpn h hw
end
end Hm
end

section
/- Soundness, twenty-seventh part: contracts of functions. -/
namespace Hm
set_option linter.unusedVariables false
set_option linter.unusedSimpArgs false
open Go

/-- Where a result lies. -/
inductive RVar where
  | tmp (t : Nat)
  | cell (agg : Bool) (size a : Nat)
def resVal (ρ : Env) (σ : Store) : RVar → Option V
  | .tmp t => some (ρ t)
  | .cell agg size a => match ρ a with
    | .bptr nm j => match σ nm with
      | .box row => ldrow agg size j row
      | _ => none
    | .cptr _ row j => ldrow agg size j row
    | _ => none
def resAll (ρ : Env) (σ : Store) : List RVar → Option (List V)
  | [] => some []
  | x :: r => match resVal ρ σ x, resAll ρ σ r with
    | some v, some vs => some (v :: vs)
    | _, _ => none
def finV : List V → V
  | [v] => v
  | vs => .tup vs
def chkRes (P : Program) : ResultVar → RVar → Bool
  | .tmp t, .tmp t' => Nat.beq t t'
  | .cell a T, .cell agg size a' => Nat.beq a a' && tSize P T size && tAgg P T == agg && (agg || Nat.beq size 1) && (P.underlying T).isSome
  | _, _ => false
def chkRess (P : Program) : List ResultVar → List RVar → Bool
  | [], [] => true
  | x :: r, y :: r' => chkRes P x y && chkRess P r r'
  | _, _ => false
/-- An annotated program is the body of function f. -/
def chkFn (P : Program) (f n : Nat) (rs : List RVar) (c : Cmd) : Bool := match P.funcs[f]? with
  | some fn => fn.name != "runtime.NumGoroutine" && Nat.beq fn.ntmps n && chkRess P fn.results.toList rs && (match fn.body with
    | some code => chk P n false c code
    | none => false)
  | none => false

def okE : Exit → Bool
  | .normal | .ret => true
  | _ => false
def fnPost (rs : List RVar) (r : V) : Exit → Env → Store → Unit → Prop := fun e ρ σ _ => okE e = true ∧ ∃ vs, resAll ρ σ rs = some vs ∧ r = er σ 6 (finV vs)

def SL (S : Nat → Prop) (θ : Names) (σ : Store) : Nat → Prop := fun b => S b ∨ LiveB θ σ b

section
variable {G : Type} {J : JT G} {w w' w'' : World} {S F S' F' S'' F'' : Nat → Prop} {θ θ' θ'' : Names} {σ σ' σ'' : Store} {l n : Nat} {g g' : G}
variable {P : Program} {o : Oper} {a : Act} {ρ : Env} {H : HT G} {s0 : Start}

/-- What remains of a value when all own blocks are frozen. -/
theorem Rep.er2 (hst : St J w S F θ σ l g) {v : V} {x : Value} (h : Rep w S θ σ l v x) (n : Nat) : RepP w (SL S θ σ) (Hm.er σ n v) x := by
  induction n generalizing v x with
  | zero => exact .any x
  | succ n ihn =>
    cases h with
    | pure h1 => exact (h1.mono (fun _ _ => rfl) (fun _ h => .inl h)).er σ (n + 1)
    | agg vs xs hl h1 =>
      refine .agg _ xs (by simpa using hl) fun i v x h2 h3 => ?_
      rw [List.getElem?_map] at h2
      cases h4 : vs[i]? with
      | none => simp [h4] at h2
      | some u => simp [h4] at h2; subst h2; exact ihn (h1 i u x h4 h3)
    | tup vs xs hl h1 =>
      refine .tup _ xs (by simpa using hl) fun i v x h2 h3 => ?_
      rw [List.getElem?_map] at h2
      cases h4 : vs[i]? with
      | none => simp [h4] at h2
      | some u => simp [h4] at h2; subst h2; exact ihn (h1 i u x h4 h3)
    | fn f vs xs hl h1 =>
      refine .fn f _ xs (by simpa using hl) fun i v x h2 h3 => ?_
      rw [List.getElem?_map] at h2
      cases h4 : vs[i]? with
      | none => simp [h4] at h2
      | some u => simp [h4] at h2; subst h2; exact ihn (h1 i u x h4 h3)
    | bptr nm j x ho hn h1 =>
      simp only [Hm.er]
      cases hs : σ nm with
      | box row =>
        obtain ⟨b, m, hb, rfl⟩ := h1 row hs
        have hk := hst.hblk nm
        rw [hs] at hk
        obtain ⟨b', c, e, h2, h3, h4, h5⟩ := hk
        have eb : b' = b := by rw [hb] at h2; simp at h2; exact h2.1.symm
        subst eb
        have hlt : SL S θ σ b' := .inr ⟨nm, _, by rw [hs]; trivial, h2⟩
        have hcell : ∀ i v, row.cells[i]? = some v → w.cell? ⟨b', 0 + i, none⟩ = some (c.getD i default) := by
          intro i v hv
          obtain ⟨y, hy, _⟩ := h5 i v hv
          have hi := (Array.getElem?_eq_some_iff.1 hy).1
          simp [World.cell?, h3, Array.getD, hi]
        have hrep : ∀ i v, row.cells[i]? = some v → Rep w S θ σ l v (c.getD i default) := by
          intro i v hv
          obtain ⟨y, hy, hr⟩ := h5 i v hv
          have hi := (Array.getElem?_eq_some_iff.1 hy)
          have : c.getD i default = y := by simp [Array.getD, hi.1, hi.2]
          rw [this]; exact hr
        have fin : ∀ row' : V, (∀ (i : Nat) (v' : V), row'.cells[i]? = some v' → ∃ v : V, row.cells[i]? = some v ∧ v' = Hm.er σ n v) → RepP w (SL S θ σ) (.cptr .p row' j) (.pointer (some ⟨b', j, none⟩)) := by
          intro row' hrow'
          have := RepP.cptr (w := w) (S := SL S θ σ) row' b' 0 j (fun i => c.getD i default) hlt (fun i v' hv' => by
            obtain ⟨v, hv, _⟩ := hrow' i v' hv'
            exact hcell i v hv) (fun i v' hv' => by
            obtain ⟨v, hv, rfl⟩ := hrow' i v' hv'
            exact ihn (hrep i v hv))
          simpa using this
        have one : ∀ v : V, (∀ ll, v ≠ .agg ll) → row = v → RepP w (SL S θ σ) (.cptr .p (Hm.er σ n v) j) (.pointer (some ⟨b', j, none⟩)) := by
          intro v hv e
          refine fin _ fun i v' hv' => ?_
          subst e
          have hcs : row.cells = [row] := cells_one hv
          have hce : (Hm.er σ n row).cells = [Hm.er σ n row] := cells_one (er_notagg σ n hv)
          rw [hce] at hv'
          rw [hcs]
          cases i with
          | zero => simp at hv'; exact ⟨row, by simp, hv'.symm⟩
          | succ i => simp at hv'
        cases row with
        | agg ll =>
          refine fin _ fun i v' hv' => ?_
          simp only [V.cells, List.getElem?_map] at hv' ⊢
          cases h6 : ll[i]? with
          | none => simp [h6] at hv'
          | some u => simp [h6] at hv'; exact ⟨u, rfl, hv'.symm⟩
        | tup ll => exact .any _
        | _ => exact one _ (by intro ll; simp) rfl
      | _ => exact .any _
    | ptr nm gen i j x ho hn hg h1 =>
      simp only [Hm.er]
      cases hs : σ nm with
      | arr gen' rows =>
        simp only
        cases hgen : Nat.beq gen gen' with
        | false => exact .any _
        | true =>
          have e := Nat.eq_of_beq_eq_true hgen
          subst e
          simp only [cond_true]
          cases hrow : rows[i]? with
          | none => exact .any _
          | some row =>
            obtain ⟨b, m, hb, rfl⟩ := h1 rows hs
            have hk := hst.hblk nm
            rw [hs] at hk
            rcases hk with ⟨h2, _⟩ | ⟨b', m', c, e, h2, h3, h4, h5, h6⟩
            · rw [hb] at h2; cases h2
            · have eb : b' = b ∧ m' = m := by rw [hb] at h2; simp at h2; exact ⟨h2.1.symm, h2.2.symm⟩
              obtain ⟨rfl, rfl⟩ := eb
              have hlt : SL S θ σ b' := .inr ⟨nm, _, by rw [hs]; trivial, h2⟩
              refine RepP.cptr row b' (i * m') j (fun q => c.getD (i * m' + q) default) hlt (fun q v hv => ?_) (fun q v hv => ?_)
              · obtain ⟨y, hy, _⟩ := h6 i q row v hrow hv
                have hi := (Array.getElem?_eq_some_iff.1 hy).1
                simp [World.cell?, h3, Array.getD, hi]
              · obtain ⟨y, hy, hr⟩ := h6 i q row v hrow hv
                have hi := (Array.getElem?_eq_some_iff.1 hy)
                have e2 : c.getD (i * m' + q) default = y := by simp [Array.getD, hi.1, hi.2]
                rw [e2]; exact hr.mono (fun _ _ => rfl) (fun _ h => .inl h)
      | _ => exact .any _
    | msl nm gen i len x ho hn hg h1 =>
      simp only [Hm.er]
      cases hs : σ nm with
      | arr gen' rows =>
        simp only
        cases hgen : Nat.beq gen gen' with
        | false => exact .any _
        | true =>
          have e := Nat.eq_of_beq_eq_true hgen
          subst e
          simp only [cond_true]
          rcases h1 rows hs with ⟨b, m, cap, hb, hle, rfl, hcap, hlen⟩ | ⟨rfl, a, rfl⟩
          · have hk := hst.hblk nm
            rw [hs] at hk
            rcases hk with ⟨h2, _⟩ | ⟨b', m', c, e, h2, h3, h4, h5, h6⟩
            · rw [hb] at h2; cases h2
            · have eb : b' = b ∧ m' = m := by rw [hb] at h2; simp at h2; exact ⟨h2.1.symm, h2.2.symm⟩
              obtain ⟨rfl, rfl⟩ := eb
              have hlt : SL S θ σ b' := .inr ⟨nm, _, by rw [hs]; trivial, h2⟩
              have hl : ((rows.drop i).take len).length = len := by simp; omega
              have hget : ∀ q row, ((rows.drop i).take len)[q]? = some row → rows[i + q]? = some row := by
                intro q row hq
                rw [List.getElem?_take] at hq
                split at hq
                · rwa [List.getElem?_drop] at hq
                · cases hq
              have := RepP.sl (w := w) (S := SL S θ σ) ((rows.drop i).take len) b' (i * m') cap m' (fun q j => c.getD ((i + q) * m' + j) default) hlt (by omega)
                (fun row hr => h4 row (List.mem_of_mem_drop (List.mem_of_mem_take hr)))
                (fun q j row v h7 h8 => by
                  obtain ⟨y, hy, _⟩ := h6 (i + q) j row v (hget q row h7) h8
                  have hi := (Array.getElem?_eq_some_iff.1 hy).1
                  have e1 : i * m' + q * m' + j = (i + q) * m' + j := by rw [Nat.add_mul]
                  rw [e1]
                  simp [World.cell?, h3, Array.getD, hi])
                (fun q j row v h7 h8 => by
                  obtain ⟨y, hy, hr⟩ := h6 (i + q) j row v (hget q row h7) h8
                  have hi := (Array.getElem?_eq_some_iff.1 hy)
                  have e2 : c.getD ((i + q) * m' + j) default = y := by simp [Array.getD, hi.1, hi.2]
                  rw [e2]; exact hr.mono (fun _ _ => rfl) (fun _ h => .inl h))
              rw [hl] at this
              exact this
          · simpa using RepP.emp a 0
      | _ => exact .any _
    | own nm rows b off cap m ys hn hb hcap hw hc hr hf =>
      simp only [Hm.er]
      cases rows with
      | nil => exact .emp _ _
      | cons row rest =>
        have hlt : SL S θ σ b := by
          rcases hb with hb | ⟨m', k, hb, hk, _⟩
          · exact .inl hb
          · exact .inr ⟨nm, m', live_vec hk, hb⟩
        exact .sl (row :: rest) b off cap m ys hlt hcap hw hc fun i j row v h1 h2 => (hr i j row v h1 h2).mono (fun _ _ => rfl) (fun _ h => .inl h)
    | ownemp nm a hn => exact .emp a 0
    | cptro nm row b o j ys hn hb hc hr =>
      simp only [Hm.er]
      have hlt : SL S θ σ b := by
        rcases hb with hb | ⟨m', k, hb, hk, _⟩
        · exact .inl hb
        · exact .inr ⟨nm, m', live_vec hk, hb⟩
      exact .cptr row b o j ys hlt hc fun i v h1 => (hr i v h1).mono (fun _ _ => rfl) (fun _ h => .inl h)
    | rnd => exact .any _


theorem Rep.bptr_inv {nm j : Nat} {row : V} {x : Value} (h : Rep w S θ σ l (.bptr nm j) x) (hσ : σ nm = .box row) : ∃ b m, θ nm = some (b, m) ∧ x = .pointer (some ⟨b, j, none⟩) := by
  cases h with
  | pure h1 => cases h1
  | bptr _ _ _ _ hn h1 => exact h1 row hσ

theorem res_one (hs : St J w S F θ σ l g) (he : EnvRep w S θ σ l ρ a.tmps) {x : ResultVar} {y : RVar} {v : V} (hc : chkRes P x y = true) (hv : resVal ρ σ y = some v) :
    ∃ u, (match x with
      | .tmp t => (pure (a.tmps.getD t undef) : Sem Value)
      | .cell c t => do loadVar t (← asAddr (a.tmps.getD c undef))).run P w = .ok u w ∧ Rep w S θ σ l v u := by
  cases x with
  | tmp t =>
    cases y with
    | tmp t' =>
      have e := Nat.eq_of_beq_eq_true hc
      subst e
      simp only [resVal, Option.some.injEq] at hv
      subst hv
      exact ⟨_, by simp, he t⟩
    | cell _ _ _ => cases hc
  | cell c T =>
    cases y with
    | tmp _ => cases hc
    | cell agg size c' =>
      simp only [chkRes, Bool.and_eq_true, beq_iff_eq] at hc
      obtain ⟨⟨⟨⟨h1, h2⟩, h3⟩, h4⟩, h5⟩ := hc
      have e := Nat.eq_of_beq_eq_true h1
      subst e
      have hr := he c
      have fin : ∀ {row : V} {b oo j : Nat} {ys : Nat → Value}, a.tmps.getD c undef = .pointer (some ⟨b, oo + j, none⟩) → ldrow agg size j row = some v →
          (∀ (i : Nat) (u : V), row.cells[i]? = some u → w.cell? ⟨b, oo + i, none⟩ = some (ys i) ∧ Rep w S θ σ l u (ys i)) → ∃ u, (do loadVar T (← asAddr (a.tmps.getD c undef)) : Sem Value).run P w = .ok u w ∧ Rep w S θ σ l v u := by
        intro row b oo j ys e hld hcell
        obtain ⟨x, hrun, hrep⟩ := load_run hld h2 h3 h4 h5 hcell
        refine ⟨x, ?_, hrep⟩
        rw [e]
        simp [Instr.loadAt, Instr.sureAddr] at hrun
        simpa [asAddr] using hrun
      simp only [resVal] at hv
      split at hv
      · rename_i nm j hρ
        rw [hρ] at hr
        split at hv
        · rename_i row hσ
          obtain ⟨b, m, hb, e⟩ := hr.bptr_inv hσ
          have hk := hs.hblk nm
          rw [hσ] at hk
          obtain ⟨b', c2, e', k2, k3, k4, k5⟩ := hk
          have eb : b' = b := by rw [hb] at k2; simp at k2; exact k2.1.symm
          subst eb
          refine fin (oo := 0) (ys := fun i => c2.getD i default) (by rw [e, Nat.zero_add]) hv fun i u hu => ?_
          obtain ⟨y, hy, hr⟩ := k5 i u hu
          have hi := Array.getElem?_eq_some_iff.1 hy
          have e2 : c2.getD i default = y := by simp [Array.getD, hi.1, hi.2]
          rw [e2]
          exact ⟨by simpa [World.cell?, k3] using hy, hr⟩
        · cases hv
      · rename_i row j hρ
        rw [hρ] at hr
        obtain ⟨b, oo, ys, e1, h6, _⟩ := hr.cptr_inv
        exact fin e1 hv (fun i u hu => ⟨(h6 i u hu).1, .pure (h6 i u hu).2⟩)
      · cases hv

def readVar (tmps : Array Value) : ResultVar → Sem Value
  | .tmp t => pure (tmps.getD t undef)
  | .cell c t => do loadVar t (← asAddr (tmps.getD c undef))

theorem res_list (hs : St J w S F θ σ l g) (he : EnvRep w S θ σ l ρ a.tmps) : ∀ {xs : List ResultVar} {ys : List RVar} {vs : List V}, chkRess P xs ys = true → resAll ρ σ ys = some vs →
    ∃ us, (xs.mapM (readVar a.tmps)).run P w = .ok us w ∧ Reps (Rep w S θ σ l) vs us
  | [], [], vs, _, hv => by
    simp only [resAll, Option.some.injEq] at hv
    subst hv
    exact ⟨[], by simp, rfl, fun i v x h => by simp at h⟩
  | x :: xs, y :: ys, vs, hc, hv => by
    simp only [chkRess, Bool.and_eq_true] at hc
    simp only [resAll] at hv
    split at hv
    · rename_i v vs' h1 h2
      simp only [Option.some.injEq] at hv
      subst hv
      obtain ⟨u, k1, k2⟩ := res_one (P := P) hs he hc.1 h1
      obtain ⟨us, k3, k4, k5⟩ := res_list hs he hc.2 h2
      have k1' : (readVar a.tmps x).run P w = .ok u w := by cases x <;> exact k1
      refine ⟨u :: us, by simp [List.mapM_cons, Sem.run_bind, k1', k3, Result.andThen], by simp [k4], fun i v' x' h3 h4 => ?_⟩
      cases i with
      | zero => simp at h3 h4; subst h3 h4; exact k2
      | succ i => exact k5 i v' x' (by simpa using h3) (by simpa using h4)
    · cases hv
  | [], _ :: _, _, hc, _ => by simp [chkRess] at hc
  | _ :: _, [], _, hc, _ => by simp [chkRess] at hc

theorem res_run {fn : Func} {rs : List RVar} {vs : List V} (hs : St J w S F θ σ l g) (he : EnvRep w S θ σ l ρ a.tmps) (hc : chkRess P fn.results.toList rs = true) (hv : resAll ρ σ rs = some vs) :
    ∃ u, (results fn a.tmps).run P w = .ok u w ∧ Rep w S θ σ l (finV vs) u := by
  obtain ⟨us, k1, k2, k3⟩ := res_list (P := P) hs he hc hv
  have e : results fn a.tmps = (List.toArray <$> (fn.results.toList.mapM (readVar a.tmps))) >>= fun vs => pure (if h : vs.size = 1 then vs[0] else .tuple vs) := by
    rw [← Array.mapM_eq_mapM_toList]
    unfold results
    congr 1
  rw [e]
  refine ⟨if h : us.toArray.size = 1 then us.toArray[0] else .tuple us.toArray, by simp [k1, Result.andThen], ?_⟩
  by_cases h : us.toArray.size = 1
  · rw [dif_pos h]
    simp only [List.size_toArray] at h
    cases us with
    | nil => simp at h
    | cons u us =>
      cases us with
      | cons _ _ => simp at h
      | nil =>
        cases vs with
        | nil => simp at k2
        | cons v vs =>
          cases vs with
          | cons _ _ => simp at k2
          | nil => exact k3 0 v u rfl rfl
  · rw [dif_neg h]
    have hf : finV vs = .tup vs := by
      simp only [List.size_toArray] at h
      cases vs with
      | nil => rfl
      | cons v vs =>
        cases vs with
        | cons _ _ => rfl
        | nil => simp at k2; omega
    rw [hf]
    exact .tup vs us k2 k3

/-- The marks are come to, one by one. -/
theorem leaves_marks {fn : Func} {rs : List RVar} {vs : List V} {R : Ending → World → Prop} (hst : Stable J) (hc : chkRess P fn.results.toList rs = true) (hv : resAll ρ σ rs = some vs) : ∀ (ds : List Deferred) {w : World}, St J w S F θ σ l g → EnvRep w S θ σ l ρ a.tmps → DefOk w S F θ σ ds →
    (∀ (w' : World) (u : Value), St J w' S F θ σ l g → Rep w' S θ σ l (finV vs) u → w'.heap.size = w.heap.size → w'.os = w.os → w'.tape = w.tape → w'.output = w.output →
      (∀ b, (∀ d ∈ ds, d.target ≠ .collected b) → w'.heap[b]? = w.heap[b]?) → R (.returned u) w') → LeavesInM Fence.wide 0 P fn a.tmps R ds .returning w
  | [], w, hs, he, _, hR => by
    obtain ⟨u, k1, k2⟩ := res_run (P := P) hs he hc hv
    exact ⟨u, k1, hR w u hs k2 rfl rfl rfl rfl (fun _ _ => rfl)⟩
  | d :: ds, w, hs, he, ⟨⟨r, h1, h2, h3, h4, h5, h6⟩, h7⟩, hR => by
    have hstay : Stays w S F θ σ (w.putObj r (.deferred none)) S := Stays.set hs (by simp) (fun b hb => World.putObj_heap_other hb) h2 (by intro c e fr h; cases h) rfl rfl rfl h3 h4 h5
    refine ⟨(by intro h; cases h), .inl ⟨r, _, h1, run_takeDeferred h2, ?_⟩⟩
    have key : ∀ ds : List Deferred, (∀ d' ∈ ds, d'.target ≠ .collected r) → DefOk w S F θ σ ds → DefOk (w.putObj r (.deferred none)) S F θ σ ds := by
      intro ds
      induction ds with
      | nil => intro _ _; trivial
      | cons d ds ih =>
        rintro hne ⟨⟨r', k1, k2, k3, k4, k5, k6⟩, k7⟩
        exact ⟨⟨r', k1, by rw [World.putObj_heap_other (fun e => hne d (by simp) (by rw [k1, e]))]; exact k2, k3, k4, k5, k6⟩, ih (fun d' hd' => hne d' (by simp [hd'])) k7⟩
    refine leaves_marks hst hc hv ds (hstay.st hst hs) (fun t => hstay.rep hs (he t)) (key ds h6 h7) fun w' u k1 k2 k3 k4 k5 k6 k7 => ?_
    refine hR w' u k1 k2 (by simpa using k3) k4 k5 k6 fun b hb => ?_
    rw [k7 b (fun d' hd' => hb d' (by simp [hd'])), World.putObj_heap_other (fun e => hb d (by simp) (by rw [h1, e]))]
end
end Hm
end

section
/- Soundness, twenty-eighth part: contracts of functions, joined. -/
namespace Hm
set_option linter.unusedVariables false
set_option linter.unusedSimpArgs false
open Go

section
variable {G : Type} {J : JT G} {w w' w'' : World} {S F S' F' S'' F'' : Nat → Prop} {θ θ' θ'' : Names} {σ σ' σ'' : Store} {l n : Nat} {g g' : G}
variable {P : Program} {o : Oper} {a : Act} {ρ : Env} {H : HT G} {s0 : Start}

theorem env_start {args : List V} {xs : List Value} (m : Nat) (h : Reps (Rep w S θ σ l) args xs) : EnvRep w S θ σ l (env0 args) (xs.toArray ++ Array.replicate m undef) := by
  intro t
  unfold env0
  by_cases ht : t < args.length
  · have h1 : args[t]? = some args[t] := List.getElem?_eq_getElem ht
    have h2 : t < xs.length := by rw [← h.1]; exact ht
    have h3 : xs[t]? = some xs[t] := List.getElem?_eq_getElem h2
    have e : (xs.toArray ++ Array.replicate m undef).getD t undef = xs[t] := by
      rw [Array.getD_eq_getD_getElem?, Array.getElem?_append_left (by simpa using h2)]
      simp [h3]
    rw [h1, e]
    exact h.2 t _ _ h1 h3
  · rw [List.getElem?_eq_none (by omega)]
    have e : (xs.toArray ++ Array.replicate m undef).getD t undef = undef := by
      have h3 : xs.toArray.size ≤ t := by have := h.1; simp; omega
      rw [Array.getD_eq_getD_getElem?, Array.getElem?_append_right h3, Array.getElem?_replicate]
      split <;> rfl
    rw [e]
    exact rep_undef

theorem fn_parts {f : Nat} {rs : List RVar} {c : Cmd} (h : chkFn P f n rs c = true) : ∃ fn code, P.funcs[f]? = some fn ∧ fn.body = some code ∧ fn.ntmps = n ∧ chkRess P fn.results.toList rs = true ∧ chk P n false c code = true ∧ callable P f = true := by
  unfold chkFn at h
  split at h
  · rename_i fn hf
    simp only [Bool.and_eq_true] at h
    obtain ⟨⟨⟨h1, h2⟩, h3⟩, h4⟩ := h
    split at h4
    · rename_i code hb
      refine ⟨fn, code, hf, hb, Nat.eq_of_beq_eq_true h2, h3, h4, ?_⟩
      unfold callable
      rw [hf]
      simp only [Bool.and_eq_true]
      exact ⟨h1, by rw [hb]; rfl⟩
    · cases h4
  · cases h

theorem noH_hok (J : JT Unit) (l : Nat) : HokS P J noH l := fun _ _ _ _ _ _ _ _ _ h => h.elim
theorem noH_mono : MonoH (noH (G := Unit)) := fun _ _ _ _ _ h => h.elim

/-- A CONTRACT FROM A BODY: a function that only reads and makes memory. -/
theorem Fn.intro {f : Nat} {rs : List RVar} {c : Cmd} {args : List V} {r : V} (hmix : P.follows .mixedOrders = true) (hc : chkFn P f n rs c = true) (haw : AW (G := Unit) P noH [] c (env0 args) σ0 () (fnPost rs r)) : Fn P f args r := by
  obtain ⟨fn, code, hf, hb, hn, hres, hchk, hcb⟩ := fn_parts hc
  refine ⟨hcb, fun w S xs hS hargs => ?_⟩
  refine callsIn_of_wp_marks hf hb trivial ?_
  have hst : Stable (noJ (G := Unit)) := fun _ _ _ _ _ _ _ _ _ _ _ _ _ _ _ _ _ => trivial
  have hs : St (noJ (G := Unit)) w S (fun _ => False) θ0 σ0 0 () := ⟨hS, fun nm => rfl, fun _ _ _ _ _ h => h.elim, fun b hb => by obtain ⟨nm, m, h1, _⟩ := hb; exact h1.elim, fun b hb => hb.elim, trivial⟩
  have hcur : Cur noJ 0 n ⟨w, S, fun _ => False, θ0, σ0⟩ w S (fun _ => False) θ0 σ0 () (env0 args) { tmps := xs.toArray ++ Array.replicate (fn.ntmps - xs.toArray.size) undef, defers := [] } :=
    ⟨hs, env_start _ ⟨hargs.1, fun i v x h1 h2 => .pure (hargs.2 i v x h1 h2)⟩, by simp; omega, Fr.refl _ _ _ _ _, trivial, fun d hd => by cases hd⟩
  refine wpIn_mono (aw_sound hmix c false code hchk noJ 0 hst noH_mono (noH_hok _ _) none (fun _ => rfl) [] _ _ _ _ ⟨w, S, fun _ => False, θ0, σ0⟩ w S _ θ0 _ (fun nm h => absurd rfl h) hcur haw) fun e a' w' hp => ?_
  obtain ⟨hex, ρ', σ', g', S', F', θ', ⟨hok, vs, hvs, rfl⟩, hc'⟩ := hp
  have key : LeavesInM Fence.wide 0 P fn a'.tmps (fun e w' => ∃ x' S', e = .returned x' ∧ RepP w' S' (er σ' 6 (finV vs)) x' ∧ (∀ b, S' b → S b ∨ w.heap.size ≤ b) ∧ (∀ b, S' b → b < w'.heap.size) ∧ Grow w w') a'.defers .returning w' := by
    refine leaves_marks hst hres hvs a'.defers hc'.st hc'.env hc'.de fun w2 u k1 k2 k3 k4 k5 k6 k7 => ?_
    have k := hc'.fr
    have hnoL : ∀ b, LiveB θ' σ' b → w.heap.size ≤ b := fun b hb => by
      by_cases hlt : b < w.heap.size
      · obtain ⟨nm, m, h1, _⟩ := k.live b hb hlt
        exact h1.elim
      · omega
    refine ⟨u, _, rfl, Rep.er2 k1 k2 6, fun b hb => ?_, fun b hb => ?_, ?_⟩
    · rcases hb with hb | hb
      · rcases k.snew b hb with h1 | ⟨nm, m, h1, _⟩ | h1 | h1
        · exact .inl h1
        · exact h1.elim
        · exact h1.elim
        · exact .inr h1
      · exact .inr (hnoL b hb)
    · rcases hb with hb | ⟨nm, m, h1, h2⟩
      · exact k1.hS b hb
      · exact live_lt k1 h1 h2
    · refine ⟨by have := k.size; simp only at this; omega, k4.trans k.os, k5.trans k.tape, k6.trans k.output, fun b hb => ?_⟩
      have hsame : w'.heap[b]? = w.heap[b]? := k.same b hb (fun ⟨nm, m, h1, _⟩ => h1) (fun h => h)
      rw [k7 b (fun d hd e => ?_), hsame]
      have := hc'.dn d hd b e
      simp only at this
      omega
  cases e with
  | normal => exact key
  | ret => exact key
  | exit id => cases hok
  | goto _ => cases hok
  | panic _ => cases hok
  | outgrown => cases hok
end
end Hm
end

section
/- Soundness, twenty-ninth part: contracts of functions that are handed named blocks, and yield. -/
namespace Hm
set_option linter.unusedVariables false
set_option linter.unusedSimpArgs false
open Go

def ctPost {G : Type} (pn : List Nat) (rs : List RVar) (K : V → Store → G → Prop) : Exit → Env → Store → G → Prop := fun e ρ σ' g' =>
  okE e = true ∧ ∃ vs, resAll ρ σ' rs = some vs ∧ closedB pn (finV vs) = true ∧ closedSt pn σ' pn = true ∧ K (finV vs) (restr pn σ') g'

section
variable {G : Type} {J : JT G} {w w' w'' : World} {S F S' F' S'' F'' : Nat → Prop} {θ θ' θ'' : Names} {σ σ' σ'' : Store} {l n : Nat} {g g' : G}
variable {P : Program} {o : Oper} {a : Act} {ρ : Env} {H : HT G} {s0 : Start}

theorem def_mark {ds : List Deferred} (h : DefOk w S F θ σ ds) {d : Deferred} {b : Nat} (hd : d ∈ ds) (e : d.target = .collected b) : w.heap[b]? = some (.deferred (some [])) ∧ ¬ S b ∧ ¬ F b ∧ ¬ LiveB θ σ b := by
  induction ds with
  | nil => cases hd
  | cons x ds ih =>
    obtain ⟨⟨r, q1, q2, q3, q4, q5, _⟩, q6⟩ := h
    rcases List.mem_cons.1 hd with rfl | hd
    · rw [q1] at e; injection e with e; subst e; exact ⟨q2, q3, q4, q5⟩
    · exact ih q6 hd

theorem marks_fr {w0 : World} {S0 F0 : Nat → Prop} {θ0' : Names} {σ0' : Store} (h : Cur J l n ⟨w0, S0, F0, θ0', σ0'⟩ w S F θ σ g ρ a) (hs0 : ∀ nm b m, (σ0' nm).live → θ0' nm = some (b, m) → b < w0.heap.size) (hsz : w'.heap.size = w.heap.size) (hos : w'.os = w.os) (ht : w'.tape = w.tape) (ho : w'.output = w.output)
    (hk : ∀ b, (∀ d ∈ a.defers, d.target ≠ .collected b) → w'.heap[b]? = w.heap[b]?) : Fr w0 S0 F0 θ0' σ0' w' S F θ σ := by
  have k := h.fr
  have hold : ∀ b, b < w0.heap.size → w'.heap[b]? = w.heap[b]? := fun b hb => hk b fun d hd e => by
    have := h.dn d hd b e
    simp only at this
    omega
  exact {
    size := by have := k.size; simp only at this; omega
    os := hos.trans k.os
    tape := ht.trans k.tape
    output := ho.trans k.output
    same := fun b hb hl hF => by rw [hold b hb]; exact k.same b hb hl hF
    sized := fun b c e fr hc => by
      rw [hold b (Array.getElem?_eq_some_iff.1 hc).1]
      exact k.sized b c e fr hc
    vecs := fun nm q b m h1 h2 j hj => by
      have h3 := k.vecs nm q b m h1 h2 j hj
      rw [← h3]
      exact cell_of_heap (hold b (hs0 nm b m (live_vec h1) h2))
    smono := k.smono
    snew := k.snew
    live := k.live
    fsub := k.fsub
    kdead := k.kdead
    kbox := k.kbox
    karr := k.karr
    kvec := k.kvec }

/-- A CONTRACT FROM A BODY: a function that is handed named blocks, or yield. -/
theorem CT.intro {f : Nat} {rs : List RVar} {c : Cmd} {args : List V} {K : V → Store → G → Prop} (pn : List Nat) (hmix : P.follows .mixedOrders = true) (hc : chkFn P f n rs c = true)
    (hpn : ∀ nm, σ nm ≠ .unused → nm ∈ pn) (haw : MonoH H → AW P H pn c (env0 args) σ g (ctPost pn rs K)) : CT P H f args pn σ g K := by
  obtain ⟨fn, code, hf, hb, hn, hres, hchk, hcb⟩ := fn_parts hc
  refine ⟨hcb, fun J l hst hM hH w S F θ xs hs hargs => ?_⟩
  refine callsIn_of_wp_marks hf hb trivial ?_
  have hcur : Cur J l n ⟨w, S, F, θ, σ⟩ w S F θ σ g (env0 args) { tmps := xs.toArray ++ Array.replicate (fn.ntmps - xs.toArray.size) undef, defers := [] } :=
    ⟨hs, env_start _ hargs, by simp; omega, Fr.refl _ _ _ _ _, trivial, fun d hd => by cases hd⟩
  refine wpIn_mono (aw_sound hmix c false code hchk J l hst hM hH none (fun _ => rfl) pn _ _ _ _ ⟨w, S, F, θ, σ⟩ w S _ θ _ hpn hcur (haw hM)) fun e a' w' hp => ?_
  obtain ⟨hex, ρ', σ', g', S', F', θ', ⟨hok, vs, hvs, hcl, hcs, hK⟩, hc'⟩ := hp
  have key : LeavesInM Fence.wide 0 P fn a'.tmps (fun e w' => ∃ r x' σ' g' S' F' θ', e = .returned x' ∧ K r σ' g' ∧ St J w' S' F' θ' σ' l g' ∧ Rep w' S' θ' σ' l r x' ∧ Fr w S F θ σ w' S' F' θ' σ' ∧ ∀ nm, nm ∉ pn → σ' nm = .unused) a'.defers .returning w' := by
    refine leaves_marks hst hres hvs a'.defers hc'.st hc'.env hc'.de fun w2 u k1 k2 k3 k4 k5 k6 k7 => ?_
    refine ⟨finV vs, u, restr pn σ', g', S', F', restrN pn θ', rfl, hK, ?_, ?_, ?_, fun nm hu => ?_⟩
    · exact k1.restr (fun nm hm => restr_in hm) (fun nm hm => restr_out hm) (fun nm hm row hrow => (closedSt_iff pn σ' pn).1 hcs nm hm row hrow)
    · exact k2.restr (fun nm hm => restr_in hm) hcl
    · exact (marks_fr hc' (fun nm b m h1 h2 => live_lt hs h1 h2) k3 k4 k5 k6 k7).drop hpn (fun nm hm => restr_in hm) (fun nm hm => restr_out hm)
    · exact (restr_out (θ := θ') hu).1
  cases e with
  | normal => exact key
  | ret => exact key
  | exit id => cases hok
  | goto _ => cases hok
  | panic _ => cases hok
  | outgrown => cases hok

/-- The store of the names that are handed on. -/
theorem restr_stOf (σ : Store) : ∀ pn : List Nat, restr pn σ = stOf (pn.map fun nm => (nm, σ nm))
  | [] => rfl
  | nm :: r => by
    funext t
    have ih := congrFun (restr_stOf σ r) t
    simp only [restr, List.map_cons, stOf, memB] at ih ⊢
    cases hb : Nat.beq t nm with
    | true => rw [Nat.eq_of_beq_eq_true hb]; simp
    | false => simpa using ih
end
end Hm
end

section
/- Stepping: the weakest precondition behind judgements that unification does not open; one lemma a step. -/
namespace Hm
set_option linter.unusedVariables false
set_option linter.unusedSimpArgs false
open Go

/-- What waits behind a command. -/
inductive Frm (G : Type) where
  | seq (b : Cmd)
  | block (id : Nat)
  | loop (N : Env → Store → G → Prop)

def kont {G : Type} (P : Program) (H : HT G) (pn : List Nat) (Q : Exit → Env → Store → G → Prop) : List (Frm G) → Exit → Env → Store → G → Prop
  | [] => Q
  | .seq b :: fs => fun e ρ σ g => match e with
    | .normal => AW P H pn b ρ σ g (kont P H pn Q fs)
    | e => kont P H pn Q fs e ρ σ g
  | .block id :: fs => fun e ρ σ g => match e with
    | .exit id' => bif Nat.beq id' id then kont P H pn Q fs .normal ρ σ g else kont P H pn Q fs (.exit id') ρ σ g
    | e => kont P H pn Q fs e ρ σ g
  | .loop N :: fs => fun e ρ σ g => match e with
    | .normal => N ρ σ g
    | e => kont P H pn Q fs e ρ σ g

structure WC {G : Type} (P : Program) (H : HT G) (pn : List Nat) (Q : Exit → Env → Store → G → Prop) (fs : List (Frm G)) (c : Cmd) (ρ : Env) (σ : Store) (g : G) : Prop where
  out : AW P H pn c ρ σ g (kont P H pn Q fs)
structure WE {G : Type} (P : Program) (H : HT G) (pn : List Nat) (Q : Exit → Env → Store → G → Prop) (fs : List (Frm G)) (e : Exit) (ρ : Env) (σ : Store) (g : G) : Prop where
  out : kont P H pn Q fs e ρ σ g
structure WI {G : Type} (P : Program) (H : HT G) (pn : List Nat) (Q : Exit → Env → Store → G → Prop) (fs : List (Frm G)) (l : List GItem) (ρ : Env) (σ : Store) (g : G) : Prop where
  out : AWits P H l ρ σ g (kont P H pn Q fs .normal)

/-- A value with its head in hand. -/
def fz : V → Option V
  | .any => some .any
  | .bool b => some (.bool b)
  | .int k n => some (.int k n)
  | .str s => some (.str s)
  | .agg l => some (.agg l)
  | .tup l => some (.tup l)
  | .sl t rows => some (.sl t rows)
  | .msl nm gen i len => some (.msl nm gen i len)
  | .ptr nm gen i j => some (.ptr nm gen i j)
  | .bptr nm j => some (.bptr nm j)
  | .cptr t row j => some (.cptr t row j)
  | .nilptr => some .nilptr
  | .fn f caps => some (.fn f caps)
  | .nilfn => some .nilfn
  | .rnd => some .rnd
theorem fz_eq {v u : V} (h : fz v = some u) : u = v := by cases v <;> cases h <;> rfl
def fzL : List V → Option (List V)
  | [] => some []
  | v :: r => match fz v, fzL r with
    | some v', some r' => some (v' :: r')
    | _, _ => none
theorem fzL_eq : ∀ {l m : List V}, fzL l = some m → m = l
  | [], _, h => by cases h; rfl
  | v :: r, m, h => by
    simp only [fzL] at h
    split at h
    · rename_i v' r' h1 h2
      cases h
      rw [fz_eq h1, fzL_eq h2]
    · cases h
def fzA : Option V → Option V
  | some (.agg l) => match fzL l with
    | some l' => some (.agg l')
    | none => none
  | some v => fz v
  | none => none
theorem fzA_eq {o : Option V} {u : V} (h : fzA o = some u) : o = some u := by
  unfold fzA at h
  split at h
  · split at h
    · rename_i h1
      cases h
      rw [fzL_eq h1]
    · cases h
  · rw [fz_eq h]
  · cases h

def binv (op : BinOp) (st : Bool) (et : List LT) (x y : V) : Option V :=
  match op, x, y with
  | .lss, .int k a, .int k' b => bif kEq k k' then some (.bool (decide (a < b))) else none
  | .leq, .int k a, .int k' b => bif kEq k k' then some (.bool (decide (a ≤ b))) else none
  | .gtr, .int k a, .int k' b => bif kEq k k' then some (.bool (decide (a > b))) else none
  | .geq, .int k a, .int k' b => bif kEq k k' then some (.bool (decide (a ≥ b))) else none
  | .eql, x, y => match eqv st et x y with
    | some b => some (.bool b)
    | none => none
  | .neq, x, y => match eqv st et x y with
    | some b => some (.bool (!b))
    | none => none
  | _, _, _ => none

/-- Operations that ask nothing and change no block. -/
def sop (ρ : Env) (σ : Store) : AOp → Option V
  | .mov x => fz (ev ρ x)
  | .pick c a b => match ev ρ c with
    | .bool true => fz (ev ρ a)
    | .bool false => fz (ev ρ b)
    | _ => none
  | .bin op st et x y => binv op st et (ev ρ x) (ev ρ y)
  | .not x => match ev ρ x with
    | .bool t => some (.bool (!t))
    | _ => none
  | .len s x => match s, ev ρ x with
    | false, .sl _ rows => some (.int .i64 rows.length)
    | false, .msl nm gen _ n => match σ nm with
      | .arr gen' _ => bif Nat.beq gen gen' then some (.int .i64 n) else none
      | _ => none
    | true, .str s => some (.int .i64 s.length)
    | _, _ => none
  | .build zero parts => match partsOf ρ zero parts with
    | some l => match fzL l with
      | some l' => some (.agg l')
      | none => none
    | none => none
  | .bsl size xs => match fzL (xs.map (ev ρ)) with
    | some l => bif l.all (fun v => pureB v && rowB v && Nat.beq v.cells.length size) then some (.sl .p l) else none
    | none => none
  | .load agg size a => match ev ρ a with
    | .bptr nm j => match σ nm with
      | .box row => fzA (ldrow agg size j row)
      | _ => none
    | .cptr _ row j => fzA (ldrow agg size j row)
    | _ => none
  | .faddr off x => match ev ρ x with
    | .bptr nm j => match σ nm with
      | .box _ => some (.bptr nm (j + off))
      | _ => none
    | .ptr nm gen i j => match σ nm with
      | .arr gen' _ => bif Nat.beq gen gen' then some (.ptr nm gen i (j + off)) else none
      | _ => none
    | .cptr t row j => some (.cptr t row (j + off))
    | _ => none
  | .field agg size off x => match ev ρ x with
    | .agg l => fzA (ldrow agg size off (.agg l))
    | _ => none
  | .extract x i => match ev ρ x with
    | .tup l => fzA l[i]?
    | _ => none
  | .cut0 x => match ev ρ x with
    | .sl _ _ => some (.sl .nil [])
    | _ => none
  | .mkfn f caps => match fzL (caps.map (ev ρ)) with
    | some l => some (.fn f l)
    | none => none
  | .nilck x => match ev ρ x with
    | .bptr nm j => match σ nm with
      | .box _ => some (.bptr nm j)
      | _ => none
    | .cptr t row j => some (.cptr t row j)
    | .fn f caps => some (.fn f caps)
    | .rnd => some .rnd
    | _ => none
  | _ => none

/-- Writing into a box: its name, and what it holds then. -/
def bsto (ρ : Env) (σ : Store) (size : Nat) (a x : Opd) : Option (Nat × V) := match ev ρ a with
  | .bptr nm j => match σ nm with
    | .box row => match fzA (strow size j row (ev ρ x)) with
      | some r => some (nm, r)
      | none => none
    | _ => none
  | _ => none
def boxv (ρ : Env) (size : Nat) (x : Opd) : Option V := match fz (ev ρ x) with
  | some v => bif rowB v && Nat.beq size v.cells.length then some v else none
  | none => none
/-- A contract, closed to unification. -/
structure Fc (P : Program) (f : Nat) (args : List V) (r : V) : Prop where
  out : Fn P f args r
structure Cc {G : Type} (P : Program) (H : HT G) (f : Nat) (args : List V) (pn : List Nat) (σ : Store) (g : G) (K : V → Store → G → Prop) : Prop where
  out : CT P H f args pn σ g K
/-- Who is called, with which arguments. -/
def calv (ρ : Env) (f : Opd) (args : List Opd) : Option (Nat × List V) := match ev ρ f with
  | .fn fid caps => match fzL (args.map (ev ρ)) with
    | some as => some (fid, as ++ caps)
    | none => none
  | _ => none

section
variable {G : Type} {P : Program} {H : HT G} {pn : List Nat} {Q : Exit → Env → Store → G → Prop} {fs : List (Frm G)} {ρ : Env} {σ : Store} {g : G} {r : List GItem} {d : Nat} {dst : Option Nat} {a b : Cmd} {v : V} {o : AOp}

/- commands -/
theorem c_seq (h : WC P H pn Q (.seq b :: fs) a ρ σ g) : WC P H pn Q fs (.seq a b) ρ σ g := ⟨by
  have := h.out
  simp only [AW]
  refine cast (congrArg (AW P H pn a ρ σ g) ?_) this
  funext e ρ' σ' g'
  cases e <;> rfl⟩
theorem c_skip (h : WE P H pn Q fs .normal ρ σ g) : WC P H pn Q fs .skip ρ σ g := ⟨h.out⟩
theorem c_ops {l : List GItem} (h : WI P H pn Q fs l ρ σ g) : WC P H pn Q fs (.ops l) ρ σ g := ⟨h.out⟩
theorem c_leaf {l : List GItem} {r : List Nat} (h : WI P H pn Q fs (pickAll l r) ρ σ g) : WC P H pn Q fs (.opsT (.leaf r) l) ρ σ g := ⟨h.out⟩
theorem c_node {l : List GItem} {i j : Nat} {x y : OT} (h : WC P H pn Q fs (.opsT x l) ρ σ g) (k : WC P H pn Q fs (.opsT y l) ρ σ g) : WC P H pn Q fs (.opsT (.node i j x y) l) ρ σ g := ⟨⟨h.out, k.out⟩⟩
theorem c_cond {x : Opd} {t : Bool} (hx : ev ρ x = .bool t) (h1 : t = true → WC P H pn Q fs a ρ σ g) (h2 : t = false → WC P H pn Q fs b ρ σ g) : WC P H pn Q fs (.cond x a b) ρ σ g := ⟨by
  simp only [AW, hx]
  exact splitB_intro (fun h => (h1 h).out) (fun h => (h2 h).out)⟩
theorem c_t {x : Opd} (hx : ev ρ x = .bool true) (h : WC P H pn Q fs a ρ σ g) : WC P H pn Q fs (.cond x a b) ρ σ g := c_cond hx (fun _ => h) (fun e => by cases e)
theorem c_f {x : Opd} (hx : ev ρ x = .bool false) (h : WC P H pn Q fs b ρ σ g) : WC P H pn Q fs (.cond x a b) ρ σ g := c_cond hx (fun e => by cases e) (fun _ => h)
theorem c_block {id : Nat} (h : WC P H pn Q (.block id :: fs) a ρ σ g) : WC P H pn Q fs (.block id a) ρ σ g := ⟨by
  have := h.out
  simp only [AW]
  refine cast (congrArg (AW P H pn a ρ σ g) ?_) this
  funext e ρ' σ' g'
  cases e <;> rfl⟩
theorem c_exit {id : Nat} (h : WE P H pn Q fs (.exit id) ρ σ g) : WC P H pn Q fs (.exit id) ρ σ g := ⟨h.out⟩
theorem c_ret (h : WE P H pn Q fs .ret ρ σ g) : WC P H pn Q fs .ret ρ σ g := ⟨h.out⟩
theorem c_fzb {t j nm bn k : Nat} {l0 rows : List V} (ht : ρ t = .bptr bn 0) (hb : σ bn = .box (.agg l0)) (hj : l0[j]? = some (.sl (.own nm) rows)) (hu : σ nm = .vec k) (h : WC P H pn Q fs a ρ (ups (ups σ nm .dead) bn (.box (.agg (l0.set j (.sl .p rows))))) g) : WC P H pn Q fs (.fzb t j a) ρ σ g := ⟨by
  simp only [AW, ht, hb, hj, hu]
  exact h.out⟩
theorem c_nvb {t j nm bn : Nat} {l0 : List V} (ht : ρ t = .bptr bn 0) (hb : σ bn = .box (.agg l0)) (hu : σ nm = .unused) (hj : l0[j]? = some (.sl .nil [])) (h : WC P H pn Q fs a ρ (ups (ups σ nm (.vec 0)) bn (.box (.agg (l0.set j (.sl (.own nm) []))))) g) : WC P H pn Q fs (.nvb t j nm a) ρ σ g := ⟨by
  simp only [AW, ht, hu, hb, hj]
  exact h.out⟩
theorem c_nvs {t nm bn : Nat} (ht : ρ t = .bptr bn 0) (hb : σ bn = .box (.sl .nil [])) (hu : σ nm = .unused) (h : WC P H pn Q fs a ρ (ups (ups σ nm (.vec 0)) bn (.box (.sl (.own nm) []))) g) : WC P H pn Q fs (.nvs t nm a) ρ σ g := ⟨by
  simp only [AW, ht, hu, hb]
  exact h.out⟩
theorem c_cut0 (h : WC P H pn Q fs a ρ σ g) : WC P H pn Q fs (.cut a) ρ σ g := ⟨.inl h.out⟩
theorem c_cut (E : List (Nat × V)) (Sg : List (Nat × Blk)) (hf : Fits pn E Sg ρ σ) (h : WC P H pn Q fs a (envOf E) (stOf Sg) g) : WC P H pn Q fs (.cut a) ρ σ g := ⟨.inr ⟨E, Sg, hf, h.out⟩⟩
theorem c_loop {ι : Type} (E : ι → List (Nat × V)) (Sg : ι → List (Nat × Blk)) (gi : ι → G) (inv : ι → Prop) (μ : ι → Nat) (i0 : ι) (h0 : inv i0) (hf : Fits pn (E i0) (Sg i0) ρ σ) (hg : gi i0 = g)
    (hs : ∀ i, inv i → WC P H pn Q (.loop (fun ρ' σ' g' => ∃ i', inv i' ∧ Fits pn (E i') (Sg i') ρ' σ' ∧ gi i' = g' ∧ μ i' < μ i) :: fs) a (envOf (E i)) (stOf (Sg i)) (gi i)) : WC P H pn Q fs (.loop a) ρ σ g := ⟨by
  simp only [AW]
  refine ⟨ι, E, Sg, gi, inv, μ, ⟨i0, h0, hf, hg⟩, fun i hi => ?_⟩
  have := (hs i hi).out
  refine cast (congrArg (AW P H pn a _ _ _) ?_) this
  funext e ρ' σ' g'
  cases e <;> rfl⟩
/-- What comes behind is said by R. -/
theorem c_join (hM : MonoH H) (R : Exit → Env → Store → G → Prop) (h : WC P H pn R [] a ρ σ g) (k : ∀ e ρ' σ' g', R e ρ' σ' g' → WE P H pn Q fs e ρ' σ' g') : WC P H pn Q fs a ρ σ g :=
  ⟨AW_mono hM a pn ρ σ g _ _ (fun e ρ' σ' g' h => (k e ρ' σ' g' h).out) h.out⟩
theorem i_join {l : List GItem} (hM : MonoH H) (R : Env → Store → G → Prop) (h : WI P H pn (fun _ => R) [] l ρ σ g) (k : ∀ ρ' σ' g', R ρ' σ' g' → WE P H pn Q fs .normal ρ' σ' g') : WI P H pn Q fs l ρ σ g :=
  ⟨AWits_mono hM (fun ρ' σ' g' h => (k ρ' σ' g' h).out) h.out⟩

/- exits -/
theorem e_seq (h : WC P H pn Q fs b ρ σ g) : WE P H pn Q (.seq b :: fs) .normal ρ σ g := ⟨h.out⟩
theorem e_block {id : Nat} (h : WE P H pn Q fs .normal ρ σ g) : WE P H pn Q (.block id :: fs) .normal ρ σ g := ⟨h.out⟩
theorem e_loop {N : Env → Store → G → Prop} (h : N ρ σ g) : WE P H pn Q (.loop N :: fs) .normal ρ σ g := ⟨h⟩
theorem e_end {e : Exit} (h : Q e ρ σ g) : WE P H pn Q [] e ρ σ g := ⟨h⟩
theorem e_ret (h : Q .ret ρ σ g) : WE P H pn Q fs .ret ρ σ g := ⟨by
  induction fs with
  | nil => exact h
  | cons f fs ih => cases f <;> exact ih⟩
def popTo (id : Nat) : List (Frm G) → List (Frm G)
  | [] => []
  | .block id' :: fs => bif Nat.beq id id' then fs else popTo id fs
  | _ :: fs => popTo id fs
def hasBlk (id : Nat) : List (Frm G) → Bool
  | [] => false
  | .block id' :: fs => bif Nat.beq id id' then true else hasBlk id fs
  | _ :: fs => hasBlk id fs
theorem e_exit {id : Nat} (h0 : hasBlk id fs = true) (h : WE P H pn Q (popTo id fs) .normal ρ σ g) : WE P H pn Q fs (.exit id) ρ σ g := ⟨by
  obtain ⟨h⟩ := h
  induction fs with
  | nil => cases h0
  | cons f fs ih =>
    cases f with
    | seq b => exact ih h0 h
    | loop N => exact ih h0 h
    | block id' =>
      simp only [hasBlk, popTo] at h0 h
      simp only [kont]
      cases hb : Nat.beq id id' with
      | true => rw [hb] at h; exact h
      | false => rw [hb] at h h0; exact ih h0 h⟩

/- operations -/
theorem i_nil (h : WE P H pn Q fs .normal ρ σ g) : WI P H pn Q fs [] ρ σ g := ⟨h.out⟩
theorem sop_ok {K : V → Store → G → Prop} (h : sop ρ σ o = some v) (k : K v σ g) : AWop P H ρ σ g o K := by
  cases o with
  | mov x => simp only [sop] at h; simp only [AWop]; rw [← fz_eq h]; exact k
  | pick c x y =>
    simp only [sop] at h; simp only [AWop]
    split at h
    · rename_i e; rw [e]; simp only [cond_true]; rw [← fz_eq h]; exact k
    · rename_i e; rw [e]; simp only [cond_false]; rw [← fz_eq h]; exact k
    · cases h
  | bin op st et x y =>
    simp only [sop] at h; simp only [AWop]
    revert h
    generalize ev ρ x = x
    generalize ev ρ y = y
    intro h
    unfold binv at h
    split at h
    · cases hk : kEq _ _ with
      | true => rw [hk] at h; cases h; simp only [abin, hk, cond_true]; exact k
      | false => rw [hk] at h; cases h
    · cases hk : kEq _ _ with
      | true => rw [hk] at h; cases h; simp only [abin, hk, cond_true]; exact k
      | false => rw [hk] at h; cases h
    · cases hk : kEq _ _ with
      | true => rw [hk] at h; cases h; simp only [abin, hk, cond_true]; exact k
      | false => rw [hk] at h; cases h
    · cases hk : kEq _ _ with
      | true => rw [hk] at h; cases h; simp only [abin, hk, cond_true]; exact k
      | false => rw [hk] at h; cases h
    · split at h
      · rename_i e; cases h; simp only [abin, e]; exact k
      · cases h
    · split at h
      · rename_i e; cases h; simp only [abin, e]; exact k
      · cases h
    · cases h
  | not x =>
    simp only [sop] at h; simp only [AWop]
    split at h
    · rename_i e; cases h; rw [e]; exact k
    · cases h
  | len s x =>
    simp only [sop] at h; simp only [AWop]
    split at h
    · rename_i e; cases h; rw [e]; exact k
    · rename_i nm gen i n e
      split at h
      · rename_i gen' rows e2
        cases hb : Nat.beq gen gen' with
        | true => rw [hb] at h; cases h; rw [e]; simp only [e2]; exact ⟨Nat.eq_of_beq_eq_true hb, k⟩
        | false => rw [hb] at h; cases h
      · cases h
    · rename_i e; cases h; rw [e]; exact k
    · cases h
  | build zero parts =>
    simp only [sop] at h; simp only [AWop]
    split at h
    · rename_i l e
      rw [e]
      split at h
      · rename_i l' e2; cases h; rw [← fzL_eq e2]; exact k
      · cases h
    · cases h
  | bsl size xs =>
    simp only [sop] at h; simp only [AWop]
    split at h
    · rename_i l e
      rw [← fzL_eq e]
      cases hb : l.all (fun v => pureB v && rowB v && Nat.beq v.cells.length size) with
      | true => rw [hb] at h; cases h; exact ⟨rfl, k⟩
      | false => rw [hb] at h; cases h
    · cases h
  | load agg size x =>
    simp only [sop] at h; simp only [AWop]
    split at h
    · rename_i e
      split at h
      · rename_i e2; rw [e]; simp only [e2]; rw [fzA_eq h]; exact k
      · cases h
    · rename_i e; rw [e]; simp only; rw [fzA_eq h]; exact k
    · cases h
  | faddr off x =>
    simp only [sop] at h; simp only [AWop]
    split at h
    · rename_i e
      split at h
      · rename_i e2; cases h; rw [e]; simp only [e2]; exact k
      · cases h
    · rename_i nm gen i j e
      split at h
      · rename_i gen' rows e2
        cases hb : Nat.beq gen gen' with
        | true => rw [hb] at h; cases h; rw [e]; simp only [e2]; exact ⟨Nat.eq_of_beq_eq_true hb, k⟩
        | false => rw [hb] at h; cases h
      · cases h
    · rename_i e; cases h; rw [e]; exact k
    · cases h
  | field agg size off x =>
    simp only [sop] at h; simp only [AWop]
    split at h
    · rename_i e; rw [e]; simp only; rw [fzA_eq h]; exact k
    · cases h
  | extract x i =>
    simp only [sop] at h; simp only [AWop]
    split at h
    · rename_i e; rw [e]; simp only; rw [fzA_eq h]; exact k
    · cases h
  | cut0 x =>
    simp only [sop] at h; simp only [AWop]
    split at h
    · rename_i e; cases h; rw [e]; exact k
    · cases h
  | mkfn f caps =>
    simp only [sop] at h; simp only [AWop]
    split at h
    · rename_i l e; cases h; rw [← fzL_eq e]; exact k
    · cases h
  | nilck x =>
    simp only [sop] at h; simp only [AWop]
    split at h
    · rename_i e
      split at h
      · rename_i e2; cases h; rw [e]; simp only [e2]; exact k
      · cases h
    · rename_i e; cases h; rw [e]; exact k
    · rename_i e; cases h; rw [e]; exact k
    · rename_i e; cases h; rw [e]; exact k
    · cases h
  | _ => cases h

theorem i_out (h : AWop P H ρ σ g o fun v σ' g' => AWits P H r (put ρ dst v) σ' g' (kont P H pn Q fs .normal)) : WI P H pn Q fs (.op dst none o :: r) ρ σ g := ⟨by
  show AWop P H ρ σ g o fun v σ' g' => force v fun v => AWits P H r (put ρ dst v) σ' g' _
  simp only [force_eq]
  exact h⟩

/-- AN OPERATION THAT ASKS NOTHING. -/
theorem i_s (h : sop ρ σ o = some v) (k : WI P H pn Q fs r (upd ρ d v) σ g) : WI P H pn Q fs (.op (some d) none o :: r) ρ σ g := i_out (sop_ok h k.out)
theorem i_s0 (h : sop ρ σ o = some v) (k : WI P H pn Q fs r ρ σ g) : WI P H pn Q fs (.op none none o :: r) ρ σ g := i_out (sop_ok h k.out)

/- guards -/
theorem i_gt {s : Nat} {want : Bool} (hs : ρ s = .bool want) (h : WI P H pn Q fs (.op dst none o :: r) (upd ρ s (.bool want)) σ g) : WI P H pn Q fs (.op dst (some (s, want)) o :: r) ρ σ g := ⟨by
  simp only [AWits, AWit, hs]
  exact splitB_intro (fun _ => h.out) (fun e => by cases want <;> cases e)⟩
theorem i_gf {s : Nat} {want : Bool} (hs : ρ s = .bool (!want)) (h : WI P H pn Q fs r (put (upd ρ s (.bool (!want))) dst (.tup [])) σ g) : WI P H pn Q fs (.op dst (some (s, want)) o :: r) ρ σ g := ⟨by
  simp only [AWits, AWit, hs]
  exact splitB_intro (fun e => by cases want <;> cases e) (fun _ => h.out)⟩
theorem i_gd {s : Nat} {want : Bool} (hs : ρ s = .tup []) (h : WI P H pn Q fs r (put ρ dst (.tup [])) σ g) : WI P H pn Q fs (.op dst (some (s, want)) o :: r) ρ σ g := ⟨by
  simp only [AWits, AWit, hs]
  exact h.out⟩
theorem i_g {s : Nat} {want b : Bool} (hs : ρ s = .bool b) (h1 : b = want → WI P H pn Q fs (.op dst none o :: r) (upd ρ s (.bool want)) σ g) (h2 : b = (!want) → WI P H pn Q fs r (put (upd ρ s (.bool (!want))) dst (.tup [])) σ g) : WI P H pn Q fs (.op dst (some (s, want)) o :: r) ρ σ g := ⟨by
  simp only [AWits, AWit, hs]
  exact splitB_intro (fun e => (h1 e).out) (fun e => (h2 e).out)⟩

/- arithmetic -/
theorem kEq_refl {k : IntKind} {n : Int} (h : InR k n) : kEq k k = true := by cases k <;> first | rfl | exact h.elim
theorem kEq_iff {k k' : IntKind} (h : kEq k k' = true) : k = k' := by cases k <;> cases k' <;> first | rfl | cases h
theorem i_add {k : IntKind} {m n : Int} {st : Bool} {et : List LT} {x y : Opd} (hx : ev ρ x = .int k m) (hy : ev ρ y = .int k n) (hr : InR k (m + n)) (h : WI P H pn Q fs r (upd ρ d (.int k (m + n))) σ g) :
    WI P H pn Q fs (.op (some d) none (.bin .add st et x y) :: r) ρ σ g := i_out (by
  simp only [AWop, hx, hy, abin, kEq_refl hr, cond_true]
  rw [wrap_id hr]; exact h.out)
theorem i_sub {k : IntKind} {m n : Int} {st : Bool} {et : List LT} {x y : Opd} (hx : ev ρ x = .int k m) (hy : ev ρ y = .int k n) (hr : InR k (m - n)) (h : WI P H pn Q fs r (upd ρ d (.int k (m - n))) σ g) :
    WI P H pn Q fs (.op (some d) none (.bin .sub st et x y) :: r) ρ σ g := i_out (by
  simp only [AWop, hx, hy, abin, kEq_refl hr, cond_true]
  rw [wrap_id hr]; exact h.out)
theorem i_mul {k : IntKind} {m n : Int} {st : Bool} {et : List LT} {x y : Opd} (hx : ev ρ x = .int k m) (hy : ev ρ y = .int k n) (hr : InR k (m * n)) (h : WI P H pn Q fs r (upd ρ d (.int k (m * n))) σ g) :
    WI P H pn Q fs (.op (some d) none (.bin .mul st et x y) :: r) ρ σ g := i_out (by
  simp only [AWop, hx, hy, abin, kEq_refl hr, cond_true]
  rw [wrap_id hr]; exact h.out)
theorem i_quo {k : IntKind} {m n : Int} {st : Bool} {et : List LT} {x y : Opd} (hx : ev ρ x = .int k m) (hy : ev ρ y = .int k n) (hn : n ≠ 0) (hr : InR k (m.tdiv n)) (h : WI P H pn Q fs r (upd ρ d (.int k (m.tdiv n))) σ g) :
    WI P H pn Q fs (.op (some d) none (.bin .quo st et x y) :: r) ρ σ g := i_out (by
  simp only [AWop, hx, hy, abin, kEq_refl hr, cond_true]
  exact ⟨hn, hr, h.out⟩)
theorem i_rem {k : IntKind} {m n : Int} {st : Bool} {et : List LT} {x y : Opd} (hk : kEq k k = true) (hx : ev ρ x = .int k m) (hy : ev ρ y = .int k n) (hn : n ≠ 0) (h : WI P H pn Q fs r (upd ρ d (.int k (m.tmod n))) σ g) :
    WI P H pn Q fs (.op (some d) none (.bin .rem st et x y) :: r) ρ σ g := i_out (by
  simp only [AWop, hx, hy, abin, hk, cond_true]
  exact ⟨hn, h.out⟩)
theorem i_cat {s t : List UInt8} {st : Bool} {et : List LT} {x y : Opd} (hx : ev ρ x = .str s) (hy : ev ρ y = .str t) (hl : s.length + t.length ≤ 9223372036854775807) (h : WI P H pn Q fs r (upd ρ d (.str (s ++ t))) σ g) :
    WI P H pn Q fs (.op (some d) none (.bin .add st et x y) :: r) ρ σ g := i_out (by
  simp only [AWop, hx, hy, abin]
  exact ⟨hl, h.out⟩)
theorem i_conv {k k' : IntKind} {n : Int} {x : Opd} (hx : ev ρ x = .int k' n) (hr : InR k n) (h : WI P H pn Q fs r (upd ρ d (.int k n)) σ g) : WI P H pn Q fs (.op (some d) none (.conv k x) :: r) ρ σ g := i_out (by
  simp only [AWop, hx]
  exact ⟨hr, h.out⟩)

/- places -/
theorem i_ia {size : Nat} {t : Tag} {rows : List V} {kk : IntKind} {n : Int} {row : V} {x i : Opd} (hx : ev ρ x = .sl t rows) (hi : ev ρ i = .int kk n) (h0 : 0 ≤ n) (hr : rows[n.toNat]? = some row) (hw : Nat.beq size row.cells.length = true)
    (h : WI P H pn Q fs r (upd ρ d (.cptr t row 0)) σ g) : WI P H pn Q fs (.op (some d) none (.iaddr size x i) :: r) ρ σ g := i_out (by
  simp only [AWop, hx, hi]
  exact ⟨h0, row, hr, hw, h.out⟩)
theorem i_iam {α : Type} {f : α → V} {l : List α} {size : Nat} {t : Tag} {kk : IntKind} {k : Nat} {c : α} {x i : Opd} (hx : ev ρ x = .sl t (l.map f)) (hi : ev ρ i = .int kk (k : Int)) (hr : l[k]? = some c) (hw : Nat.beq size (f c).cells.length = true)
    (h : WI P H pn Q fs r (upd ρ d (.cptr t (f c) 0)) σ g) : WI P H pn Q fs (.op (some d) none (.iaddr size x i) :: r) ρ σ g :=
  i_ia hx hi (by omega) (by simp [hr]) hw h
theorem i_ima {size : Nat} {nm gen i len gen' : Nat} {rows : List V} {kk : IntKind} {n : Int} {x y : Opd} (hx : ev ρ x = .msl nm gen i len) (hi : ev ρ y = .int kk n) (hs : σ nm = .arr gen' rows) (hg : gen = gen') (h0 : 0 ≤ n) (h1 : n < len) (hw : Nat.beq (wd nm) size = true)
    (h : WI P H pn Q fs r (upd ρ d (.ptr nm gen (i + n.toNat) 0)) σ g) : WI P H pn Q fs (.op (some d) none (.iaddr size x y) :: r) ρ σ g := i_out (by
  simp only [AWop, hx, hi, hs]
  exact ⟨hg, h0, h1, hw, h.out⟩)
theorem i_ix {s : List UInt8} {kk : IntKind} {n : Int} {c : UInt8} {x i : Opd} (hx : ev ρ x = .str s) (hi : ev ρ i = .int kk n) (h0 : 0 ≤ n) (hc : s[n.toNat]? = some c) (h : WI P H pn Q fs r (upd ρ d (.int .u8 c.toNat)) σ g) :
    WI P H pn Q fs (.op (some d) none (.index x i) :: r) ρ σ g := i_out (by
  simp only [AWop, hx, hi]
  exact ⟨h0, c, hc, h.out⟩)
theorem i_ixm {s : List UInt8} {kk : IntKind} {k : Nat} {c : UInt8} {x i : Opd} (hx : ev ρ x = .str s) (hi : ev ρ i = .int kk (k : Int)) (hc : s[k]? = some c) (h : WI P H pn Q fs r (upd ρ d (.int .u8 c.toNat)) σ g) :
    WI P H pn Q fs (.op (some d) none (.index x i) :: r) ρ σ g := i_ix hx hi (by omega) (by simpa using hc) h
theorem i_ldp {agg : Bool} {size nm gen i j gen' : Nat} {rows : List V} {row : V} {x : Opd} (hx : ev ρ x = .ptr nm gen i j) (hs : σ nm = .arr gen' rows) (hg : gen = gen') (hr : rows[i]? = some row) (hl : fzA (ldrow agg size j row) = some v)
    (h : WI P H pn Q fs r (upd ρ d v) σ g) : WI P H pn Q fs (.op (some d) none (.load agg size x) :: r) ρ σ g := i_out (by
  simp only [AWop, hx, hs]
  refine ⟨hg, row, hr, ?_⟩
  rw [fzA_eq hl]
  exact h.out)
theorem i_stp {size nm gen i j gen' : Nat} {rows : List V} {row row' : V} {x y : Opd} (hx : ev ρ x = .ptr nm gen i j) (hs : σ nm = .arr gen' rows) (hg : gen = gen') (hr : rows[i]? = some row) (hp : pureB (ev ρ y) = true) (hl : fzA (strow size j row (ev ρ y)) = some row')
    (h : WI P H pn Q fs r (put ρ dst (.tup [])) (ups σ nm (.arr gen (rows.set i row'))) g) : WI P H pn Q fs (.op dst none (.store size x y) :: r) ρ σ g := i_out (by
  simp only [AWop, hx, hs]
  refine ⟨hg, hp, row, hr, ?_⟩
  rw [fzA_eq hl]
  exact h.out)
theorem i_stb {size nm : Nat} {row : V} {x y : Opd} (hx : bsto ρ σ size x y = some (nm, row)) (h : WI P H pn Q fs r (put ρ dst (.tup [])) (ups σ nm (.box row)) g) : WI P H pn Q fs (.op dst none (.store size x y) :: r) ρ σ g := i_out (by
  unfold bsto at hx
  split at hx
  · rename_i e
    split at hx
    · rename_i e2
      split at hx
      · rename_i e3
        cases hx
        simp only [AWop, e, e2, fzA_eq e3]
        exact h.out
      · cases hx
    · cases hx
  · cases hx)
theorem i_alloc {nm : Nat} {z : V} (hs : σ nm = .unused) (h : WI P H pn Q fs r (upd ρ d (.bptr nm 0)) (ups σ nm (.box z)) g) : WI P H pn Q fs (.op (some d) none (.alloc nm z) :: r) ρ σ g := i_out (by
  simp only [AWop, hs]
  exact h.out)
theorem i_box {nm size : Nat} {x : Opd} (hs : σ nm = .unused) (hx : boxv ρ size x = some v) (h : WI P H pn Q fs r (upd ρ d (.bptr nm 0)) (ups σ nm (.box v)) g) : WI P H pn Q fs (.op (some d) none (.box nm size x) :: r) ρ σ g := i_out (by
  unfold boxv at hx
  split at hx
  · rename_i v' e
    cases fz_eq e
    cases hb : rowB (ev ρ x) && Nat.beq size (ev ρ x).cells.length with
    | true =>
      rw [hb] at hx; cases hx
      simp only [AWop, hs, hb, cond_true]
      exact h.out
    | false => rw [hb] at hx; cases hx
  · cases hx)
theorem i_nv {nm : Nat} (hs : σ nm = .unused) (h : WI P H pn Q fs r (upd ρ d (.sl (.own nm) [])) (ups σ nm (.vec 0)) g) : WI P H pn Q fs (.op (some d) none (.newVec nm) :: r) ρ σ g := i_out (by
  simp only [AWop, hs]
  exact h.out)
theorem i_na {nm : Nat} (hs : σ nm = .unused) (h : WI P H pn Q fs r (upd ρ d (.msl nm 0 0 0)) (ups σ nm (.arr 0 [])) g) : WI P H pn Q fs (.op (some d) none (.newArr nm) :: r) ρ σ g := i_out (by
  simp only [AWop, hs]
  exact h.out)
theorem i_bslo {nm size : Nat} {xs : List Opd} {l : List V} (hs : σ nm = .unused) (hw : (Nat.beq (wd nm) size && Nat.beq (nm / 1099511627776) 0) = true) (hl : fzL (xs.map (ev ρ)) = some l) (hp : l.all (fun v => pureB v && rowB v && Nat.beq v.cells.length size) = true)
    (h : WI P H pn Q fs r (upd ρ d (.sl (.own nm) l)) (ups σ nm (.vec xs.length)) g) : WI P H pn Q fs (.op (some d) none (.bslO nm size xs) :: r) ρ σ g := i_out (by
  cases fzL_eq hl
  simp only [AWop, hs]
  exact ⟨hw, hp, h.out⟩)
/- slices that grow -/
theorem i_app {size bytes et nm k : Nat} {rows xs : List V} {t : Tag} {x y : Opd} (hx : ev ρ x = .sl (.own nm) rows) (hy : ev ρ y = .sl t xs) (hs : σ nm = .vec k) (hk : rows.length = k) (hw : (Nat.beq (wd nm) size && tyOkB nm et) = true)
    (hc : ∀ row ∈ xs, row.cells.length = size ∧ row.cells.all leafB = true) (h1 : (k + xs.length) * bytes ≤ 140737488355328) (h2 : k + xs.length ≤ 140737488355328)
    (h : WI P H pn Q fs r (upd ρ d (.sl (.own nm) (rows ++ xs))) (ups σ nm (.vec (k + xs.length))) g) : WI P H pn Q fs (.op (some d) none (.append size bytes et x y) :: r) ρ σ g := i_out (by
  simp only [AWop, hx, hy, srcR, hs]
  exact ⟨hk, hw, hc, h1, h2, h.out⟩)
theorem i_app1 {size bytes et nm k : Nat} {rows : List V} {row : V} {t : Tag} {x y : Opd} (hx : ev ρ x = .sl (.own nm) rows) (hy : ev ρ y = .sl t [row]) (hs : σ nm = .vec k) (hk : rows.length = k) (hw : ((Nat.beq (wd nm) size && tyOkB nm et) && (Nat.beq row.cells.length size && row.cells.all leafB)) = true)
    (h1 : (k + 1) * bytes ≤ 140737488355328) (h2 : k + 1 ≤ 140737488355328)
    (h : WI P H pn Q fs r (upd ρ d (.sl (.own nm) (rows ++ [row]))) (ups σ nm (.vec (k + 1))) g) : WI P H pn Q fs (.op (some d) none (.append size bytes et x y) :: r) ρ σ g := by
  simp only [Bool.and_eq_true] at hw
  exact i_app hx hy hs hk (by rw [Bool.and_eq_true]; exact hw.1) (fun row' hm => by
    rw [List.mem_singleton.1 hm]
    exact ⟨Nat.eq_of_beq_eq_true hw.2.1, hw.2.2⟩) h1 h2 h
theorem i_appm {size bytes et nm gen len gen' : Nat} {rows xs : List V} {t : Tag} {x y : Opd} (hx : ev ρ x = .msl nm gen 0 len) (hy : ev ρ y = .sl t xs) (hs : σ nm = .arr gen' rows) (hg : gen = gen') (hw : Nat.beq (wd nm) size = true)
    (hc : ∀ row ∈ xs, row.cells.length = size ∧ row.cells.all leafB = true) (h1 : (len + xs.length) * bytes ≤ 140737488355328) (h2 : len + xs.length ≤ 140737488355328)
    (h : WI P H pn Q fs r (upd ρ d (.msl nm (gen + 1) 0 (len + xs.length))) (ups σ nm (.arr (gen + 1) (rows.take len ++ xs))) g) : WI P H pn Q fs (.op (some d) none (.append size bytes et x y) :: r) ρ σ g := i_out (by
  simp only [AWop, hx, hy, srcR, hs]
  exact ⟨hg, hw, hc, h1, h2, h.out⟩)
theorem i_appms {size bytes et nm gen len gen' nm2 gen2 gen2' i2 len2 : Nat} {rows rows2 : List V} {x y : Opd} (hx : ev ρ x = .msl nm gen 0 len) (hy : ev ρ y = .msl nm2 gen2 i2 len2) (hs : σ nm = .arr gen' rows) (hs2 : σ nm2 = .arr gen2' rows2) (hg : gen = gen') (hg2 : gen2 = gen2') (hw : Nat.beq (wd nm) size = true)
    (hc : ∀ row ∈ (rows2.drop i2).take len2, row.cells.length = size ∧ row.cells.all leafB = true) (h1 : (len + ((rows2.drop i2).take len2).length) * bytes ≤ 140737488355328) (h2 : len + ((rows2.drop i2).take len2).length ≤ 140737488355328)
    (h : WI P H pn Q fs r (upd ρ d (.msl nm (gen + 1) 0 (len + ((rows2.drop i2).take len2).length))) (ups σ nm (.arr (gen + 1) (rows.take len ++ (rows2.drop i2).take len2))) g) : WI P H pn Q fs (.op (some d) none (.append size bytes et x y) :: r) ρ σ g := i_out (by
  subst hg2
  have hb : Nat.beq gen2 gen2 = true := by simp
  simp only [AWop, hx, hy, srcR, hs, hs2, hb, cond_true]
  exact ⟨hg, hw, hc, h1, h2, h.out⟩)
theorem i_mks {nm size bytes : Nat} {z : V} {m n : Int} {x y : Opd} (hs : σ nm = .unused) (hx : ev ρ x = .int .i64 m) (hy : ev ρ y = .int .i64 n) (h0 : 0 ≤ m) (h1 : m ≤ n) (h2 : n * bytes ≤ 140737488355328) (h3 : n ≤ 140737488355328)
    (hw : (Nat.beq (wd nm) size && Nat.beq z.cells.length size) = true) (h : WI P H pn Q fs r (upd ρ d (.msl nm 0 0 m.toNat)) (ups σ nm (.arr 0 (List.replicate m.toNat z))) g) : WI P H pn Q fs (.op (some d) none (.mkSl nm size bytes z x y) :: r) ρ σ g := i_out (by
  simp only [Bool.and_eq_true] at hw
  simp only [AWop, hx, hy, hs]
  exact ⟨h0, h1, h2, h3, hw.1, hw.2, h.out⟩)
theorem i_mkv {nm size bytes : Nat} {n : Int} {x y : Opd} (hs : σ nm = .unused) (hx : ev ρ x = .int .i64 0) (hy : ev ρ y = .int .i64 n) (h0 : 0 ≤ n) (h2 : n * bytes ≤ 140737488355328) (h3 : n ≤ 140737488355328)
    (hw : Nat.beq (wd nm) size = true) (h : WI P H pn Q fs r (upd ρ d (.sl (.own nm) [])) (ups σ nm (.vec 0)) g) : WI P H pn Q fs (.op (some d) none (.mkVec nm size bytes x y) :: r) ρ σ g := i_out (by
  simp only [AWop, hx, hy, hs]
  exact ⟨trivial, h0, h2, h3, hw, h.out⟩)
/- parts -/
def loV (ρ : Env) (lo : Option Opd) : V := (lo.map (ev ρ)).getD (.int .i64 0)
theorem i_slh {size : Nat} {t : Tag} {rows : List V} {k1 k2 : IntKind} {m n : Int} {x : Opd} {lo : Option Opd} {hi : Opd} (hx : ev ρ x = .sl t rows) (hlo : loV ρ lo = .int k1 m) (hhi : ev ρ hi = .int k2 n) (h0 : 0 ≤ m) (h1 : m ≤ n) (h2 : n ≤ rows.length) (hw : m = 0 ∨ ∀ row ∈ rows, row.cells.length = size)
    (h : WI P H pn Q fs r (upd ρ d (.sl t ((rows.take n.toNat).drop m.toNat))) σ g) : WI P H pn Q fs (.op (some d) none (.slice false size x lo (some hi)) :: r) ρ σ g := i_out (by
  unfold loV at hlo
  simp only [AWop, hx, hlo, Option.map_some, hhi]
  exact ⟨h0, h1, h2, hw, h.out⟩)
theorem i_sl {size : Nat} {t : Tag} {rows : List V} {k1 : IntKind} {m : Int} {x : Opd} {lo : Option Opd} (hx : ev ρ x = .sl t rows) (hlo : loV ρ lo = .int k1 m) (h0 : 0 ≤ m) (h2 : m ≤ rows.length) (hw : m = 0 ∨ ∀ row ∈ rows, row.cells.length = size)
    (h : WI P H pn Q fs r (upd ρ d (.sl t (rows.drop m.toNat))) σ g) : WI P H pn Q fs (.op (some d) none (.slice false size x lo none) :: r) ρ σ g := i_out (by
  unfold loV at hlo
  simp only [AWop, hx, hlo, Option.map_none]
  exact ⟨h0, h2, hw, h.out⟩)
theorem i_ssh {size : Nat} {s : List UInt8} {k1 k2 : IntKind} {m n : Int} {x : Opd} {lo : Option Opd} {hi : Opd} (hx : ev ρ x = .str s) (hlo : loV ρ lo = .int k1 m) (hhi : ev ρ hi = .int k2 n) (h0 : 0 ≤ m) (h1 : m ≤ n) (h2 : n ≤ s.length)
    (h : WI P H pn Q fs r (upd ρ d (.str ((s.take n.toNat).drop m.toNat))) σ g) : WI P H pn Q fs (.op (some d) none (.slice true size x lo (some hi)) :: r) ρ σ g := i_out (by
  unfold loV at hlo
  simp only [AWop, hx, hlo, Option.map_some, hhi]
  exact ⟨h0, h1, h2, h.out⟩)
theorem i_ss {size : Nat} {s : List UInt8} {k1 : IntKind} {m : Int} {x : Opd} {lo : Option Opd} (hx : ev ρ x = .str s) (hlo : loV ρ lo = .int k1 m) (h0 : 0 ≤ m) (h2 : m ≤ s.length)
    (h : WI P H pn Q fs r (upd ρ d (.str (s.drop m.toNat))) σ g) : WI P H pn Q fs (.op (some d) none (.slice true size x lo none) :: r) ρ σ g := i_out (by
  unfold loV at hlo
  simp only [AWop, hx, hlo, Option.map_none]
  exact ⟨h0, h2, h.out⟩)
theorem i_smh {size nm gen i len gen' : Nat} {rows : List V} {k1 k2 : IntKind} {m n : Int} {x : Opd} {lo : Option Opd} {hi : Opd} (hx : ev ρ x = .msl nm gen i len) (hlo : loV ρ lo = .int k1 m) (hhi : ev ρ hi = .int k2 n) (hs : σ nm = .arr gen' rows) (hg : gen = gen') (h0 : 0 ≤ m) (h1 : m ≤ n) (h2 : n ≤ len) (hw : Nat.beq (wd nm) size = true)
    (h : WI P H pn Q fs r (upd ρ d (.msl nm gen (i + m.toNat) (n.toNat - m.toNat))) σ g) : WI P H pn Q fs (.op (some d) none (.slice false size x lo (some hi)) :: r) ρ σ g := i_out (by
  unfold loV at hlo
  simp only [AWop, hx, hlo, Option.map_some, hhi, hs]
  exact ⟨hg, h0, h1, h2, hw, h.out⟩)
theorem i_sm {size nm gen i len gen' : Nat} {rows : List V} {k1 : IntKind} {m : Int} {x : Opd} {lo : Option Opd} (hx : ev ρ x = .msl nm gen i len) (hlo : loV ρ lo = .int k1 m) (hs : σ nm = .arr gen' rows) (hg : gen = gen') (h0 : 0 ≤ m) (h2 : m ≤ len) (hw : Nat.beq (wd nm) size = true)
    (h : WI P H pn Q fs r (upd ρ d (.msl nm gen (i + m.toNat) (len - m.toNat))) σ g) : WI P H pn Q fs (.op (some d) none (.slice false size x lo none) :: r) ρ σ g := i_out (by
  unfold loV at hlo
  simp only [AWop, hx, hlo, Option.map_none, hs]
  exact ⟨hg, h0, h2, hw, h.out⟩)
theorem i_max {k : IntKind} {m n : Int} {x y : Opd} (hk : kEq k k = true) (hx : ev ρ x = .int k m) (hy : ev ρ y = .int k n) (h : WI P H pn Q fs r (upd ρ d (.int k (if n > m then n else m))) σ g) : WI P H pn Q fs (.op (some d) none (.max x y) :: r) ρ σ g := i_out (by
  simp only [AWop, hx, hy, hk, cond_true]
  exact h.out)
theorem i_bsla {nm size : Nat} {xs : List Opd} {l : List V} (hs : σ nm = .unused) (hw : Nat.beq (wd nm) size = true) (hl : fzL (xs.map (ev ρ)) = some l) (hp : l.all (fun v => pureB v && rowB v && Nat.beq v.cells.length size) = true)
    (h : WI P H pn Q fs r (upd ρ d (.msl nm 0 0 xs.length)) (ups σ nm (.arr 0 l)) g) : WI P H pn Q fs (.op (some d) none (.bslA nm size xs) :: r) ρ σ g := i_out (by
  cases fzL_eq hl
  simp only [AWop, hs]
  exact ⟨hw, hp, h.out⟩)
theorem i_clear {size bytes nm gen i len gen' : Nat} {zero : V} {rows : List V} {x : Opd} (hx : ev ρ x = .msl nm gen i len) (hs : σ nm = .arr gen' rows) (hg : gen = gen') (hw : (Nat.beq (wd nm) size && zero.cells.all leafB) = true)
    (h : WI P H pn Q fs r (put ρ dst (.tup [])) (ups σ nm (.arr gen (rows.take i ++ List.replicate len zero ++ rows.drop (i + len)))) g) : WI P H pn Q fs (.op dst none (.clear size bytes zero x) :: r) ρ σ g := i_out (by
  simp only [Bool.and_eq_true] at hw
  simp only [AWop, hx, hs]
  exact ⟨hg, hw.1, hw.2, h.out⟩)
theorem i_isnil {neg : Bool} {t : Tag} {rows : List V} {x : Opd} (hx : ev ρ x = .sl t rows) (h : ∀ b : Bool, (b = true → rows = []) → WI P H pn Q fs r (upd ρ d (.bool (b != neg))) σ g) : WI P H pn Q fs (.op (some d) none (.isnil neg x) :: r) ρ σ g := i_out (by
  simp only [AWop, hx]
  exact fun b hb => (h b hb).out)
/- calls -/
theorem i_f {f : Opd} {args : List Opd} {fid : Nat} {as as' : List V} {v : V} (hf : calv ρ f args = some (fid, as)) (ha : as.map (er σ 6) = as') (hc : Fc P fid as' v) (hp : (flatB v || pureL as) = true)
    (h : WI P H pn Q fs r (put ρ dst v) σ g) : WI P H pn Q fs (.op dst none (.call .f f args) :: r) ρ σ g := i_out (by
  unfold calv at hf
  split at hf
  · rename_i e
    split at hf
    · rename_i e2
      cases hf
      cases ha
      cases fzL_eq e2
      simp only [AWop, AWcall, e]
      exact ⟨v, hc.out, by rw [Bool.or_comm]; exact hp, h.out⟩
    · cases hf
  · cases hf)
theorem i_c {f : Opd} {args : List Opd} {fid : Nat} {as : List V} {ns : List Nat} (hf : calv ρ f args = some (fid, as)) (hcl : closedL ns as = true) (hcs : closedSt ns σ ns = true) {K : V → Store → G → Prop} (hc : Cc P H fid as ns (restr ns σ) g K)
    (h : ∀ v σ' g', K v σ' g' → WI P H pn Q fs r (put ρ dst v) (merge ns σ σ') g') : WI P H pn Q fs (.op dst none (.call (.s ns) f args) :: r) ρ σ g := i_out (by
  unfold calv at hf
  split at hf
  · rename_i e
    split at hf
    · rename_i e2
      cases hf
      cases fzL_eq e2
      simp only [AWop, AWcall, e]
      exact ⟨hcl, hcs, CT_mono (fun v σ' g' hk => (h v σ' g' hk).out) hc.out⟩
    · cases hf
  · cases hf)
/- freezing -/
theorem c_frzv {t nm k : Nat} {rows : List V} (ht : ρ t = .sl (.own nm) rows) (hs : σ nm = .vec k) (h : WE P H pn Q fs .normal (upd ρ t (.sl .p rows)) (ups σ nm .dead) g) : WC P H pn Q fs (.frz t) ρ σ g := ⟨by
  simp only [AW, AWit, ht, hs]
  exact h.out⟩
theorem c_frza {t nm gen i len gen' : Nat} {rows : List V} (ht : ρ t = .msl nm gen i len) (hs : σ nm = .arr gen' rows) (hg : gen = gen') (h : WE P H pn Q fs .normal (upd ρ t (.sl .p ((rows.drop i).take len))) (ups σ nm .dead) g) : WC P H pn Q fs (.frz t) ρ σ g := ⟨by
  simp only [AW, AWit, ht, hs]
  exact ⟨hg, h.out⟩⟩
theorem c_frzb {t nm j : Nat} {row : V} (ht : ρ t = .bptr nm j) (hs : σ nm = .box row) (hp : pureB row = true) (h : WE P H pn Q fs .normal (upd ρ t (.cptr .p row j)) (ups σ nm .dead) g) : WC P H pn Q fs (.frz t) ρ σ g := ⟨by
  simp only [AW, AWit, ht, hs]
  exact ⟨hp, h.out⟩⟩
theorem i_frzv {t nm k : Nat} {rows : List V} (ht : ρ t = .sl (.own nm) rows) (hs : σ nm = .vec k) (h : WI P H pn Q fs r (upd ρ t (.sl .p rows)) (ups σ nm .dead) g) : WI P H pn Q fs (.frz t :: r) ρ σ g := ⟨by
  simp only [AWits, AWit, ht, hs]
  exact h.out⟩
theorem i_frza {t nm gen i len gen' : Nat} {rows : List V} (ht : ρ t = .msl nm gen i len) (hs : σ nm = .arr gen' rows) (hg : gen = gen') (h : WI P H pn Q fs r (upd ρ t (.sl .p ((rows.drop i).take len))) (ups σ nm .dead) g) : WI P H pn Q fs (.frz t :: r) ρ σ g := ⟨by
  simp only [AWits, AWit, ht, hs]
  exact ⟨hg, h.out⟩⟩
end

/-- A CONTRACT BY STEPS. -/
theorem Fn.step {P : Program} {f n : Nat} {rs : List RVar} {c : Cmd} {args : List V} {r : V} (hmix : P.follows .mixedOrders = true) (hc : chkFn P f n rs c = true) (h : WC (G := Unit) P noH [] (fnPost rs r) [] c (env0 args) σ0 ()) : Fc P f args r :=
  ⟨Fn.intro hmix hc h.out⟩
theorem CT.step {G : Type} {P : Program} {H : HT G} {f n : Nat} {σ : Store} {g : G} {rs : List RVar} {c : Cmd} {args : List V} {K : V → Store → G → Prop} (pn : List Nat) (hmix : P.follows .mixedOrders = true) (hc : chkFn P f n rs c = true)
    (hpn : ∀ nm, σ nm ≠ .unused → nm ∈ pn) (h : MonoH H → WC P H pn (ctPost pn rs K) [] c (env0 args) σ g) : Cc P H f args pn σ g K :=
  ⟨CT.intro pn hmix hc hpn fun hM => (h hM).out⟩
end Hm
end

section
/- Stepping, second part: counting loops; places. -/
namespace Hm
set_option linter.unusedVariables false
set_option linter.unusedSimpArgs false
open Go
section
variable {G : Type} {P : Program} {H : HT G} {pn : List Nat} {Q : Exit → Env → Store → G → Prop} {fs : List (Frm G)} {ρ : Env} {σ : Store} {g : G} {r : List GItem} {d : Nat} {dst : Option Nat} {a b : Cmd} {v : V} {o : AOp}

def forN (pn : List Nat) (n : Nat) (E : Nat → List (Nat × V)) (Sg : Nat → List (Nat × Blk)) (inv : Nat → Prop) (g : G) (k : Nat) : Env → Store → G → Prop :=
  fun ρ' σ' g' => ∃ i', (i' ≤ n ∧ inv i') ∧ Fits pn (E i') (Sg i') ρ' σ' ∧ g = g' ∧ n - i' < n - k
/-- A loop that counts from 0 to n. -/
theorem c_for (n : Nat) (E : Nat → List (Nat × V)) (Sg : Nat → List (Nat × Blk)) (inv : Nat → Prop) (h0 : inv 0) (hf : Fits pn (E 0) (Sg 0) ρ σ)
    (hs : ∀ k, k ≤ n → inv k → WC P H pn Q (.loop (forN pn n E Sg inv g k) :: fs) a (envOf (E k)) (stOf (Sg k)) g) : WC P H pn Q fs (.loop a) ρ σ g :=
  c_loop E Sg (fun _ => g) (fun k => k ≤ n ∧ inv k) (fun k => n - k) 0 ⟨Nat.zero_le _, h0⟩ hf rfl fun k hk => hs k hk.1 hk.2
theorem e_for {n : Nat} {E : Nat → List (Nat × V)} {Sg : Nat → List (Nat × Blk)} {inv : Nat → Prop} {k : Nat} (hk : k < n) (hi : inv (k + 1)) (hf : Fits pn (E (k + 1)) (Sg (k + 1)) ρ σ) :
    WE P H pn Q (.loop (forN pn n E Sg inv g k) :: fs) .normal ρ σ g := e_loop ⟨k + 1, ⟨hk, hi⟩, hf, rfl, by omega⟩
/-- A loop over any index. -/
def lpN {ι : Type} (pn : List Nat) (E : ι → List (Nat × V)) (Sg : ι → List (Nat × Blk)) (inv : ι → Prop) (μ : ι → Nat) (g : G) (i : ι) : Env → Store → G → Prop :=
  fun ρ' σ' g' => ∃ i', inv i' ∧ Fits pn (E i') (Sg i') ρ' σ' ∧ g = g' ∧ μ i' < μ i
theorem c_lp {ι : Type} (E : ι → List (Nat × V)) (Sg : ι → List (Nat × Blk)) (inv : ι → Prop) (μ : ι → Nat) (i0 : ι) (h0 : inv i0) (hf : Fits pn (E i0) (Sg i0) ρ σ)
    (hs : ∀ i, inv i → WC P H pn Q (.loop (lpN pn E Sg inv μ g i) :: fs) a (envOf (E i)) (stOf (Sg i)) g) : WC P H pn Q fs (.loop a) ρ σ g :=
  c_loop E Sg (fun _ => g) inv μ i0 h0 hf rfl fun i hi => hs i hi
theorem e_lp {ι : Type} {E : ι → List (Nat × V)} {Sg : ι → List (Nat × Blk)} {inv : ι → Prop} {μ : ι → Nat} {i : ι} (i' : ι) (hi : inv i') (hm : μ i' < μ i) (hf : Fits pn (E i') (Sg i') ρ σ) :
    WE P H pn Q (.loop (lpN pn E Sg inv μ g i) :: fs) .normal ρ σ g := e_loop ⟨i', hi, hf, rfl, hm⟩
/-- A place of a slice, the index any number. -/
theorem i_iai {α : Type} {f : α → V} {l : List α} {size : Nat} {t : Tag} {kk : IntKind} {n : Int} {c : α} {x i : Opd} (hx : ev ρ x = .sl t (l.map f)) (hi : ev ρ i = .int kk n) (h0 : 0 ≤ n) (hr : l[n.toNat]? = some c) (hw : Nat.beq size (f c).cells.length = true)
    (h : WI P H pn Q fs r (upd ρ d (.cptr t (f c) 0)) σ g) : WI P H pn Q fs (.op (some d) none (.iaddr size x i) :: r) ρ σ g :=
  i_ia hx hi h0 (by simp [hr]) hw h
theorem i_len {α : Type} {f : α → V} {l : List α} {t : Tag} {x : Opd} (hx : ev ρ x = .sl t (l.map f)) (h : WI P H pn Q fs r (upd ρ d (.int .i64 l.length)) σ g) : WI P H pn Q fs (.op (some d) none (.len false x) :: r) ρ σ g := i_out (by
  simp only [AWop, hx, List.length_map]
  exact h.out)
/-- A number written into a slice of the call's own. -/
theorem i_sti {f : Int → V} {l : List Int} {nm gen gen' i : Nat} {v : Int} {x y : Opd} (hf : f = fun n => V.int .i64 n) (hx : ev ρ x = .ptr nm gen i 0) (hy : ev ρ y = .int .i64 v) (hs : σ nm = .arr gen' (l.map f)) (hg : gen = gen') (hi : i < l.length)
    (h : WI P H pn Q fs r (put ρ dst (.tup [])) (ups σ nm (.arr gen ((l.set i v).map f))) g) : WI P H pn Q fs (.op dst none (.store 1 x y) :: r) ρ σ g := by
  subst hf
  refine i_stp (row := .int .i64 l[i]) (row' := .int .i64 v) hx hs hg (by simp [hi]) (by rw [hy]; rfl) (by rw [hy]; rfl) ?_
  rw [List.map_set] at h
  exact h
/-- The first elements of a slice that is a list mapped. -/
theorem i_tk {α : Type} {f : α → V} {l : List α} {size : Nat} {t : Tag} {k2 : IntKind} {k : Nat} {x hi : Opd} (hx : ev ρ x = .sl t (l.map f)) (hhi : ev ρ hi = .int k2 (k : Int)) (h2 : k ≤ l.length)
    (h : WI P H pn Q fs r (upd ρ d (.sl t ((l.take k).map f))) σ g) : WI P H pn Q fs (.op (some d) none (.slice false size x none (some hi)) :: r) ρ σ g :=
  i_slh (k1 := .i64) (m := 0) hx rfl hhi (Int.le_refl _) (by omega) (by simp; omega) (.inl rfl) (by simpa using h)
/-- An append of one element to a slice that is a list mapped. -/
theorem i_appM {α : Type} {f : α → V} {l : List α} {c : α} {size bytes et nm k : Nat} {t : Tag} {x y : Opd} (hx : ev ρ x = .sl (.own nm) (l.map f)) (hy : ev ρ y = .sl t [f c]) (hs : σ nm = .vec k) (hk : l.length = k) (hw : ((Nat.beq (wd nm) size && tyOkB nm et) && (Nat.beq (f c).cells.length size && (f c).cells.all leafB)) = true)
    (h1 : (k + 1) * bytes ≤ 140737488355328) (h2 : k + 1 ≤ 140737488355328)
    (h : WI P H pn Q fs r (upd ρ d (.sl (.own nm) ((l ++ [c]).map f))) (ups σ nm (.vec (k + 1))) g) : WI P H pn Q fs (.op (some d) none (.append size bytes et x y) :: r) ρ σ g :=
  i_app1 hx hy hs (by simp [hk]) hw h1 h2 (by simpa using h)
end

/-- The first fault of a row of tests. -/
def scan {α : Type} (bad : Nat → Option α) : Nat → Nat → Option α
  | _, 0 => none
  | i, n + 1 => match bad i with
    | some f => some f
    | none => scan bad (i + 1) n
theorem scan_none {α : Type} {bad : Nat → Option α} : ∀ (n i : Nat), (∀ j, i ≤ j → j < i + n → bad j = none) → scan bad i n = none
  | 0, _, _ => rfl
  | n + 1, i, h => by
    simp only [scan, h i (Nat.le_refl _) (by omega)]
    exact scan_none n (i + 1) fun j h1 h2 => h j (by omega) (by omega)
theorem scan_hit {α : Type} {bad : Nat → Option α} {f : α} : ∀ (n i k : Nat), (∀ j, i ≤ j → j < k → bad j = none) → i ≤ k → k < i + n → bad k = some f → scan bad i n = some f
  | 0, i, k, _, _, h, _ => by omega
  | n + 1, i, k, h, h1, h2, h3 => by
    simp only [scan]
    by_cases e : i = k
    · subst e; rw [h3]
    · rw [h i (Nat.le_refl _) (by omega)]
      exact scan_hit n (i + 1) k (fun j h4 h5 => h j (by omega) h5) (by omega) (by omega) h3
theorem scan0_none {α : Type} {bad : Nat → Option α} {n : Nat} (h : ∀ j, j < n → bad j = none) : scan bad 0 n = none := scan_none n 0 fun j _ h2 => h j (by omega)
theorem scan0_hit {α : Type} {bad : Nat → Option α} {n k : Nat} {f : α} (h : ∀ j, j < k → bad j = none) (hk : k < n) (hf : bad k = some f) : scan bad 0 n = some f := scan_hit n 0 k (fun j _ h2 => h j h2) (Nat.zero_le _) (by omega) hf
/-- 'for all below k' and one more. -/
theorem all_succ {p : Nat → Prop} {k : Nat} (h : ∀ j, j < k → p j) (hk : p k) : ∀ j, j < k + 1 → p j := fun j hj => by
  by_cases e : j = k
  · rw [e]; exact hk
  · exact h j (by omega)
theorem all_zero {p : Nat → Prop} : ∀ j, j < 0 → p j := fun j hj => absurd hj (Nat.not_lt_zero j)
def anyN (p : Nat → Bool) (n : Nat) : Bool := (List.range n).any p
theorem anyN_hit {p : Nat → Bool} {n k : Nat} (hk : k < n) (h : p k = true) : anyN p n = true := List.any_eq_true.2 ⟨k, List.mem_range.2 hk, h⟩
theorem anyN_none {p : Nat → Bool} {n : Nat} (h : ∀ j, j < n → p j = false) : anyN p n = false := by
  unfold anyN
  rw [Bool.eq_false_iff]
  intro e
  obtain ⟨j, h1, h2⟩ := List.any_eq_true.1 e
  rw [h j (List.mem_range.1 h1)] at h2
  cases h2
theorem any_take_none {α : Type} {p : α → Bool} {l : List α} {k : Nat} (h : ∀ j, j < k → ∀ u, l[j]? = some u → p u = false) : (l.take k).any p = false := by
  rw [Bool.eq_false_iff]
  intro e
  obtain ⟨x, h1, h2⟩ := List.any_eq_true.1 e
  obtain ⟨j, hj, e⟩ := List.getElem_of_mem h1
  have hj' : j < k := by simp at hj; omega
  have : l[j]? = some x := by
    rw [← e, List.getElem_take]
    exact List.getElem?_eq_getElem (by simp at hj; omega)
  rw [h j hj' x this] at h2
  cases h2
theorem any_take_hit {α : Type} {p : α → Bool} {l : List α} {k j : Nat} {u : α} (hj : j < k) (hu : l[j]? = some u) (hp : p u = true) : (l.take k).any p = true := by
  refine List.any_eq_true.2 ⟨u, ?_, hp⟩
  have : (l.take k)[j]? = some u := by rw [List.getElem?_take, if_pos hj, hu]
  exact List.mem_of_getElem? this
/-- An element, named. -/
theorem get_some {α : Type} {l : List α} {k : Nat} (h : k < l.length) : ∃ c, l[k]? = some c := ⟨l[k], List.getElem?_eq_getElem h⟩
theorem get_lt {α : Type} {l : List α} {k : Nat} {c : α} (h : l[k]? = some c) : k < l.length := (List.getElem?_eq_some_iff.1 h).1
theorem take_succ_get {α : Type} {l : List α} {k : Nat} {c : α} (h : l[k]? = some c) : l.take (k + 1) = l.take k ++ [c] := by
  rw [List.take_add_one, h]; rfl
theorem mem_get {α : Type} {l : List α} {k : Nat} {c : α} (h : l[k]? = some c) : c ∈ l := List.mem_of_getElem? h
end Hm
end

section
/- Stepping, third part: calls of yield; ranges over functions. -/
namespace Hm
set_option linter.unusedVariables false
set_option linter.unusedSimpArgs false
open Go
section
variable {G : Type} {P : Program} {H : HT G} {pn : List Nat} {Q : Exit → Env → Store → G → Prop} {fs : List (Frm G)} {ρ : Env} {σ : Store} {g : G} {r : List GItem} {d : Nat} {dst : Option Nat} {a b : Cmd} {v : V} {o : AOp}

theorem i_y {f : Opd} {args : List Opd} {as : List V} (hM : MonoH H) (hf : ev ρ f = .rnd) (ha : fzL (args.map (ev ρ)) = some as) (hp : pureL as = true) (h : H as g fun u g' => WI P H pn Q fs r (put ρ dst u) σ g') : WI P H pn Q fs (.op dst none (.call .y f args) :: r) ρ σ g := i_out (by
  cases fzL_eq ha
  simp only [AWop, AWcall, hf]
  exact ⟨hp, hM _ _ _ _ (fun u g' h => h.out) h⟩)

/-- What a function does that yields these rows of arguments, one behind the other. -/
def YL (H : HT G) : List (List V) → G → (G → Prop) → Prop
  | [], g, K => K g
  | as :: r, g, K => H as g fun u g' => (u = .bool true ∧ YL H r g' K) ∨ (u = .bool false ∧ K g')
theorem YL_mono (hM : MonoH H) : ∀ (l : List (List V)) (g : G) (K K' : G → Prop), (∀ g, K g → K' g) → YL H l g K → YL H l g K'
  | [], _, _, _, hk, h => hk _ h
  | as :: r, g, K, K', hk, h => hM _ _ _ _ (fun u g' h => by
    rcases h with ⟨h1, h2⟩ | ⟨h1, h2⟩
    · exact .inl ⟨h1, YL_mono hM r g' K K' hk h2⟩
    · exact .inr ⟨h1, hk _ h2⟩) h

abbrev RG (G : Type) := Store × G × Option Exit
def rhQ (wo : List Nat) (K : V → RG G → Prop) : Exit → Env → Store → G → Prop := fun e _ σ2 g2 => closedSt wo σ2 wo = true ∧ (match e with
  | .normal => K (.bool true) (restr wo σ2, g2, none)
  | e => K (.bool false) (restr wo σ2, g2, some e))
def rhA (P : Program) (H : HT G) (wo : List Nat) (cb : Cmd) (K : V → RG G → Prop) : Exit → Env → Store → G → Prop := fun e ρ σ g => match e with
  | .normal => WC P H wo (rhQ wo K) [] cb ρ σ g
  | _ => False
/-- One round of a range over a function. -/
theorem rh_intro {wo : List Nat} {ca cb : Cmd} {ps : List Nat} {E : List (Nat × V)} {args : List V} {σ1 : Store} {g1 : G} {K : V → RG G → Prop} (hM : MonoH H) (hl : Nat.beq args.length ps.length = true)
    (h : WC P H wo (rhA P H wo cb K) [] ca (bindAll ps args (envOf E)) σ1 g1) : RH P H wo ca cb ps E args (σ1, g1, none) K := by
  refine ⟨hl, rfl, AW_mono hM ca wo _ _ _ _ _ (fun e ρ' σ' g' h => ?_) h.out⟩
  cases e <;> try exact h
  exact WC.out h
theorem RHm {wo : List Nat} {ca cb : Cmd} {ps : List Nat} {E : List (Nat × V)} (hM : MonoH H) : MonoH (RH P H wo ca cb ps E) :=
  RH_mono (fun pn ρ σ g Q Q' => AW_mono hM ca pn ρ σ g Q Q') (fun pn ρ σ g Q Q' => AW_mono hM cb pn ρ σ g Q Q')
def bQ (E : List (Nat × V)) (pf : List Nat) (P : Program) (H : HT G) (pn : List Nat) (Q : Exit → Env → Store → G → Prop) (fs : List (Frm G)) : V → Store → RG G → Prop := fun _ σ1 st => noRndSt σ1 pf = true ∧ (match st.2.2 with
  | none => WE P H pn Q fs .normal (envOf E) (merge pf st.1 σ1) st.2.1
  | some e => WE P H pn Q fs e (envOf E) (merge pf st.1 σ1) st.2.1)
theorem c_range {pf ps : List Nat} {f : Opd} {fid : Nat} {caps : List V} (E : List (Nat × V)) (Sg : List (Nat × Blk)) (hf : ev ρ f = .fn fid caps) (hfit : Fits pn E Sg ρ σ)
    (hb : (hasAll (Sg.map (·.1)) pf && closedL pf caps && closedSt pf (stOf Sg) pf && noRndL caps && noRndSt (stOf Sg) pf && closedE (without pf (Sg.map (·.1))) E && closedSt (without pf (Sg.map (·.1))) (stOf Sg) (without pf (Sg.map (·.1)))) = true)
    (hc : Cc P (RH P H (without pf (Sg.map (·.1))) a b ps E) fid (.rnd :: caps) pf (restr pf (stOf Sg)) (restr (without pf (Sg.map (·.1))) (stOf Sg), g, none) (bQ E pf P H pn Q fs)) :
    WC P H pn Q fs (.rangeF pf f ps a b) ρ σ g := ⟨by
  simp only [AW, hf]
  refine ⟨E, Sg, hfit, hb, CT_mono (fun v σ' st h => ?_) hc.out⟩
  obtain ⟨h0, h⟩ := h
  refine ⟨h0, ?_⟩
  obtain ⟨q1, q2, q3⟩ := st
  cases q3 with
  | none => exact WE.out h
  | some e => exact WE.out h⟩
theorem Cc_mono {f : Nat} {args : List V} {K K' : V → Store → G → Prop} (hk : ∀ v σ' g', K v σ' g' → K' v σ' g') (h : Cc P H f args pn σ g K) : Cc P H f args pn σ g K' := ⟨CT_mono hk h.out⟩
/-- A range that looks for the first that passes a test, and changes nothing before. -/
theorem YL_find {α : Type} {f : α → List V} (p : α → Bool) {s0 : RG G} (s1 : α → RG G) {H' : HT (RG G)} (hM : MonoH H') {K : RG G → Prop} : ∀ (l : List α), (∀ c ∈ l, ∀ K : V → RG G → Prop, (p c = true → K (.bool false) (s1 c)) → (p c = false → K (.bool true) s0) → H' (f c) s0 K) →
    (match l.find? p with
      | some c => K (s1 c)
      | none => K s0) → YL H' (l.map f) s0 K
  | [], _, h => h
  | c :: r, hH, h => by
    refine hH c (by simp) _ (fun hp => .inr ⟨rfl, ?_⟩) (fun hp => .inl ⟨rfl, YL_find p s1 hM r (fun c hc => hH c (by simp [hc])) ?_⟩)
    · simpa [hp] using h
    · simpa [hp] using h
end
theorem restr_mem {pn : List Nat} {σ : Store} (nm : Nat) (h : restr pn σ nm ≠ .unused) : nm ∈ pn := by
  by_cases hm : nm ∈ pn
  · exact hm
  · exact absurd (restr_out (θ := θ0) hm).1 h
end Hm
namespace Hm
open Go
theorem stOf_mem : ∀ (L : List (Nat × Blk)) (nm : Nat), stOf L nm ≠ .unused → nm ∈ L.map (·.1)
  | [], nm, h => absurd rfl h
  | (d, b) :: r, nm, h => by
    simp only [stOf] at h
    cases hb : Nat.beq nm d with
    | true => rw [Nat.eq_of_beq_eq_true hb]; simp
    | false => rw [hb] at h; exact List.mem_cons_of_mem _ (stOf_mem r nm h)
end Hm
namespace Hm
open Go
section
variable {G : Type} {P : Program} {H : HT G} {pn : List Nat} {Q : Exit → Env → Store → G → Prop} {fs : List (Frm G)} {ρ : Env} {σ : Store} {g : G} {a b : Cmd}
theorem c_rangeS {pf ps : List Nat} {f : Opd} {fid : Nat} {caps : List V} (E : List (Nat × V)) (Sg : List (Nat × Blk)) (wo : List Nat) (S1 S2 : List (Nat × Blk)) (hf : ev ρ f = .fn fid caps) (hfit : Fits pn E Sg ρ σ)
    (hwo : without pf (Sg.map (·.1)) = wo) (h1 : pf.map (fun nm => (nm, stOf Sg nm)) = S1) (h2 : wo.map (fun nm => (nm, stOf Sg nm)) = S2)
    (hb : (hasAll (Sg.map (·.1)) pf && closedL pf caps && closedSt pf (stOf Sg) pf && noRndL caps && noRndSt (stOf Sg) pf && closedE wo E && closedSt wo (stOf Sg) wo) = true)
    (hc : Cc P (RH P H wo a b ps E) fid (.rnd :: caps) pf (stOf S1) (stOf S2, g, none) (bQ E pf P H pn Q fs)) :
    WC P H pn Q fs (.rangeF pf f ps a b) ρ σ g := by
  subst hwo h1 h2
  refine c_range E Sg hf hfit hb ?_
  rw [restr_stOf, restr_stOf (stOf Sg) (without pf (Sg.map (·.1)))]
  exact hc
theorem rhq_n {wo : List Nat} {K : V → RG G → Prop} {L : List (Nat × Blk)} (h1 : closedSt wo σ wo = true) (hL : wo.map (fun nm => (nm, σ nm)) = L) (h : K (.bool true) (stOf L, g, none)) : rhQ wo K .normal ρ σ g :=
  ⟨h1, by rw [restr_stOf, hL]; exact h⟩
theorem rhq_r {wo : List Nat} {K : V → RG G → Prop} {L : List (Nat × Blk)} (h1 : closedSt wo σ wo = true) (hL : wo.map (fun nm => (nm, σ nm)) = L) (h : K (.bool false) (stOf L, g, some .ret)) : rhQ wo K .ret ρ σ g :=
  ⟨h1, by rw [restr_stOf, hL]; exact h⟩
theorem rhq_x {wo : List Nat} {id : Nat} {K : V → RG G → Prop} {L : List (Nat × Blk)} (h1 : closedSt wo σ wo = true) (hL : wo.map (fun nm => (nm, σ nm)) = L) (h : K (.bool false) (stOf L, g, some (.exit id))) : rhQ wo K (.exit id) ρ σ g :=
  ⟨h1, by rw [restr_stOf, hL]; exact h⟩
end
end Hm
end

section
/- Stepping, fourth part: further operations. -/
namespace Hm
set_option linter.unusedVariables false
set_option linter.unusedSimpArgs false
open Go
section
variable {G : Type} {P : Program} {H : HT G} {pn : List Nat} {Q : Exit → Env → Store → G → Prop} {fs : List (Frm G)} {ρ : Env} {σ : Store} {g : G} {r : List GItem} {d : Nat} {dst : Option Nat} {a b : Cmd} {v : V} {o : AOp}
theorem i_lenm {nm gen i n gen' : Nat} {rows : List V} {x : Opd} (hx : ev ρ x = .msl nm gen i n) (hs : σ nm = .arr gen' rows) (hg : gen = gen') (h : WI P H pn Q fs r (upd ρ d (.int .i64 n)) σ g) : WI P H pn Q fs (.op (some d) none (.len false x) :: r) ρ σ g := i_out (by
  simp only [AWop, hx, hs]
  exact ⟨hg, h.out⟩)
theorem i_appmM {α : Type} {f : α → V} {l : List α} (xs : List α) {size bytes et nm gen gen' : Nat} {t : Tag} {x y : Opd} (hx : ev ρ x = .msl nm gen 0 l.length) (hy : ev ρ y = .sl t (xs.map f)) (hs : σ nm = .arr gen' (l.map f)) (hg : gen = gen') (hw : Nat.beq (wd nm) size = true)
    (hr : ∀ c ∈ xs, (f c).cells.length = size ∧ (f c).cells.all leafB = true) (h1 : (l.length + xs.length) * bytes ≤ 140737488355328) (h2 : l.length + xs.length ≤ 140737488355328)
    (h : WI P H pn Q fs r (upd ρ d (.msl nm (gen + 1) 0 (l ++ xs).length)) (ups σ nm (.arr (gen + 1) ((l ++ xs).map f))) g) : WI P H pn Q fs (.op (some d) none (.append size bytes et x y) :: r) ρ σ g := by
  refine i_appm hx hy hs hg hw (fun row hrow => ?_) (by simpa using h1) (by simpa using h2) ?_
  · obtain ⟨c, hc, rfl⟩ := List.mem_map.1 hrow
    exact hr c hc
  · have e1 : (l.map f).take l.length ++ xs.map f = (l ++ xs).map f := by rw [List.take_of_length_le (by simp), List.map_append]
    rw [e1, List.length_map, ← List.length_append]
    exact h
theorem i_shr {k k' : IntKind} {m n q : Int} {st : Bool} {et : List LT} {x y : Opd}
    (hx : ev ρ x = .int k m) (hy : ev ρ y = .int k' n) (h0 : 0 ≤ n) (hq : m.fdiv (2 ^ (min n.toNat k.bits)) = q) (h : WI P H pn Q fs r (upd ρ d (.int k q)) σ g) :
    WI P H pn Q fs (.op (some d) none (.bin .shr st et x y) :: r) ρ σ g := i_out (by
  simp only [AWop, hx, hy, abin]
  exact ⟨h0, hq ▸ h.out⟩)
theorem i_shl {k k' : IntKind} {m n q : Int} {st : Bool} {et : List LT} {x y : Opd}
    (hx : ev ρ x = .int k m) (hy : ev ρ y = .int k' n) (h0 : 0 ≤ n) (hq : k.wrap (m * 2 ^ (min n.toNat k.bits)) = q) (h : WI P H pn Q fs r (upd ρ d (.int k q)) σ g) :
    WI P H pn Q fs (.op (some d) none (.bin .shl st et x y) :: r) ρ σ g := i_out (by
  simp only [AWop, hx, hy, abin]
  exact ⟨h0, hq ▸ h.out⟩)
theorem i_and {k : IntKind} {m n q : Int} {st : Bool} {et : List LT} {x y : Opd} (hk : kEq k k = true)
    (hx : ev ρ x = .int k m) (hy : ev ρ y = .int k n) (hq : k.wrap (BitVec.ofInt k.bits m &&& BitVec.ofInt k.bits n).toNat = q) (h : WI P H pn Q fs r (upd ρ d (.int k q)) σ g) :
    WI P H pn Q fs (.op (some d) none (.bin .and st et x y) :: r) ρ σ g := i_out (by
  simp only [AWop, hx, hy, abin, hk, cond_true]
  exact hq ▸ h.out)
theorem i_addw {k : IntKind} {m n q : Int} {st : Bool} {et : List LT} {x y : Opd} (hk : kEq k k = true) (hx : ev ρ x = .int k m) (hy : ev ρ y = .int k n) (hq : k.wrap (m + n) = q) (h : WI P H pn Q fs r (upd ρ d (.int k q)) σ g) :
    WI P H pn Q fs (.op (some d) none (.bin .add st et x y) :: r) ρ σ g := i_out (by
  simp only [AWop, hx, hy, abin, hk, cond_true]
  exact hq ▸ h.out)
theorem wrap_inc {c : Int} (h : InR .i64 c) : IntKind.i64.wrap (c + 1) = if c = 9223372036854775807 then -9223372036854775808 else c + 1 := by
  split
  · rename_i e; subst e; rfl
  · rename_i e
    exact wrap_id (k := .i64) ⟨by have := h.1; omega, by have := h.2; omega⟩
end
end Hm
end

section
/- From a reading of arguments, as the rows have it, to abstract values; and back from a contract to a row's statement. -/
namespace Hm
set_option linter.unusedVariables false
set_option linter.unusedSimpArgs false
open Go

mutual
/-- What a datum is as an abstract value. -/
def dv {H : Type} : DataW H → V
  | .lit (.bool b) => .bool b
  | .lit (.int k n) => .int k n
  | .lit (.string l) => .str l
  | .slice elems _ => .sl .p (dvL elems)
  | .agg parts => .agg (dvC parts)
  | .nil => .sl .p []
  | _ => .any
def dvL {H : Type} : List (DataW H) → List V
  | [] => []
  | d :: r => dv d :: dvL r
def dvC {H : Type} : List (DataW H) → List V
  | [] => []
  | d :: r => (dv d).cells ++ dvC r
end
theorem dvL_map {H : Type} : ∀ l : List (DataW H), dvL l = l.map dv
  | [] => rfl
  | d :: r => by simp only [dvL, List.map_cons, dvL_map r]

/-- The fields lie one behind the other. -/
def lay (P : Program) : List Field → Nat → Option Nat
  | [], o => some o
  | f :: r, o => bif Nat.beq f.offset o then lay P r (o + P.cellsOf f.type) else none
/-- Types of bools, integers, strings, slices and structs. -/
def pl (P : Program) : Nat → TypeId → Bool
  | 0, _ => false
  | n + 1, t => match P.underlying t with
    | some .bool => true
    | some (.int _) => true
    | some .string => true
    | some (.slice e) => Nat.blt 0 (P.cellsOf e) && pl P n e
    | some (.struct fs) => (match lay P fs.toList 0 with
      | some m => Nat.beq m (P.cellsOf t)
      | none => false) && fs.toList.all fun f => pl P n f.type
    | _ => false

section
variable {H : Type} {enc : TypeId × Value → H} {P : Program} {w : World} {sp : Nat → Bool}

theorem fields_rep {S : Nat → Prop} {cs : List Value} : ∀ (fl : List Field) (ys : List (DataW H × List MemPlace)) (o m : Nat), lay P fl o = some m → m ≤ cs.length → ys.length = fl.length →
    (∀ (i : Nat) (f : Field) (y : DataW H × List MemPlace), fl[i]? = some f → ys[i]? = some y → ((cs.drop f.offset).take (P.cellsOf f.type)).length = (dv y.1).cells.length ∧
      ∀ (j : Nat) (v : V) (x : Value), (dv y.1).cells[j]? = some v → ((cs.drop f.offset).take (P.cellsOf f.type))[j]? = some x → RepP w S v x) →
    o ≤ m ∧ (dvC (ys.map (·.1))).length = m - o ∧ ∀ (j : Nat) (v : V) (x : Value), (dvC (ys.map (·.1)))[j]? = some v → cs[o + j]? = some x → RepP w S v x
  | [], [], o, m, hl, _, _, _ => by
    simp only [lay, Option.some.injEq] at hl
    subst hl
    exact ⟨Nat.le_refl _, by simp [dvC], fun j v x h => by simp [dvC] at h⟩
  | f :: fl, y :: ys, o, m, hl, hm, hlen, h => by
    simp only [lay] at hl
    cases hb : Nat.beq f.offset o with
    | false => rw [hb] at hl; cases hl
    | true =>
      rw [hb] at hl
      have ho := Nat.eq_of_beq_eq_true hb
      obtain ⟨h1, h2, h3⟩ := fields_rep fl ys (o + P.cellsOf f.type) m hl hm (by simpa using hlen) (fun i f y hf hy => h (i + 1) f y (by simpa using hf) (by simpa using hy))
      obtain ⟨k1, k2⟩ := h 0 f y rfl rfl
      rw [ho] at k1 k2
      have hk : (dv y.1).cells.length = P.cellsOf f.type := by
        rw [← k1, List.length_take, List.length_drop]; omega
      refine ⟨by omega, by simp only [List.map_cons, dvC, List.length_append, h2, hk]; omega, fun j v x hv hx => ?_⟩
      simp only [List.map_cons, dvC] at hv
      by_cases hj : j < P.cellsOf f.type
      · rw [List.getElem?_append_left (by omega)] at hv
        refine k2 j v x hv ?_
        rw [List.getElem?_take, if_pos hj, List.getElem?_drop]
        exact hx
      · rw [List.getElem?_append_right (by omega), hk] at hv
        exact h3 _ v x hv (by rw [show o + P.cellsOf f.type + (j - P.cellsOf f.type) = o + j from by omega]; exact hx)
  | [], _ :: _, _, _, _, _, hlen, _ => by simp at hlen
  | _ :: _, [], _, _, _, _, hlen, _ => by simp at hlen

theorem cells_get {w : World} {a : Addr} {n : Nat} {cs : List Value} (h : w.cells? 0 a n = some cs) : cs.length = n ∧ ∀ i, i < n → w.cell? (a.add i) = cs[i]? := by
  unfold World.cells? at h
  rw [if_pos (Nat.zero_le _)] at h
  exact ⟨by simpa using mapM_some_length h, fun i hi => mapM_some_get h i i (by simp [hi])⟩

theorem cell_lt {w : World} {a : Addr} {v : Value} (h : w.cell? a = some v) : a.block < w.heap.size ∧ a.spot = none := by
  unfold World.cell? at h
  split at h
  · rename_i c t fr hc
    refine ⟨(Array.getElem?_eq_some_iff.1 hc).1, ?_⟩
    cases hs : a.spot with
    | none => rfl
    | some _ => rw [hs] at h; simp at h
  · cases h

theorem trod_rep : ∀ (n : Nat) (t : TypeId) (fuel : Nat) (cs : List Value) (x : DataW H × List MemPlace), pl P n t = true → DataW.trod enc P w 0 sp true fuel t cs = some x →
    cs.length = (dv x.1).cells.length ∧ ∀ (i : Nat) (v : V) (y : Value), (dv x.1).cells[i]? = some v → cs[i]? = some y → RepP w (fun b => b < w.heap.size) v y
  | 0, t, fuel, cs, x, hp, _ => by cases hp
  | n + 1, t, fuel, cs, x, hp, h => by
    unfold pl at hp
    split at hp
    · rename_i ht
      obtain ⟨b, rfl, rfl⟩ := DataW.trod_bool ht h
      refine ⟨rfl, fun i v y hv hy => ?_⟩
      cases i with
      | zero => simp [dv, V.cells] at hv hy; subst hv hy; exact .bool b
      | succ i => simp at hy
    · rename_i k ht
      obtain ⟨m, rfl, rfl, _⟩ := DataW.trod_int ht h
      refine ⟨rfl, fun i v y hv hy => ?_⟩
      cases i with
      | zero => simp [dv, V.cells] at hv hy; subst hv hy; exact .int k m
      | succ i => simp at hy
    · rename_i ht
      obtain ⟨s, rfl, rfl, _⟩ := DataW.trod_string ht h
      refine ⟨rfl, fun i v y hv hy => ?_⟩
      cases i with
      | zero =>
        simp [dv, V.cells] at hv hy
        subst hv hy
        have := RepP.str (w := w) (S := fun b => b < w.heap.size) s.data.toList
        simpa using this
      | succ i => simp at hy
    · rename_i e ht
      simp only [Bool.and_eq_true] at hp
      obtain ⟨hc0, hpe⟩ := hp
      have hc : 0 < P.cellsOf e := by simpa [Nat.blt_eq] using hc0
      rcases Go.Deep.open_slice ht h with ⟨rfl, rfl⟩ | ⟨a, len, cap, m, q, D, Pl, rfl, _, hlc, _, hm, rfl, hcell⟩
      · refine ⟨rfl, fun i v y hv hy => ?_⟩
        cases i with
        | zero => simp [dv, V.cells] at hv hy; subst hv hy; exact .emp none 0
        | succ i => simp at hy
      · refine ⟨rfl, fun i v y hv hy => ?_⟩
        cases i with
        | succ i => simp at hy
        | zero =>
          simp only [dv, V.cells, List.getElem?_cons_zero, Option.some.injEq] at hv hy
          subst hv hy
          rw [dvL_map, List.map_map]
          cases len with
          | zero => exact .emp (some a) cap
          | succ len =>
            have hle : len + 1 ≤ m := by rw [hm]; split <;> omega
            have key : ∀ i, i < len + 1 → (∃ cs' : List Value, (∀ j, j < P.cellsOf e → w.cell? ((a.add (i * P.cellsOf e)).add j) = cs'[j]?) ∧ cs'.length = P.cellsOf e ∧ cs'.length = (dv (D i)).cells.length ∧
                ∀ (j : Nat) (v : V) (y : Value), (dv (D i)).cells[j]? = some v → cs'[j]? = some y → RepP w (fun b => b < w.heap.size) v y) := by
              intro i hi
              obtain ⟨cs', h1, h2⟩ := hcell i (by omega)
              obtain ⟨h3, h4⟩ := cells_get h1
              obtain ⟨h5, h6⟩ := trod_rep n e q cs' _ hpe h2
              exact ⟨cs', h4, h3, h5, h6⟩
            obtain ⟨cs0, k1, k2, _, _⟩ := key 0 (by omega)
            have k3 := k1 0 hc
            rw [List.getElem?_eq_getElem (by omega)] at k3
            obtain ⟨hblt, hspot⟩ := cell_lt k3
            simp only [Nat.zero_mul, Addr.add_zero'] at hblt hspot
            have hb : a.block < w.heap.size := hblt
            have hs : a.spot = none := hspot
            obtain ⟨b, off, spot⟩ := a
            simp only at hb hs
            subst hs
            have e1 : len + 1 = ((List.range (len + 1)).map (dv ∘ D)).length := by simp
            have goal : RepP w (fun b => b < w.heap.size) (.sl .p ((List.range (len + 1)).map (dv ∘ D))) (.slice (some ⟨b, off, none⟩) ((List.range (len + 1)).map (dv ∘ D)).length cap) := by
              refine .sl _ b off cap (P.cellsOf e) (fun i j => (w.cell? ⟨b, off + i * P.cellsOf e + j, none⟩).getD default) hb (by omega) (fun row hrow => ?_) (fun i j row v hr hv => ?_) (fun i j row v hr hv => ?_)
              · obtain ⟨i, hi, rfl⟩ := List.mem_map.1 hrow
                obtain ⟨cs', _, g1, g2, _⟩ := key i (List.mem_range.1 hi)
                show (dv (D i)).cells.length = _
                omega
              · rw [List.getElem?_map] at hr
                have hi : i < len + 1 := by
                  have := (List.getElem?_eq_some_iff.1 (Option.map_eq_some_iff.1 hr).choose_spec.1).1
                  simpa using this
                rw [List.getElem?_range hi] at hr
                simp only [Option.map_some, Option.some.injEq, Function.comp] at hr
                subst hr
                obtain ⟨cs', g0, g1, g2, g3⟩ := key i hi
                have hj := (List.getElem?_eq_some_iff.1 hv).1
                have := g0 j (by omega)
                simp only [Addr.add_lit] at this
                rw [this, List.getElem?_eq_getElem (by omega)]
                rfl
              · rw [List.getElem?_map] at hr
                have hi : i < len + 1 := by
                  have := (List.getElem?_eq_some_iff.1 (Option.map_eq_some_iff.1 hr).choose_spec.1).1
                  simpa using this
                rw [List.getElem?_range hi] at hr
                simp only [Option.map_some, Option.some.injEq, Function.comp] at hr
                subst hr
                obtain ⟨cs', g0, g1, g2, g3⟩ := key i hi
                have hj := (List.getElem?_eq_some_iff.1 hv).1
                have := g0 j (by omega)
                simp only [Addr.add_lit] at this
                rw [this, List.getElem?_eq_getElem (by omega)]
                exact g3 j v _ hv (by rw [List.getElem?_eq_getElem (by omega)]; rfl)
            rw [← e1] at goal
            exact goal
    · rename_i fs ht
      simp only [Bool.and_eq_true, List.all_eq_true] at hp
      obtain ⟨hlay, hall⟩ := hp
      split at hlay
      · rename_i m hm
        have hme := Nat.eq_of_beq_eq_true hlay
        obtain ⟨xs, q, _, rfl, hlen, hxl, hseg⟩ := DataW.trod_struct ht h
        obtain ⟨_, g1, g2⟩ := fields_rep (P := P) (w := w) (S := fun b => b < w.heap.size) (cs := cs) fs.toList xs 0 m hm (by omega) (by simpa using hxl) (fun i f y hf hy => by
          have hf' : fs[i]? = some f := by simpa using hf
          have := hseg i f hf'
          rw [hy] at this
          exact trod_rep n f.type q _ y (hall f (List.mem_of_getElem? hf)) this)
        refine ⟨by simp only [dv, V.cells, g1]; omega, fun i v y hv hy => g2 i v y (by simpa [dv, V.cells] using hv) (by simpa using hy)⟩
      · cases hlay
    · cases hp

/-- An argument, as it stands in the frame. -/
theorem arg_rep {n base : Nat} {t : TypeId} {v : Value} {d : DataW H} {ps : List MemPlace} (hp : pl P n t = true) (hok : Value.okWide P w .any base t v) (h : DataW.Trod enc P w 0 sp true t v d ps) : RepP w (fun b => b < w.heap.size) (dv d) v := by
  obtain ⟨fuel, h⟩ := h
  obtain ⟨h1, h2⟩ := trod_rep n t fuel _ _ hp h
  cases n with
  | zero => cases hp
  | succ n =>
    unfold pl at hp
    split at hp
    · rename_i ht
      obtain ⟨b, e, e2⟩ := DataW.trod_bool ht h
      injection e2 with e2 _
      subst e2
      cases v <;> simp [Value.okWide, ht, Cell.okWide, Cell.ok] at hok
      simp [Value.cells] at e
      subst e
      exact .bool _
    · rename_i k ht
      obtain ⟨m, e, e2, _⟩ := DataW.trod_int ht h
      injection e2 with e2 _
      subst e2
      cases v <;> simp [Value.okWide, ht, Cell.okWide, Cell.ok] at hok
      simp [Value.cells] at e
      obtain ⟨rfl, rfl⟩ := e
      exact .int _ _
    · rename_i ht
      obtain ⟨s, e, e2, _⟩ := DataW.trod_string ht h
      injection e2 with e2 _
      subst e2
      cases v <;> simp [Value.okWide, ht, Cell.okWide, Cell.ok] at hok
      simp [Value.cells] at e
      subst e
      exact h2 0 _ _ rfl rfl
    · rename_i e ht
      have hv : v.cells = #[v] := by
        cases v <;> first | rfl | (simp [Value.okWide, ht, Cell.okWide, Cell.ok] at hok)
      have hd : (dv d).cells = [dv d] := by
        rcases Go.Deep.open_slice ht h with ⟨_, e2⟩ | ⟨_, _, _, _, _, _, _, _, _, _, _, _, e2, _⟩ <;> (injection e2 with e2 _; subst e2; rfl)
      exact h2 0 _ _ (by rw [hd]; rfl) (by rw [hv]; rfl)
    · rename_i fs ht
      simp only [Value.okWide, ht] at hok
      obtain ⟨cs, rfl, _, _⟩ := hok
      obtain ⟨xs, q, _, e2, _⟩ := DataW.trod_struct ht h
      injection e2 with e2 _
      subst e2
      have := RepP.agg (w := w) (S := fun b => b < w.heap.size) (dvC (xs.map (·.1))) cs.toList (by
        have := h1
        simp only [dv, V.cells, Value.cells] at this
        exact this.symm) (fun i v x hv hx => h2 i v x (by simpa [dv, V.cells] using hv) (by simpa [Value.cells] using hx))
      simpa [dv] using this
    · cases hp
theorem args_rep {n base : Nat} : ∀ (ts : List TypeId) (vs : List Value) (ds : List (DataW H)) (ps : List MemPlace), ts.all (pl P n) = true → (∀ (j : Nat) t v, ts[j]? = some t → vs[j]? = some v → Value.okWide P w .any base t v) →
    DataW.TrodAll enc P w 0 sp true ts vs ds ps → Reps (RepP w (fun b => b < w.heap.size)) (ds.map dv) vs
  | [], [], [], _, _, _, _ => ⟨rfl, fun i v x h => by simp at h⟩
  | t :: ts, v :: vs, d :: ds, ps, hp, hok, h => by
    obtain ⟨p, q, h1, h2, _⟩ := h
    simp only [List.all_cons, Bool.and_eq_true] at hp
    have ih := args_rep ts vs ds q hp.2 (fun j t v ht hv => hok (j + 1) t v (by simpa using ht) (by simpa using hv)) h2
    refine ⟨by simpa using ih.1, fun i u x hu hx => ?_⟩
    cases i with
    | zero =>
      simp at hu hx
      subst hu hx
      exact arg_rep hp.1 (hok 0 t v rfl rfl) h1
    | succ i => exact ih.2 i u x (by simpa using hu) (by simpa using hx)
  | [], _ :: _, _, _, _, _, h => by simp [DataW.TrodAll] at h
  | [], [], _ :: _, _, _, _, h => by simp [DataW.TrodAll] at h
  | _ :: _, [], _, _, _, _, h => by simp [DataW.TrodAll] at h
  | _ :: _, _ :: _, [], _, _, _, h => by simp [DataW.TrodAll] at h

/-- A datum of a type, of a size that can be. -/
def wt (P : Program) {H : Type} : Nat → TypeId → DataW H → Prop
  | 0, _, _ => False
  | n + 1, t, d => match P.underlying t with
    | some .bool => ∃ b, d = .lit (.bool b)
    | some (.int k) => ∃ m, d = .lit (.int k m) ∧ (Lit.int k m).wf = true
    | some .string => ∃ l, d = .lit (.string l) ∧ l.length ≤ reachBytes
    | some (.slice e) => d = .nil ∨ ∃ elems spare, d = .slice elems spare ∧ elems.length * P.bytesOf e ≤ reachBytes ∧ ∀ x ∈ elems, wt P n e x
    | some (.struct fs) => ∃ parts, d = .agg parts ∧ parts.length = fs.size ∧ ∀ (i : Nat) (f : Field) (p : DataW H), fs[i]? = some f → parts[i]? = some p → wt P n f.type p
    | _ => True
theorem weightsAll_mem {e : TypeId} : ∀ {l : List (DataW H)} {x : DataW H}, x ∈ l → ∀ n ∈ x.weights P e, n ∈ DataW.weightsAll P e l
  | d :: r, x, hx, n, hn => by
    simp only [DataW.weightsAll, List.mem_append]
    rcases List.mem_cons.1 hx with rfl | hx
    · exact .inl hn
    · exact .inr (weightsAll_mem hx n hn)
theorem trod_wt : ∀ (fuel : Nat) (t : TypeId) (cs : List Value) (x : DataW H × List MemPlace), DataW.trod enc P w 0 sp true fuel t cs = some x → (∀ n ∈ x.1.weights P t, n ≤ reachBytes) → wt P fuel t x.1
  | 0, t, cs, x, h, _ => by simp [DataW.trod] at h
  | fuel + 1, t, cs, x, h, hw => by
    unfold wt
    split
    · rename_i ht
      obtain ⟨b, _, rfl⟩ := DataW.trod_bool ht h
      exact ⟨b, rfl⟩
    · rename_i k ht
      obtain ⟨m, _, rfl, hm⟩ := DataW.trod_int ht h
      exact ⟨m, rfl, hm⟩
    · rename_i ht
      obtain ⟨s, _, rfl, _⟩ := DataW.trod_string ht h
      exact ⟨_, rfl, hw _ (by simp [DataW.weights])⟩
    · rename_i e ht
      rcases DataW.trod_slice ht h with ⟨_, rfl⟩ | ⟨a, len, cap, elems, rest, n, hn, _, rfl, _, _, _, hlen, hel, _, _⟩
      · exact .inl rfl
      · injection hn with hn
        subst hn
        refine .inr ⟨_, _, rfl, ?_, fun y hy => ?_⟩
        · have := hw ((elems.length + rest.length) * P.bytesOf e) (by simp [DataW.weights, ht])
          simp only [List.length_map]
          exact Nat.le_trans (Nat.mul_le_mul_right _ (Nat.le_add_right _ _)) this
        · obtain ⟨z, hz, rfl⟩ := List.mem_map.1 hy
          obtain ⟨i, hi, ez⟩ := List.getElem_of_mem hz
          have := hel i (by omega)
          rw [List.getElem?_eq_getElem hi, ez] at this
          obtain ⟨cs', h1, h2⟩ := Option.bind_eq_some_iff.1 this
          refine trod_wt fuel e cs' z h2 fun n hn => hw n ?_
          simp only [DataW.weights, ht, List.mem_cons, List.mem_append]
          exact .inr (.inl (weightsAll_mem hy n hn))
    · rename_i fs ht
      obtain ⟨xs, n, hn, rfl, _, hxl, hseg⟩ := DataW.trod_struct ht h
      injection hn with hn
      subst hn
      refine ⟨_, rfl, by simpa using hxl, fun i f p hf hp => ?_⟩
      rw [List.getElem?_map] at hp
      obtain ⟨z, hz, rfl⟩ := Option.map_eq_some_iff.1 hp
      have := hseg i f hf
      rw [hz] at this
      refine trod_wt fuel f.type _ z this fun n hn => hw n ?_
      simp only [DataW.weights, ht]
      exact DataW.weights_mem_each (j := i) (by rw [List.getElem?_map]; simp [hf]) (by rw [List.getElem?_map, hz]; rfl) n hn
    · trivial
theorem args_wt : ∀ (ts : List TypeId) (vs : List Value) (ds : List (DataW H)) (ps : List MemPlace), DataW.TrodAll enc P w 0 sp true ts vs ds ps → (∀ n ∈ DataW.weightsEach P ts ds, n ≤ reachBytes) →
    ds.length = ts.length ∧ ∀ (j : Nat) t d, ts[j]? = some t → ds[j]? = some d → ∃ n, wt P n t d
  | [], [], [], _, _, _ => ⟨rfl, fun j t d h => by simp at h⟩
  | t :: ts, v :: vs, d :: ds, ps, h, hw => by
    obtain ⟨p, q, ⟨fuel, h1⟩, h2, _⟩ := h
    have ih := args_wt ts vs ds q h2 (fun n hn => hw n (by simp only [DataW.weightsEach, List.mem_append]; exact .inr hn))
    refine ⟨by simpa using ih.1, fun j t' d' ht hd => ?_⟩
    cases j with
    | zero =>
      simp at ht hd
      subst ht hd
      exact ⟨fuel, trod_wt fuel t _ _ h1 fun n hn => hw n (by simp only [DataW.weightsEach, List.mem_append]; exact .inl hn)⟩
    | succ j => exact ih.2 j t' d' (by simpa using ht) (by simpa using hd)
  | [], _ :: _, _, _, h, _ => by simp [DataW.TrodAll] at h
  | [], [], _ :: _, _, h, _ => by simp [DataW.TrodAll] at h
  | _ :: _, [], _, _, h, _ => by simp [DataW.TrodAll] at h
  | _ :: _, _ :: _, [], _, h, _ => by simp [DataW.TrodAll] at h
end

section
variable {H : Type} {enc : TypeId × Value → H} {P : Program}
/-- Arguments read behind the call as they did before. -/
theorem below_all (hl : laidOutB P = true) {W W' : World} (hb : Go.RowKit.Below W.heap.size W W') : ∀ (ts : List TypeId) (vs : List Value) (ds : List (DataW H)) (ps : List MemPlace), (ts.all fun t => P.readableRec t && decide (t < P.types.size)) = true → (∀ x ∈ ps, x.block < W.heap.size) →
    DataW.TrodAll enc P W 0 (fun _ => true) true ts vs ds ps → DataW.TrodAll enc P W' 0 (fun b => decide (b < W.heap.size)) true ts vs ds ps
  | [], [], [], _, _, _, h => h
  | t :: ts, v :: vs, d :: ds, ps, hr, hlt, h => by
    obtain ⟨p, q, h1, h2, rfl⟩ := h
    simp only [List.all_cons, Bool.and_eq_true] at hr
    exact ⟨p, q, Go.RowKit.Below.trod hl hr.1.1 (of_decide_eq_true hr.1.2) h1 hb (fun x hx => hlt x (by simp [hx])), below_all hl hb ts vs ds q hr.2 (fun x hx => hlt x (by simp [hx])) h2, rfl⟩
  | [], _ :: _, _, _, _, _, h => by simp [DataW.TrodAll] at h
  | [], [], _ :: _, _, _, _, h => by simp [DataW.TrodAll] at h
  | _ :: _, [], _, _, _, _, h => by simp [DataW.TrodAll] at h
  | _ :: _, _ :: _, [], _, _, _, h => by simp [DataW.TrodAll] at h
end

/-- A LAW: a function that answers true for every input that can be. -/
theorem law_lift {C : Checked} {os : Os} {f : FuncId} {fn : Func} {s : ChangeSpec} {H : Type} {enc : TypeId × Value → H} {tb : TypeId} {n : Nat}
    (own : ownKnob C.prog.godebug = none) (started : os.Started) (noInit : C.prog.inits.idxOf? f = none) (hfn : C.prog.funcs[f]? = some fn)
    (witness : ∃ (w : World) (tape : Tape) (i : Input), w.os = os ∧ (w.forCall tape i).Shaped C.prog ∧ i.vars = [] ∧ Input.okWide C.prog (w.forCall tape i) .any w.heap.size f i ∧
      s.pre6 enc C.prog fn [] false (w.forCall tape i).memory i.args ∧ (({} : Assume)).holds C.prog (lone (Frame.enter C.prog f i.args .normal) [] (w.forCall tape i)))
    (hvars : s.vars = []) (hs : ∀ ds : List (DataW H), ds.length = fn.params.toList.length → (s.fn H (ds ++ [])).results = [.lit (.bool true)] ∧ (s.fn H (ds ++ [])).args = ds ∧ (s.fn H (ds ++ [])).vars = [])
    (hlaid : laidOutB C.prog = true) (hp : (fn.params.toList.all (pl C.prog n)) = true) (hr : (fn.params.toList.all fun t => C.prog.readableRec t && decide (t < C.prog.types.size)) = true)
    (hres : fn.resultTypes = #[tb]) (htb : C.prog.underlying tb = some .bool)
    (hc : ∀ ds : List (DataW H), ds.length = fn.params.toList.length → (∀ (j : Nat) t d, fn.params.toList[j]? = some t → ds[j]? = some d → ∃ n, wt C.prog n t d) → Fc C.prog f (ds.map dv) (.bool true)) :
    ReturnsInHanded {} C os f .any (s.pre6 enc C.prog fn [] false) (s.post enc C.prog fn false true false false) := by
  refine returnsInHanded_of_change_sized own started noInit hfn witness ?_
  intro W base args ds gs before hval hW _ hsz _
  have hW' := hW
  obtain ⟨p, q, hA, hV, hbe, hfz, hnd⟩ := hW
  rw [hvars] at hV
  have hg : gs = [] ∧ q = [] := by
    cases gs with
    | nil => exact ⟨rfl, by simpa [DataW.TrodVars] using hV⟩
    | cons g gs => simp [DataW.TrodVars] at hV
  obtain ⟨rfl, rfl⟩ := hg
  have hw : ∀ n ∈ DataW.weightsEach C.prog fn.params.toList ds, n ≤ reachBytes := by
    intro n hn
    have h1 := List.all_eq_true.1 hsz n
    have hlen : ds.length = fn.params.toList.length := by
      have : ∀ (ts : List TypeId) (vs : List Value) (ds : List (DataW H)) (ps : List MemPlace), DataW.TrodAll enc C.prog W 0 (fun _ => true) true ts vs ds ps → ds.length = ts.length := by
        intro ts
        induction ts with
        | nil => intro vs ds ps h; cases vs <;> cases ds <;> simp [DataW.TrodAll] at h ⊢
        | cons t ts ih =>
          intro vs ds ps h
          cases vs <;> cases ds <;> simp [DataW.TrodAll] at h ⊢
          obtain ⟨p, _, q, h2, _⟩ := h
          exact ih _ _ _ h2
      exact this _ _ _ _ hA
    have h2 : n ∈ DataW.weightsEach C.prog (fn.params.toList ++ s.plain.varTypes C.prog) (ds ++ []) := by
      have : ∀ (ts us : List TypeId) (ds : List (DataW H)), ds.length = ts.length → ∀ n ∈ DataW.weightsEach C.prog ts ds, n ∈ DataW.weightsEach C.prog (ts ++ us) ds := by
        intro ts
        induction ts with
        | nil => intro us ds h n hn; simp [DataW.weightsEach] at hn
        | cons t ts ih =>
          intro us ds h n hn
          cases ds with
          | nil => simp at h
          | cons d ds =>
            simp only [List.cons_append, DataW.weightsEach, List.mem_append] at hn ⊢
            rcases hn with hn | hn
            · exact .inl hn
            · exact .inr (ih us ds (by simpa using h) n hn)
      rw [List.append_nil]
      exact this _ _ _ hlen n hn
    exact of_decide_eq_true (h1 h2)
  obtain ⟨hdl, hwt⟩ := args_wt _ _ _ _ hA hw
  have hrep := args_rep (n := n) (base := base) _ _ _ _ hp (fun j t v ht hv => hval j t v (by simpa using ht) (by simpa using hv)) hA
  obtain ⟨_, hcall⟩ := (hc ds hdl hwt).out
  have hcw := callsIn_wide.1 (hcall W (fun b => b < W.heap.size) args.toList (fun b h => h) hrep)
  simp only [Array.toArray_toList] at hcw
  refine hcw.mono fun e W' ⟨x', S', he, hx, _, _, hgrow⟩ => ?_
  subst he
  cases hx
  have hb : Go.RowKit.Below W.heap.size W W' := ⟨hgrow.os, hgrow.tape, hgrow.output, hgrow.size, fun k hk => hgrow.same k hk⟩
  obtain ⟨s1, s2, s3⟩ := hs ds hdl
  refine ⟨_, rfl, ds, [], before, [], p, [], hW', ?_, ?_, ?_, ?_, fun h => by cases h⟩
  · rw [s1, hres]
    refine ⟨[], [], ⟨1, ?_⟩, rfl, rfl⟩
    unfold DataW.trod
    rw [htb]
    rfl
  · rw [s2]
    have hlt : ∀ x ∈ p, x.block < W.heap.size := fun x hx => hW'.lt x (by rw [hbe]; simp [hx])
    exact below_all hlaid hb _ _ _ _ hr hlt hA
  · rw [s3, hvars]; rfl
  · exact hb.frame _
end Hm
namespace Hm
open Go
section
variable {H : Type} {P : Program}
def wtE (P : Program) {H : Type} (n : Nat) : List TypeId → List (DataW H) → Prop
  | [], [] => True
  | t :: ts, d :: ds => wt P n t d ∧ wtE P n ts ds
  | _, _ => False
theorem wtE_of {n : Nat} : ∀ (ts : List TypeId) (ds : List (DataW H)), ds.length = ts.length → (∀ (i : Nat) (t : TypeId) (d : DataW H), ts[i]? = some t → ds[i]? = some d → wt P n t d) → wtE P n ts ds
  | [], [], _, _ => trivial
  | t :: ts, d :: ds, hl, h => ⟨h 0 t d rfl rfl, wtE_of ts ds (by simpa using hl) fun i t d h1 h2 => h (i + 1) t d (by simpa using h1) (by simpa using h2)⟩
  | [], _ :: _, hl, _ => by simp at hl
  | _ :: _, [], hl, _ => by simp at hl
/-- A struct, field by field. -/
theorem wt_st {n : Nat} {t : TypeId} {d : DataW H} {fs : Array Field} (ht : P.underlying t = some (.struct fs)) (h : wt P n t d) : ∃ parts m, d = .agg parts ∧ wtE P m (fs.toList.map (·.type)) parts := by
  cases n with
  | zero => exact h.elim
  | succ n =>
    simp only [wt, ht] at h
    obtain ⟨parts, rfl, hl, h⟩ := h
    refine ⟨parts, n, rfl, wtE_of _ _ (by simpa using hl) fun i t d h1 h2 => ?_⟩
    rw [List.getElem?_map] at h1
    obtain ⟨f, hf, rfl⟩ := Option.map_eq_some_iff.1 h1
    exact h i f d (by simpa using hf) h2
theorem wt_int {n : Nat} {t : TypeId} {d : DataW H} (ht : P.underlying t = some (.int .i64)) (h : wt P n t d) : ∃ m, d = .lit (.int .i64 m) ∧ InR .i64 m := by
  cases n with
  | zero => exact h.elim
  | succ n =>
    simp only [wt, ht] at h
    obtain ⟨m, rfl, h⟩ := h
    refine ⟨m, rfl, ?_⟩
    simpa [Lit.wf, IntKind.min, IntKind.max, IntKind.signed, IntKind.bits, InR] using h
theorem wt_bool {n : Nat} {t : TypeId} {d : DataW H} (ht : P.underlying t = some .bool) (h : wt P n t d) : ∃ b, d = .lit (.bool b) := by
  cases n with
  | zero => exact h.elim
  | succ n => simpa only [wt, ht] using h
theorem wt_str {n : Nat} {t : TypeId} {d : DataW H} (ht : P.underlying t = some .string) (h : wt P n t d) : ∃ l, d = .lit (.string l) ∧ l.length ≤ 140737488351232 := by
  cases n with
  | zero => exact h.elim
  | succ n =>
    simp only [wt, ht] at h
    exact h
theorem ex_map {α : Type} {f : α → V} {Q : α → Prop} : ∀ (ds : List (DataW H)), (∀ d ∈ ds, ∃ a, dv d = f a ∧ Q a) → ∃ l : List α, dvL ds = l.map f ∧ l.length = ds.length ∧ ∀ a ∈ l, Q a
  | [], _ => ⟨[], rfl, rfl, fun a h => by cases h⟩
  | d :: ds, h => by
    obtain ⟨a, h1, h2⟩ := h d (by simp)
    obtain ⟨l, h3, h4, h5⟩ := ex_map ds fun x hx => h x (by simp [hx])
    refine ⟨a :: l, by simp only [dvL, List.map_cons, h1, h3], by simp [h4], fun b hb => ?_⟩
    rcases List.mem_cons.1 hb with rfl | hb
    · exact h2
    · exact h5 b hb
/-- A slice, element by element. -/
theorem wt_sl {α : Type} {f : α → V} {Q : α → Prop} {t e : TypeId} (ht : P.underlying t = some (.slice e)) (he : ∀ (n : Nat) (d : DataW H), wt P n e d → ∃ a, dv d = f a ∧ Q a) {n : Nat} {d : DataW H} (h : wt P n t d) :
    ∃ l : List α, dv d = .sl .p (l.map f) ∧ l.length * P.bytesOf e ≤ 140737488351232 ∧ ∀ a ∈ l, Q a := by
  cases n with
  | zero => exact h.elim
  | succ n =>
    simp only [wt, ht] at h
    rcases h with rfl | ⟨elems, spare, rfl, hl, h⟩
    · exact ⟨[], rfl, by simp, fun a h => by cases h⟩
    · obtain ⟨l, h1, h2, h3⟩ := ex_map elems fun x hx => he n x (h x hx)
      exact ⟨l, by simp only [dv, h1], by rw [h2]; exact hl, h3⟩
end
end Hm
end
