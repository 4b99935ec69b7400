/- The statement on both tasks of a domain, for every input. -/
import Derived.Test.YtojbakjdbodidaaGreatQHA
import Derived.Test.YtojbakjdbodidaaGreatRows
set_option linter.unusedVariables false
set_option linter.unusedSimpArgs false
namespace Go.Proofs.YtojbakjdbodidaaGreat
open Hm
set_option maxRecDepth 100000
theorem own:ownKnob Tryz.prog.godebug=none:=by kernel_rfl
theorem laid:laidOutB Tryz.prog=true:=by kernel_rfl
theorem uP (H:Type)(ds:List (DataW H))(hl:ds.length=1)(h:∀ (j:Nat) t d,[51][j]? = some t→ds[j]? = some d→∃ n,wt Tryz.prog n t d):Fc Tryz.prog 4 (ds.map dv) (.bool true):=by
 match ds,hl with
 | [d0],_ =>
  obtain ⟨_,h0⟩:=h 0 _ d0 rfl rfl
  obtain ⟨x0,e0,p0⟩:=zxu h0
  simp only [List.map_cons,List.map_nil,e0]
  exact ztu x0 p0
theorem vC (os:Os)(started:os.Started)(H:Type)(enc:TypeId × Value→H) :
  ReturnsInHanded {} Tryz.checked os 4 .any (Rows.topGroundingKeepsTheLeastCostSpec.pre6 enc Tryz.prog Tryz.f4 Rows.topGroundingKeepsTheLeastCostRow.domain false) (Rows.topGroundingKeepsTheLeastCostSpec.post enc Tryz.prog Tryz.f4 false true false false) :=
 zu7 (C:=Tryz.checked) (n:=12) (tb:=4) own started (by kernel_rfl) Tryz.func4
  (ChangeSpec.witness6 (enc:=enc) (C:=Tryz.checked) false ⟨#[],#[.agg #[.slice none 0 0,.slice none 0 0,.slice none 0 0,.slice none 0 0,.slice none 0 0,.slice none 0 0]],[]⟩ 8 (by kernel_rfl) (by kernel_rfl) (by kernel_rfl) (by kernel_rfl))
  rfl (fun ds hl=>match ds,hl with
   | [_],_=>⟨rfl,rfl,rfl⟩) laid (by kernel_rfl) (by kernel_rfl) (by kernel_rfl) Tryz.underlying4 rfl (fun ds hl h=>uP H ds hl h)
theorem vD:joinedFacts Tryz.checked.prog 4 Tryz.f4 Rows.topGroundingKeepsTheLeastCostSpec Rows.topGroundingKeepsTheLeastCostRow=true:=by kernel_rfl
theorem topGroundingKeepsTheLeastCost_holds:Rows.TopGroundingKeepsTheLeastCostSaid :=
 OpenClaim.holds_of_wide 4 Tryz.f4 rfl rfl rfl rfl rfl rfl rfl ⟨rfl,rfl,rfl,rfl,rfl⟩ rfl rfl rfl rfl rfl (by kernel_rfl) Tryz.func4 vD
  (of_decide_eq_true (by kernel_rfl)) (by unfold Func.isWrapper;first|(rw [if_pos (by decide +kernel)];kernel_rfl)|(rw [if_neg (by decide +kernel)];exact ⟨rfl,rfl⟩))
  (fun os started H enc _=>vC os started H enc)
end Go.Proofs.YtojbakjdbodidaaGreat
