/- Tables of calls that were run. -/
import Derived.Test.YtffopeihcebpjaaGreatNAwMay
set_option linter.unusedVariables false
namespace Go.Proofs.YtffopeihcebpjaaGreat.X
open Go
set_option maxRecDepth 100000
def tabK : List (List DV × DV) → List DV → Option DV
  | [], _ => none
  | e :: r, ds => if eqL ds e.1 then some e.2 else tabK r ds
theorem tab_ok {L : List Con} (hL : ConsOk L) {f : FuncId} (hB : HasBody Tryz.prog f) {n k m : Nat} : ∀ {t : List (List DV × DV)}, (∀ e ∈ t, deepA Tryz.prog (GC L) n k m f e.1 = some e.2) → Con.ok ⟨f, tabK t⟩
  | [], _ => fun ds d e => by cases e
  | a :: r, h => fun ds d e => by
    have e' : (if eqL ds a.1 then some a.2 else tabK r ds) = some d := e
    split at e'
    · rename_i q
      cases e'
      obtain rfl := eqL_eq q
      exact deep_ok mixed sane (GC_grows _) (GC_ok hL) hB (h a (List.mem_cons_self ..))
    · exact tab_ok hL hB (t := r) (fun b hb => h b (List.mem_cons_of_mem _ hb)) ds d e'
def LA : List Con := ⟨51, tabK [([s4], db true)]⟩ :: L15
theorem LAok : ConsOk LA := .cons _ _ (tab_ok L15ok ⟨_, Tryz.func51, by kernel_rfl⟩ (n := 1000) (k := 3) (m := 30) (fun e he => by
  simp only [List.mem_cons, List.not_mem_nil, or_false] at he
  subst he
  exact awMay)) L15ok
end Go.Proofs.YtffopeihcebpjaaGreat.X
