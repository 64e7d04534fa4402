/- The small run answers true. -/
import Derived.Test.YtffopeihcebpjaaGreatNAwTab
import Derived.Test.YtffopeihcebpjaaGreatNAwNew
import Derived.Test.YtffopeihcebpjaaGreatNAwDo1
import Derived.Test.YtffopeihcebpjaaGreatNAwDo2
import Derived.Test.YtffopeihcebpjaaGreatNAwDo3
import Derived.Test.YtffopeihcebpjaaGreatNAwDo4
import Derived.Test.YtffopeihcebpjaaGreatNAwDo5
import Derived.Test.YtffopeihcebpjaaGreatNAwDo6
import Derived.Test.YtffopeihcebpjaaGreatNAwFold
set_option linter.unusedVariables false
namespace Go.Proofs.YtffopeihcebpjaaGreat.X
open Go
set_option maxRecDepth 100000
theorem tab_ok' {f : FuncId} (hB : HasBody Tryz.prog f) {n k m : Nat} : ∀ {t : List (List DV × DV)}, (∀ e ∈ t, ∃ L, ConsOk L ∧ deepA Tryz.prog (GC L) n k m f e.1 = some e.2) → Con.ok ⟨f, tabK t⟩
  | [], _ => fun ds d e => by cases e
  | a :: r, h => fun ds d e => by
    have e' : (if eqL ds a.1 then some a.2 else tabK r ds) = some d := e
    split at e'
    · rename_i q
      cases e'
      obtain rfl := eqL_eq q
      obtain ⟨L, hL, hd⟩ := h a (List.mem_cons_self ..)
      exact deep_ok mixed sane (GC_grows _) (GC_ok hL) hB hd
    · exact tab_ok' hB (t := r) (fun b hb => h b (List.mem_cons_of_mem _ hb)) ds d e'
def t16 : List (List DV × DV) := [([s0, dn 0], .tu [s1, dn 0]), ([s1, dn 1], .tu [s2, dn 0]), ([s2, dn 0], .tu [s3, dn 0]), ([s3, dn 0], .tu [s4, dn 0]), ([s4, dn 0], .tu [s5, dn 2301]), ([s4, dn 1], .tu [s6, dn 0])]
theorem t16_ok : Con.ok ⟨16, tabK t16⟩ := tab_ok' ⟨_, Tryz.func16, by kernel_rfl⟩ (n := 1000) (k := 3) (m := 30) (fun e he => by
  unfold t16 at he
  simp only [List.mem_cons, List.not_mem_nil, or_false] at he
  rcases he with rfl | rfl | rfl | rfl | rfl | rfl
  · exact ⟨_, L15ok, awDo1⟩
  · exact ⟨_, L15ok, awDo2⟩
  · exact ⟨_, L15ok, awDo3⟩
  · exact ⟨_, L15ok, awDo4⟩
  · exact ⟨_, L15ok, awDo5⟩
  · exact ⟨_, LAok, awDo6⟩)
def t99 : List (List DV × DV) := [([small0], .tu [s0, dn 0])]
theorem t99_ok : Con.ok ⟨99, tabK t99⟩ := tab_ok' ⟨_, Tryz.func99, by kernel_rfl⟩ (n := 1000) (k := 3) (m := 30) (fun e he => by
  unfold t99 at he
  simp only [List.mem_cons, List.not_mem_nil, or_false] at he
  subst he
  · exact ⟨_, L15ok, awNew⟩)
def t42 : List (List DV × DV) := [([small0, ev4, dn 0, dn 7], .tu [ck4, dn 0])]
theorem t42_ok : Con.ok ⟨42, tabK t42⟩ := tab_ok' ⟨_, Tryz.func42, by kernel_rfl⟩ (n := 1000) (k := 3) (m := 30) (fun e he => by
  unfold t42 at he
  simp only [List.mem_cons, List.not_mem_nil, or_false] at he
  subst he
  · exact ⟨_, L15ok, awFold⟩)
def LB : List Con := ⟨16, tabK t16⟩ :: ⟨99, tabK t99⟩ :: ⟨42, tabK t42⟩ :: L15
theorem LBok : ConsOk LB := .cons _ _ t16_ok (.cons _ _ t99_ok (.cons _ _ t42_ok L15ok))
theorem aw : deepA Tryz.prog (GC LB) 1000 3 30 13 [] = some (db true) := by kernel_rfl
def K13 : List DV → Option DV := fin (some (db true))
theorem ok13 : Con.ok ⟨13, K13⟩ := fun ds d e => by
  cases ds with
  | nil => cases e; exact deep_ok mixed sane (GC_grows _) (GC_ok LBok) ⟨_, Tryz.func13, by kernel_rfl⟩ aw
  | cons a r => cases e
def L16 : List Con := ⟨13, K13⟩ :: L15
theorem lk16 (f : FuncId) (ds : List DV) : lookC L16 f ds = if 13 = f then K13 ds else lookC L15 f ds := rfl
theorem L16ok : ConsOk L16 := .cons _ _ ok13 L15ok
end Go.Proofs.YtffopeihcebpjaaGreat.X
