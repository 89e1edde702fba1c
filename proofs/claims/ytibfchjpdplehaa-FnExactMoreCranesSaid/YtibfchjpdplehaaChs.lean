import Derived.Test.YtibfchjpdplehaaKit
namespace Go.Proofs.Ytibfchjpdplehaa.G
open Go.RowKit Go.Proofs.YtibfchjpdplehaaW.PrintWords Go.Proofs.YtibfchjpdplehaaW.PrintLast
set_option linter.unusedVariables false
set_option linter.unusedSimpArgs false
/-- All lists of numbers below n that begin with some, d more to come. -/
def chIn (f : List Int → List (List Int)) (dv : List Int) : Nat → Int → List (List Int)
  | 0, _ => []
  | r + 1, k => f (dv ++ [k]) ++ chIn f dv r (k + 1)
def chs (n : Nat) : Nat → List Int → List (List Int)
  | 0, dv => [dv]
  | d + 1, dv => chIn (chs n d) dv n 0
theorem rd_left (xs ys : List Int) (k : Int) (h0 : 0 ≤ k) (h1 : k < (xs.length : Int)) : rd (xs ++ ys) k = rd xs k := by
  unfold rd
  rw [List.getD_eq_getElem?_getD, List.getD_eq_getElem?_getD, List.getElem?_append_left (by omega)]
theorem rd_last (xs : List Int) (x : Int) : rd (xs ++ [x]) (xs.length : Int) = x := by
  unfold rd
  rw [List.getD_eq_getElem?_getD, List.getElem?_append_right (by omega), show ((xs.length : Int)).toNat - xs.length = 0 from by omega]
  rfl
theorem chs_begin (n : Nat) : ∀ (d : Nat) (dv l : List Int), l ∈ chs n d dv → ∃ q, l = dv ++ q ∧ q.length = d := by
  intro d
  induction d with
  | zero =>
    intro dv l h
    refine ⟨[], ?_, rfl⟩
    simpa [chs] using h
  | succ d ih =>
    intro dv l h
    have go : ∀ (r : Nat) (k : Int), l ∈ chIn (chs n d) dv r k → ∃ q, l = dv ++ q ∧ q.length = d + 1 := by
      intro r
      induction r with
      | zero => intro k h; cases h
      | succ r ihr =>
        intro k h
        rcases List.mem_append.1 h with h | h
        · obtain ⟨q, e, hq⟩ := ih _ _ h
          exact ⟨k :: q, by rw [e, List.append_assoc]; rfl, by rw [List.length_cons, hq]⟩
        · exact ihr _ h
    exact go n 0 h
end Go.Proofs.Ytibfchjpdplehaa.G
