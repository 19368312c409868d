/- On a triangle of cells in two colours just one colour joins the three sides: by taking the majority of each small triangle. No program in sight. -/
namespace Go.Proofs.Ytcfdlbjngpmcaaa.Tri

def adj (i j a b : Int) : Prop := (a = i + 1 ∧ b = j) ∨ (a = i - 1 ∧ b = j) ∨ (a = i ∧ b = j + 1) ∨ (a = i ∧ b = j - 1) ∨ (a = i + 1 ∧ b = j - 1) ∨ (a = i - 1 ∧ b = j + 1)
/-- A cell of the triangle of a side with a colour. -/
def ok (m : Int) (C : Int → Int → Bool) (p : Bool) (i j : Int) : Prop := 0 ≤ i ∧ 0 ≤ j ∧ i + j < m ∧ C i j = p
inductive Con (m : Int) (C : Int → Int → Bool) (p : Bool) (i j : Int) : Int → Int → Prop
  | refl : ok m C p i j → Con m C p i j i j
  | step {a b c d : Int} : Con m C p i j a b → adj a b c d → ok m C p c d → Con m C p i j c d
theorem Con.ok_right {m : Int} {C : Int → Int → Bool} {p : Bool} {i j a b : Int} (h : Con m C p i j a b) : ok m C p a b := by
  cases h with
  | refl h => exact h
  | step _ _ h => exact h
theorem Con.trans {m : Int} {C : Int → Int → Bool} {p : Bool} {i j a b c d : Int} (h : Con m C p i j a b) (k : Con m C p a b c d) : Con m C p i j c d := by
  induction k with
  | refl _ => exact h
  | step _ h1 h2 ih => exact ih.step h1 h2
theorem adj_symm {i j a b : Int} (h : adj i j a b) : adj a b i j := by unfold adj at *; omega
theorem Con.symm {m : Int} {C : Int → Int → Bool} {p : Bool} {i j a b : Int} (h : Con m C p i j a b) : Con m C p a b i j := by
  induction h with
  | refl h => exact .refl h
  | step h1 h2 h3 ih => exact ((Con.refl h3).step (adj_symm h2) h1.ok_right).trans ih
end Go.Proofs.Ytcfdlbjngpmcaaa.Tri
