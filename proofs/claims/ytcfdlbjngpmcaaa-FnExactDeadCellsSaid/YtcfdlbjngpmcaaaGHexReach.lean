/- Which cells a player's cells join to the first line: told by every set that holds the first line's and is closed. -/
import Derived.Test.YtcfdlbjngpmcaaaGHexNear
import Derived.Test.YtcfdlbjngpmcaaaGNeedF
namespace Go.Proofs.Ytcfdlbjngpmcaaa.PAll
open Go.RowKit Go.Proofs.YtcfdlbjngpmcaaaW.PrintWords Go.Proofs.YtcfdlbjngpmcaaaW.PrintLast
set_option linter.unusedVariables false

def okc (l : List Int) (p c : Int) : Prop := 0 ≤ c ∧ c < (l.length : Int) ∧ rd l c = p
def Starts (s : Int) (l : List Int) (p : Int) (S : Int → Prop) : Prop := ∀ c, okc l p c → lineI s p c = 0 → S c
def Closed (s : Int) (l : List Int) (p : Int) (S : Int → Prop) : Prop := ∀ a b, S a → b ∈ nearL s a → okc l p b → S b
def Reach (s : Int) (l : List Int) (p : Int) (c : Int) : Prop := ∀ S : Int → Prop, Starts s l p S → Closed s l p S → S c
theorem reach_start {s : Int} {l : List Int} {p c : Int} (h : okc l p c) (h0 : lineI s p c = 0) : Reach s l p c := fun S h1 _ => h1 c h h0
theorem reach_step {s : Int} {l : List Int} {p a b : Int} (ha : Reach s l p a) (hb : b ∈ nearL s a) (h : okc l p b) : Reach s l p b := fun S h1 h2 => h2 a b (ha S h1 h2) hb h
/-- Does a player join the two lines? -/
def Joins (s : Int) (l : List Int) (p : Int) : Prop := ∃ c, Reach s l p c ∧ lineI s p c = s - 1
end Go.Proofs.Ytcfdlbjngpmcaaa.PAll
