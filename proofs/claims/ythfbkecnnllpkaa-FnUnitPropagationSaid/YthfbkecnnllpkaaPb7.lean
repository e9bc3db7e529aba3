/- Plain laws: what unit propagation gives is a clause again. -/
import Derived.Test.YthfbkecnnllpkaaTd1
import Derived.Test.YthfbkecnnllpkaaPb6
set_option linter.unusedVariables false
set_option linter.unusedSimpArgs false
namespace Go.Proofs.YthfbkecnnllpkaaH
open Go
theorem prop_good {n : Int} {l : List (List Int)} (hn : n ≤ 14) (hl : ∀ c ∈ l, Lits n c) : ∀ (k : Nat) (out : List Int), Good n out → Good n (prop l k out).1 := by
  intro k
  induction k with
  | zero => intro out ho; exact ho
  | succ k ih =>
    intro out ho
    rw [prop]
    cases hr : round out l with
    | inl o =>
      obtain ⟨o, b⟩ := o
      cases b with
      | true =>
        obtain ⟨v, hv, hs⟩ := round_inl hr
        exact ih o (by rw [hv]; exact scan_good hn hl ho hs)
      | false =>
        unfold round at hr
        cases hs : scan out l with
        | none => rw [hs] at hr; simp at hr; exact hr ▸ ho
        | some x => cases x with
          | none => rw [hs] at hr; simp at hr
          | some v => rw [hs] at hr; simp at hr
    | inr r =>
      unfold round at hr
      cases hs : scan out l with
      | none => rw [hs] at hr; simp at hr
      | some x => cases x with
        | none => rw [hs] at hr; simp at hr; rw [← hr]; exact ho
        | some v => rw [hs] at hr; simp at hr
theorem up_len {n : Int} {l : List (List Int)} {s : List Int} (hs : s.length ≤ 1048576) : (up n l s).1.length ≤ 1048576 := by
  unfold up
  split
  · rename_i h
    obtain ⟨h0, h1, h2, h3⟩ := valid_lits h.1
    have := (prop_good h1 (fun c hc => (h3 c hc).1) 15 s ((clS_good h0 h1).1 h.2)).le14 h1
    omega
  · exact hs
end Go.Proofs.YthfbkecnnllpkaaH

