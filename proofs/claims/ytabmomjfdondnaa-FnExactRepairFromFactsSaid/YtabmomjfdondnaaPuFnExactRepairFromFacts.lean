/- The plain law of FnExactRepairFromFacts. -/
import Derived.Test.YtabmomjfdondnaaTd1
import Derived.Test.YtabmomjfdondnaaPb13
set_option linter.unusedVariables false
set_option linter.unusedSimpArgs false
namespace Go.Proofs.YtabmomjfdondnaaH
open Go
theorem lawFnExactRepairFromFacts (a : Database) (ha : ok a) (b : List Int) (hb : ok b) : f6 a b = some true := by
  unfold f6
  by_cases h0 : (b.length : Int) > 1048576
  · rw [if_pos h0]
  rw [if_neg h0, szDb ha (by omega) (by omega), Option.bind_some]
  by_cases h1 : lft 1048576 (dbSize a) < 0
  · rw [if_pos h1]
  rw [if_neg h1]
  have hs := (lft_pos h1).2
  have hf := db_fits (a := a) (by omega)
  have hl : b.length ≤ 1048576 := by omega
  have hr := rep_len (d := a) (l := b)
  obtain ⟨k, k1, k2⟩ := markDb (a := a) (by omega)
  simp only [toDb hf, toI hl, repImp hf hl, repSpec hf hl, Option.bind_some, eqI (a := (rep a b).1) (by omega), eqI (a := b) (by omega), eqDb hf, k1,
    markI (a := b) (k := k) (by omega) (by omega), markI (a := (rep a b).1) (k := 1) (by omega) (by omega), heldI (k := 1) (n := (rep a b).1.length) (by omega) (by omega)]
  have e1 : ¬ ((k : Int) + b.length < 0) := by omega
  have e2 : ¬ ((1 : Int) + (rep a b).1.length < 0) := by omega
  simp [e1, e2]
end Go.Proofs.YtabmomjfdondnaaH

