/- The plain law of FnRUP. -/
import Derived.Test.YthfbkecnnllpkaaTd1
import Derived.Test.YthfbkecnnllpkaaPb8
import Derived.Test.YthfbkecnnllpkaaPb9
set_option linter.unusedVariables false
set_option linter.unusedSimpArgs false
namespace Go.Proofs.YthfbkecnnllpkaaH
open Go
theorem lawFnRUP (code : List Int) (hcode : ok code) : f14 code = some true := by
  unfold f14 f47
  rw [Option.bind_some]
  by_cases hb : (code.length : Int) > 1048576
  · rw [if_pos (by simpa using hb)]
  rw [if_neg (by simpa using hb)]
  obtain ⟨o, e, a1, a2, a3, a4, a5, a6⟩ := drawOk (code := code) (by omega)
  have e' : f50 code = some (o.1, o.2.1, o.2.2) := by
    unfold f50; rw [e]; rfl
  rw [e', Option.bind_some]
  obtain ⟨n, l, c⟩ := o
  simp only at a1 a2 a3 a4 a5 a6 ⊢
  have q : ∀ x ∈ l, Big x.length := fun x hx => by have := a4 x hx; omega
  rw [rupImp (show Big l.length by omega) q (by omega)]
  simp only [Option.bind_some, rupSpec (n := n) (c := c) (show Big l.length by omega) q (by omega)]
  by_cases hr : rup n l c = true
  · rw [if_neg (by simp), hr]
    simp only [Option.bind_some]
    rw [if_neg (by simp)]
    obtain ⟨s1, s2⟩ := shl_two (n := n) (by omega) (by omega)
    rw [iter_ex (List.range (2 ^ n.toNat)) (fun _ => false) false (fun k hk => by
      simp only [List.length_range] at hk
      simp only [f14_0]
      rw [nn_ok (by omega), Option.bind_some, s1, if_pos (by omega), mkl_ok (by omega) (by omega) (by omega), Option.bind_some]
      rw [iter_copy (a := mods n.toNat k) (by rw [mods_len]; simp) (fun v hv out ho => by
        rw [mods_len] at hv
        simp only [f14_1]
        rw [if_pos (by omega), nn_ok (by omega), Option.bind_some, ix_nat ho, w64_succ (by omega), Option.bind_some, Int.toNat_natCast]
        simp [mods, bit]) (fun out => by
        simp only [f14_1]
        rw [if_neg (by rw [mods_len]; omega)])]
      have hm : ((mods n.toNat k).length : Int) = n := by rw [mods_len]; omega
      rw [Option.bind_some, satSpec (show Big l.length by omega) q (by omega), Option.bind_some, satSpec (l := [c]) (by simp) (fun x hx => by simp only [List.mem_singleton] at hx; subst hx; omega) (by omega), Option.bind_some, w64_succ (by omega)]
      cases hs : sat l (mods n.toNat k)
      · simp
      · rw [rup_true hr hm hs]; simp) (by
      simp only [f14_0]
      rw [nn_ok (by omega), Option.bind_some, s1, if_neg (by simp)])]
    simp
  · simp only [Bool.not_eq_true] at hr
    rw [hr]; simp
end Go.Proofs.YthfbkecnnllpkaaH

