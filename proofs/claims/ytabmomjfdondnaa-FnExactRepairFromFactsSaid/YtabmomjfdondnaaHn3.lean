/- A copy of a slice that may be nil: the outcome of its test for nil is not known, so the two cases are shown apart. -/
import Derived.Test.YtabmomjfdondnaaHn1
set_option linter.unusedVariables false
set_option linter.unusedSimpArgs false
namespace Go.Proofs.YtabmomjfdondnaaH
open Go

def cloneB (tail : CCode) : CCode :=
  .seq (.reg false [(0, ⟨some 2, .mv (.c .nils), none, [], [2]⟩)])
    (.seq (.seq (.reg false [(0, ⟨some 3, .mv (.t 0), none, [], []⟩), (1, ⟨some 4, .isnil false (.t 3), none, [], [3]⟩)])
        (.cond (.t 4) (.seq (.kill [0, 4]) (.seq (.reg false [(0, ⟨some 2, .mv (.c .nils), none, [], []⟩)]) .ret)) (.seq (.kill [4]) .skip)))
      tail)
theorem clone_of {Tb : Nat → Option CFn} {X : Ext} {io : Nat → List Nat} {XV : Nat → List T → T → List T → Prop} {f n : Nat} {tail : CCode} {t0 t : T} {V' V2 : VEnv} {rts : List T} {ex : Ex}
    (hXV : ∀ f ts t outs, XV f ts t outs → CallOk Tb X io f ts t outs) (hT : Tb f = some ⟨n, 1, [.t 2], cloneB tail⟩) (hn : 5 ≤ n) (hio : io f = [])
    (hk : VJ Tb io XV (.co n tail [(0, .v t0)] ex V')) (hex : ex = .normal ∨ ex = .ret) (hres : resV V' [.t 2] = some (rts, V2)) (htup : tupT rts = t)
    (hnil : ∀ (H : Heap) (F : Nat → Prop) (ls : List Nat), Den H F .nils t0 ls → ls = [] ∧ Den H F .nils t [])
    (hsl : ∀ (H : Heap) (F : Nat → Prop) (v : AV) (ls : List Nat), Den H F v t0 ls → v = .nils ∨ ∃ l o n e x, v = .sl l o n e x) : CallOk Tb X io f [t0] t [] := by
  intro H F vs ls hd hnd hfz
  have hvl := hd.length
  match vs, hvl, hd with
  | [v], _, hd =>
  rw [dens_one] at hd
  have ev0 : ([v] ++ List.replicate (n - 1) AV.und).getD 0 .und = v := by simp
  have hl0 : ([v] ++ List.replicate (n - 1) AV.und).length = n := by simp; omega
  generalize henv : [v] ++ List.replicate (n - 1) AV.und = env0 at ev0 hl0
  have ga : J Tb X (.co (.reg false [(0, ⟨some 2, .mv (.c .nils), none, [], [2]⟩)]) env0 H .normal (env0.set 2 .nils) H) :=
    .reg (.opDo rfl rfl rfl (fun s n h => by simp at h) .opNil)
  generalize he1 : env0.set 2 .nils = env1 at ga
  have ev1 : env1.getD 0 .und = v := by
    rw [← he1, List.getD_eq_getElem?_getD, List.getElem?_set_ne (by omega), ← List.getD_eq_getElem?_getD]; exact ev0
  have hl1 : env1.length = n := by rw [← he1]; simp [hl0]
  have gb : ∀ b, pureOp (env1.set 3 v) (.isnil false (.t 3)) = some (.bool b) →
      J Tb X (.co (.reg false [(0, ⟨some 3, .mv (.t 0), none, [], []⟩), (1, ⟨some 4, .isnil false (.t 3), none, [], [3]⟩)]) env1 H .normal ((env1.set 3 v).set 4 (.bool b)) H) := by
    intro b hb
    refine .reg (.opDo (v := v) (H1 := H) rfl rfl ?_ (fun s n h => by simp at h) (.opDo (v := .bool b) (H1 := H) rfl rfl ?_ (fun s n h => by simp at h) .opNil))
    · simp only [heapOp, pureOp, Opd.ev, ev1, Option.map_some]
    · simp only [heapOp]
      show (pureOp (env1.set 3 v) (.isnil false (.t 3))).map _ = _
      rw [hb]; rfl
  have ev3 : (env1.set 3 v).getD 3 .und = v := by
    rw [List.getD_eq_getElem?_getD, List.getElem?_set_self (by omega)]; rfl
  have ev4 : ∀ b, ((env1.set 3 v).set 4 (.bool b)).getD 4 .und = .bool b := fun b => by
    rw [List.getD_eq_getElem?_getD, List.getElem?_set_self (by simp; omega)]; rfl
  rcases hsl H F v ls hd with hv | ⟨l, o, k, e, x, hv⟩
  · subst hv
    obtain ⟨rfl, hd2⟩ := hnil H F ls hd
    have hb : pureOp (env1.set 3 .nils) (.isnil false (.t 3)) = some (.bool true) := by simp only [pureOp, Opd.ev, ev3]; rfl
    refine ⟨.nils, H, F, [], ?_, hfz, ?_, List.nodup_nil, ?_⟩
    · refine .call hT rfl (by show 1 ≤ n; omega) (env' := (killT ((env1.set 3 .nils).set 4 (.bool true)) [0, 4]).set 2 .nils) (H' := H) (ex := .ret) ?_ (.inr rfl) ?_
      · show J Tb X (.co (cloneB tail) ([AV.nils] ++ List.replicate (n - 1) AV.und) H .ret _ H)
        rw [henv]
        refine .seqN ga (.seqX (by simp) (.seqN (gb true hb) (.condT ?_ (.seqN .kill (.seqN (.reg (.opDo (v := .nils) (H1 := H) rfl rfl rfl (fun s n h => by simp at h) .opNil)) .ret)))))
        simp only [Opd.ev]; exact ev4 true
      · have : ((killT ((env1.set 3 .nils).set 4 (.bool true)) [0, 4]).set 2 AV.nils).getD 2 .und = .nils := by
          rw [List.getD_eq_getElem?_getD, List.getElem?_set_self (by simp [killT]; omega)]; rfl
        simp only [results, List.mapM_cons, List.mapM_nil, resOf, this]; rfl
    · rw [hio, ioSel_nil, dens_one]; exact hd2
    · exact Tr.refl _ _ _
  · have hb : pureOp (env1.set 3 v) (.isnil false (.t 3)) = some (.bool false) := by simp only [pureOp, Opd.ev, ev3]; rw [hv]
    generalize he4 : killT ((env1.set 3 v).set 4 (.bool false)) [4] = env4
    have hl4 : env4.length = n := by rw [← he4, killT_len]; simp [hl1]
    have e40 : env4.getD 0 .und = v := by
      rw [← he4]
      simp only [killT, List.foldl_cons, List.foldl_nil]
      rw [List.getD_eq_getElem?_getD, List.getElem?_set_ne (by omega), List.getElem?_set_ne (by omega), List.getElem?_set_ne (by omega), ← List.getD_eq_getElem?_getD]; exact ev1
    have s0 : Sta H F env4 [] (fun _ => []) := ⟨hfz, fun s => by simp only [VEnv.get, SR]; rw [Den], fun s => List.nodup_nil, by simp, fun s _ => rfl⟩
    have s1 := s0.fill (s := 0) (t := t0) (l1 := ls) rfl (by omega) (by rw [e40]; exact hd) hnd (fun q l _ h => by simp at h)
    obtain ⟨env', H', F', Lf', h1, h2, h3, h4⟩ := vsound hXV hk H F env4 _ hl4 s1
    obtain ⟨rvs, m1, Lf1, e1, e2, e3⟩ := res_ok' h3 Lo.nil hres
    simp only [List.nil_append] at e2
    obtain ⟨w, hw1, hw2⟩ := results_eq e1 e2.lo.den
    refine ⟨w, H', F', m1, .call hT rfl (by show 1 ≤ n; omega) (ex := ex) ?_ hex hw1, h3.fz, ?_, e2.lo.nd, ?_⟩
    · show J Tb X (.co (cloneB tail) ([v] ++ List.replicate (n - 1) AV.und) H ex _ _)
      rw [henv]
      refine .seqN ga (.seqN (.seqN (gb false hb) (.condF (by simp only [Opd.ev]; exact ev4 false) (.seqN .kill .skip))) ?_)
      rw [he4]; exact h1
    · rw [hio, ioSel_nil, dens_one]; exact htup ▸ hw2
    · have h0 : ∀ l, Pl (upL (fun _ => []) 0 ls) l → l ∈ ls := fun l ⟨s, hl⟩ => by
        unfold upL at hl; split at hl
        · exact hl
        · simp at hl
      refine ⟨h4.sz, fun l hl hn => h4.fr l hl fun hp => hn (h0 l hp), fun l hl => ?_, h4.fm, fun l hl => ?_⟩
      · exact (h4.pl l (e3 l hl)).imp (h0 l) id
      · exact (h4.fp l hl).imp id (Or.imp (h0 l) id)
theorem cl_nil {α : Type} {E : En α} {b : Bool} {l : List α} (H : Heap) (F : Nat → Prop) (ls : List Nat) (h : Den H F .nils (ssl E l) ls) : ls = [] ∧ Den H F .nils (osl E b l) [] := by
  rw [Den] at h
  rcases h with ⟨h1, h2, h3, h4, h5⟩ | ⟨_, _, _, _, h, _⟩
  · have : l = [] := by
      have h6 := congrArg List.length h2
      rw [arr_len] at h6
      simp only [List.length_nil, Nat.mul_eq_zero] at h6
      rcases h6 with h6 | h6
      · exact List.length_eq_zero_iff.1 h6
      · omega
    subst this
    refine ⟨h4, ?_⟩
    rw [Den]
    exact .inl ⟨rfl, by simp, .inl rfl, rfl, h5⟩
  · cases h
theorem cl_sl {α : Type} {E : En α} {l : List α} (H : Heap) (F : Nat → Prop) (v : AV) (ls : List Nat) (h : Den H F v (ssl E l) ls) : v = .nils ∨ ∃ l o n e x, v = .sl l o n e x := by
  rw [Den] at h
  rcases h with ⟨_, _, h3, _, _⟩ | ⟨l, o, n, cs, h, _⟩
  · rcases h3 with h3 | ⟨l, o, h3⟩
    · exact .inl h3
    · exact .inr ⟨_, _, _, _, _, h3⟩
  · exact .inr ⟨_, _, _, _, _, h⟩
theorem cl_eq {α : Type} {bs : Nat} {l r : List α} (h : ((app bs [] l).bind fun x => some x) = some r) : r = l := by
  unfold app at h
  split at h
  · simpa using h.symm
  · simp at h
theorem ca_clone {x : Cx} {X : Ext} {α : Type} {E : En α} {b : Bool} {l r : List α} {f nt : Nat} {tail : CCode} {outs : List T}
    (hx1 : ∀ f ts t outs, CallOk x.fns X x.io f ts t outs → x.X f ts t outs) (hx2 : ∀ f ts t outs, x.X f ts t outs → CallOk x.fns X x.io f ts t outs)
    (hf : x.fns f = some ⟨nt, 1, [.t 2], cloneB tail⟩) (hn : 5 ≤ nt) (hio : x.io f = []) (hr : r = l)
    (h : Wc x nt tail (startV 0 [ssl E l] []) fun ex V' => (ex = .normal ∨ ex = .ret) ∧ ∃ rts V2 V3, resV V' [.t 2] = some (rts, V2) ∧ takesV V2 (ioOpds (x.io f) 1) = some (outs, V3) ∧ tupT rts = osl E b r) : VJx x (.ca f [ssl E l] (osl E b r) outs) := by
  subst hr
  obtain ⟨ex, V', h1, hex, rts, V2, V3, h2, h3, h4⟩ := h
  have : outs = [] := by
    rw [hio] at h3
    have e : ioOpds [] 1 = [] := ioSel_nil _ _
    rw [e] at h3
    simp only [takesV, Option.some.injEq, Prod.mk.injEq] at h3
    exact h3.1.symm
  subst this
  exact VJ.ext (hx1 _ _ _ _ (clone_of hx2 hf hn hio h1 hex h2 h4 cl_nil cl_sl))
@[simp] theorem wrap_u8_nonneg {n : Int} : 0 ≤ IntKind.u8.wrap n := by unfold IntKind.wrap IntKind.signed IntKind.bits; simp; omega
@[simp] theorem wrap_u8_lt {n : Int} : IntKind.u8.wrap n < 256 := by unfold IntKind.wrap IntKind.signed IntKind.bits; simp; omega
/-- A cut of what stands for a list. -/
theorem cut_arr {α : Type} {E : En α} {b : Bool} {l v : List α} {lo hi : Int} (h : cutL l lo hi = some v) : ((arr E b l).take (hi.toNat * E.w)).drop (lo.toNat * E.w) = arr E b v := by
  rw [arr_take, arr_drop, (cut_some h).2.2.2]
end Go.Proofs.YtabmomjfdondnaaH
