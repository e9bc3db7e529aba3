/- Code and calls: an abstract run is a run of the model. -/
import Derived.Test.YtabmomjfdondnaaHm12
set_option linter.unusedVariables false
set_option linter.unusedSimpArgs false
namespace Go.Proofs.YtabmomjfdondnaaH
open Go

section
variable {P : Program} {ops : Array Oper} {L : List (Nat × COper)}

def unlisted (ops : Array Oper) (listed : Array Bool) : Nat := ((List.range ops.size).filter fun i => !listed.getD i false).length

theorem wpAny_of_inv {Q : Exit → Act → World → Prop} {E : Nat → Env} {K : Nat → Heap} {V : Nat → AV} {base : Nat} {m0 : Map} {w0 : World} {ds : List Deferred} (hc : Chk P ops L) (hr : Run P L E K V)
    (hQ : ∀ m a w, EnvL m (E L.length) a → a.defers = ds → Ok base m0 (K 0) w0 m (K L.length) w → Q .normal a w) :
    ∀ (fuel : Nat) (listed : Array Bool) (T : Nat) (m : Map) (a : Act) (w : World), listed.size = ops.size → unlisted ops listed ≤ fuel → Inv P ops L E K base m0 w0 ds (fun i => listed.getD i false = true) T m a w → wpAny P .any ops Q fuel listed a w := by
  -- nothing is ready: all has been run
  have fin : ∀ (listed : Array Bool) (T : Nat) (m : Map) (a : Act) (w : World), listed.size = ops.size → Inv P ops L E K base m0 w0 ds (fun i => listed.getD i false = true) T m a w → Region.ready .any ops listed = [] → Q .normal a w := by
    intro listed T m a w hsz hI hnil
    have hall : ∀ p (hp : p < L.length), listed.getD L[p].1 false = true := by
      intro p
      induction p using Nat.strongRecOn with
      | _ p ih =>
        intro hp
        obtain ⟨o, ho, hpre⟩ := topo_at hc.topo p hp
        cases hx : listed.getD L[p].1 false with
        | true => rfl
        | false =>
          exfalso
          have hlt : L[p].1 < ops.size := (Array.getElem?_eq_some_iff.1 ho).1
          have : L[p].1 ∈ Region.ready .any ops listed := by
            rw [mem_ready]
            refine ⟨?_, o, ho, fun e he hb => ?_⟩
            · simpa [Array.getD_eq_getD_getElem?, Array.getElem?_eq_getElem (show L[p].1 < listed.size by omega)] using hx
            · rcases hpre e he hb with h1 | ⟨q, hq, h1⟩
              · simp at h1
              · rw [← h1]; exact ih q hq (by omega)
          rw [hnil] at this; simp at this
    have hT : T = L.length := by
      rcases Nat.lt_or_ge T L.length with h1 | h1
      · exact absurd (hall T h1) (hI.after T h1 (Nat.le_refl _))
      · have := hI.tle; omega
    subst hT
    refine hQ m a w (hI.env.of_eq (fun s => ?_) (by rw [envS_length, hr.length _ (Nat.le_refl _)])) hI.defers hI.ok
    rw [envS_at hr]
    by_cases hw : ∃ q, ∃ hq : q < L.length, L[q].2.dst = some s
    · obtain ⟨q, hq, hd⟩ := hw
      rw [if_pos ⟨q, hq, hall q hq, hd⟩]
    · rw [if_neg (by rintro ⟨q, hq, _, hd⟩; exact hw ⟨q, hq, hd⟩)]
      exact hr.same L.length (Nat.zero_le _) (Nat.le_refl _) fun r hr' _ _ he => hw ⟨r, hr', he⟩
  intro fuel
  induction fuel with
  | zero =>
    intro listed T m a w hsz hu hI
    have hnil : Region.ready .any ops listed = [] := by
      rw [List.eq_nil_iff_forall_not_mem]
      intro j hj
      rw [mem_ready] at hj
      obtain ⟨h1, o, ho, _⟩ := hj
      have hlt : j < ops.size := (Array.getElem?_eq_some_iff.1 ho).1
      have hmem : j ∈ (List.range ops.size).filter fun i => !listed.getD i false := by
        rw [List.mem_filter]
        refine ⟨List.mem_range.2 hlt, ?_⟩
        have : listed.getD j false = false := by simpa [Array.getD_eq_getD_getElem?, Array.getElem?_eq_getElem (show j < listed.size by omega)] using h1
        rw [this]; rfl
      have : (List.range ops.size).filter (fun i => !listed.getD i false) = [] := List.eq_nil_of_length_eq_zero (by unfold unlisted at hu; omega)
      rw [this] at hmem; simp at hmem
    exact ⟨hnil, fin listed T m a w hsz hI hnil⟩
  | succ fuel ih =>
    intro listed T m a w hsz hu hI
    refine ⟨fin listed T m a w hsz hI, fun i hi => ?_⟩
    rw [mem_ready] at hi
    obtain ⟨h1, o, ho, hpre⟩ := hi
    have hlt : i < ops.size := (Array.getElem?_eq_some_iff.1 ho).1
    have hif : listed.getD i false = false := by simpa [Array.getD_eq_getD_getElem?, Array.getElem?_eq_getElem (show i < listed.size by omega)] using h1
    obtain ⟨p, hp, rfl⟩ := hc.all i hlt
    refine hI.step (S' := fun j => (listed.setIfInBounds L[p].1 true).getD j false = true) hc hr hp (by simp [hif]) (fun j => ?_) (fun o' ho' e he hb => ?_) fun T' m' a' w' hI' => ?_
    · constructor
      · intro hj
        by_cases hji : j = L[p].1
        · exact .inr hji
        · rw [getD_set_ne false (Ne.symm hji)] at hj; exact .inl hj
      · rintro (hj | hj)
        · exact getD_set_true hj
        · subst hj
          simp [Array.getD_eq_getD_getElem?, show L[p].1 < listed.size by omega]
    · rw [ho] at ho'
      simp only [Option.some.injEq] at ho'
      subst ho'
      exact hpre e he hb
    · refine ih _ T' m' a' w' (by simpa using hsz) ?_ hI'
      have hsub : ((List.range ops.size).filter fun j => !(listed.setIfInBounds L[p].1 true).getD j false) = ((List.range ops.size).filter fun j => !listed.getD j false).filter fun j => j != L[p].1 := by
        rw [List.filter_filter]
        apply List.filter_congr
        intro j _
        by_cases hji : j = L[p].1
        · subst hji
          simp [Array.getD_eq_getD_getElem?, show L[p].1 < listed.size by omega]
        · rw [getD_set_ne false (Ne.symm hji)]
          simp [hji]
      unfold unlisted at hu ⊢
      rw [hsub]
      have hlt2 : (((List.range ops.size).filter fun j => !listed.getD j false).filter fun j => j != L[p].1).length < ((List.range ops.size).filter fun j => !listed.getD j false).length := by
        rw [List.length_filter_lt_length_iff_exists]
        refine ⟨L[p].1, ?_, by simp⟩
        rw [List.mem_filter]
        exact ⟨List.mem_range.2 hlt, by rw [hif]; rfl⟩
      omega

theorem Rel.drew {base : Nat} {m : Map} {H : Heap} {w : World} (h : Rel base m H w) : Rel base m H { w with drawn := w.drawn + 1 } := ⟨h.dom, h.size, h.cells, h.own, h.ro, h.sep⟩
theorem Ok.drew {base : Nat} {m : Map} {H : Heap} {w : World} (h : Rel base m H w) : Ok base m H w m H { w with drawn := w.drawn + 1 } :=
  ⟨h.drew, MLe.refl _, Nat.le_refl _, fun _ _ e => ⟨e, rfl⟩, ⟨rfl, rfl, rfl, Nat.le_refl _, fun _ _ _ => rfl⟩, fun l i e h => .inr ⟨l, i, e, h, rfl⟩⟩

/-- A region whose order is open. -/
theorem draw_ok {Q : Exit → Act → World → Prop} {id : Nat} {env env' : Env} {H H' : Heap} {base : Nat} {m : Map} {a : Act} {w : World} (hmx : P.follows .mixedOrders = true) (hchk : drawChk P ops L = true) (hs : OpsSim P L env H env' H') (hrel : Rel base m H w) (hE : EnvL m env a)
    (hQ : ∀ a' w' m', EnvL m' env' a' → a'.defers = a.defers → Ok base m H w m' H' w' → Q .normal a' w') : (Code.region id ops true).wp P Q a w := by
  refine wp_region_any hmx ?_
  have hc := chk_of hchk
  obtain ⟨E, K, V, h1, h2, h3, h4, h5⟩ := trace hs
  have hr : Run P L E K V := ⟨fun p hp => (h5 p hp).1, fun p hp => (h5 p hp).2.1, fun p hp => (h5 p hp).2.2.1, fun p hp => (h5 p hp).2.2.2⟩
  subst h1 h2 h3 h4
  obtain ⟨T, hI⟩ := Inv.start (P := P) (ops := ops) hr hrel.drew hE
  refine wpAny_of_inv hc hr (fun m' a' w' he hd hok => hQ a' w' m' he hd ((Ok.drew hrel).trans hok)) ops.size (Array.replicate ops.size false) T m a _ (by simp) ?_ ?_
  · unfold unlisted
    exact Nat.le_trans (List.length_filter_le _ _) (by simp)
  · have : (fun i => (Array.replicate ops.size false).getD i false = true) = fun _ => False := by
      funext i
      simp [Array.getD_eq_getD_getElem?, Array.getElem?_replicate]
      split <;> simp
    rw [this]; exact hI
end

/-! ### Which code -/
def regChk (P : Program) (d : Bool) (ops : Array Oper) (L : List (Nat × COper)) : Bool :=
  if d then drawChk P ops L else L.all (opMatch P ops) && L.map (·.1) == List.range ops.size
def CCode.isKill : CCode → Bool
  | .kill _ => true
  | _ => false
def chk (P : Program) : CCode → Code → Bool
  | .skip, C => match C with | .skip => true | _ => false
  | .kill _, _ => false
  | .reg d L, C => match C with | .region _ ops d' => d == d' && regChk P d ops L | _ => false
  | .seq a b, C => if a.isKill then chk P b C else if b.isKill then chk P a C else match C with | .seq A B => chk P a A && chk P b B | _ => false
  | .cond c a b, C => match C with | .cond X A B => mO c X && chk P a A && chk P b B | _ => false
  | .block id c, C => match C with | .block id' B => id == id' && chk P c B | _ => false
  | .loop c, C => match C with | .loop B => chk P c B | _ => false
  | .exit id, C => match C with | .exit id' => id == id' | _ => false
  | .ret, C => match C with | .ret => true | _ => false

def mRes (P : Program) : CRes → ResultVar → Bool
  | .t i, .tmp j => i == j
  | .m i n ag, .cell j T => i == j && isAggT P T ag n
  | _, _ => false
def mRess (P : Program) : List CRes → List ResultVar → Bool
  | [], [] => true
  | x :: xs, y :: ys => mRes P x y && mRess P xs ys
  | _, _ => false
def chkFn (P : Program) (f : Nat) (cf : CFn) : Bool :=
  match P.funcs[f]? with
  | some fn => match fn.body with
    | some C => chk P cf.body C && fn.ntmps == cf.ntmps && mRess P cf.res fn.results.toList && !(fn.name == "runtime.NumGoroutine")
    | none => false
  | none => false

def Ex.toExit : Ex → Exit
  | .normal => .normal
  | .exit id => .exit id
  | .ret => .ret

def LoopWp (P : Program) (c : Code) (Q : Exit → Act → World → Prop) (a : Act) (w : World) : Prop :=
  ∀ (b : Go.Frame) (k : List Item) (cs : List Go.Frame), ∃ e a' w', Q e a' w' ∧ Arrives P (lone (b.at a (.code c :: .inLoop c :: k)) cs w) b k cs e a' w'
def WpL (P : Program) (C : Code) (Q : Exit → Act → World → Prop) (a : Act) (w : World) : Prop :=
  match C with
  | .loop c => LoopWp P c Q a w
  | C => C.wp P Q a w
section
variable {P : Program} {Q : Exit → Act → World → Prop} {a : Act} {w : World}
theorem LoopWp.wp {c : Code} (h : LoopWp P c Q a w) : (Code.loop c).wp P Q a w := fun b k cs =>
  let ⟨e, a', w', hq, harr⟩ := h b k cs
  ⟨e, a', w', hq, .of_steps (.one step_loop) harr⟩
theorem WpL.wp {C : Code} (h : WpL P C Q a w) : C.wp P Q a w := by
  cases C <;> first | exact LoopWp.wp h | exact h
theorem LoopWp.round {c : Code} (h : c.wp P (Exit.then (fun a' w' => LoopWp P c Q a' w') Q) a w) : LoopWp P c Q a w := by
  intro b k cs
  obtain ⟨e, a₁, w₁, hq, harr⟩ := h b (.inLoop c :: k) cs
  cases e with
  | normal =>
    obtain ⟨e₂, a₂, w₂, hq₂, harr₂⟩ := hq b k cs
    exact ⟨e₂, a₂, w₂, hq₂, .of_steps (Steps.trans harr (.one step_inLoop)) harr₂⟩
  | exit id => exact ⟨_, a₁, w₁, hq, .pass (x := .inLoop c) rfl (fun _ _ => .inl (by simp)) harr⟩
  | goto l => exact ⟨_, a₁, w₁, hq, .pass (x := .inLoop c) rfl (fun _ _ => .inl (by simp)) harr⟩
  | ret => exact ⟨_, a₁, w₁, hq, .pass (x := .inLoop c) rfl (fun _ _ => .inl (by simp)) harr⟩
  | panic ch => exact ⟨_, a₁, w₁, hq, .pass (x := .inLoop c) rfl (fun _ _ => .inl (by simp)) harr⟩
  | outgrown => exact ⟨_, a₁, w₁, hq, .pass (x := .inLoop c) rfl (fun _ _ => .inl (by simp)) harr⟩
end

/-! ### Heaps grow -/
theorem wr_sz {H H' : Heap} {l o : Nat} {cs : List AV} (h : H.wr l o cs = some H') : H'.sz = H.sz := by
  unfold Heap.wr at h
  split at h
  · simp only [Option.some.injEq] at h; subst h; rfl
  · simp at h
theorem heap_sz {env : Env} {H H1 : Heap} {v : AV} {c : COp} (h : heapOp env H c = some (v, H1)) : H.sz ≤ H1.sz := by
  by_cases ho : isOther c = true
  · cases c with
    | st n p x =>
      simp only [heapOp] at h
      split at h
      · split at h
        · obtain ⟨H', hw, h⟩ := Option.map_eq_some_iff.1 h
          simp only [Prod.mk.injEq] at h
          rw [← h.2, wr_sz hw]; exact Nat.le_refl _
        · simp at h
      · simp at h
    | appm e bs zs s x =>
      simp only [heapOp] at h
      split at h
      · split at h
        · simp only [Option.some.injEq, Prod.mk.injEq] at h; rw [← h.2]; simp [Heap.new]
        · simp at h
      · simp at h
    | app e bs s x =>
      simp only [heapOp] at h
      obtain ⟨⟨k, ys⟩, _, h⟩ := Option.bind_eq_some_iff.1 h
      simp only at h
      split at h
      · split at h
        · simp only [Option.some.injEq, Prod.mk.injEq] at h; rw [← h.2]; exact Nat.le_refl _
        · split at h
          · simp only [Option.some.injEq, Prod.mk.injEq] at h; rw [← h.2]; exact Nat.le_refl _
          · simp at h
        · simp at h
      · split at h
        · simp at h
        · split at h
          · split at h
            · simp only [Option.some.injEq, Prod.mk.injEq] at h; rw [← h.2]; simp [Heap.new]
            · simp at h
          · split at h
            · simp at h
            · obtain ⟨xs, _, h⟩ := Option.bind_eq_some_iff.1 h
              split at h
              · split at h
                · simp only [Option.some.injEq, Prod.mk.injEq] at h; rw [← h.2]; simp [Heap.new]
                · simp at h
              · split at h
                · obtain ⟨H', hw, h⟩ := Option.map_eq_some_iff.1 h
                  simp only [Prod.mk.injEq] at h
                  rw [← h.2, wr_sz hw]; exact Nat.le_refl _
                · split at h
                  · simp only [Option.some.injEq, Prod.mk.injEq] at h; rw [← h.2]; simp [Heap.new, Heap.kill]
                  · simp at h
          · simp at h
    | cpy e d s =>
      simp only [heapOp] at h
      split at h
      · simp only [Option.some.injEq, Prod.mk.injEq] at h; rw [← h.2]; exact Nat.le_refl _
      · simp only [Option.some.injEq, Prod.mk.injEq] at h; rw [← h.2]; exact Nat.le_refl _
      · simp only [Option.some.injEq, Prod.mk.injEq] at h; rw [← h.2]; exact Nat.le_refl _
      · split at h
        · simp at h
        · obtain ⟨xs, _, h⟩ := Option.bind_eq_some_iff.1 h
          obtain ⟨H', hw, h⟩ := Option.map_eq_some_iff.1 h
          simp only [Prod.mk.injEq] at h
          rw [← h.2, wr_sz hw]; exact Nat.le_refl _
      · simp at h
    | clr e zs x =>
      simp only [heapOp] at h
      split at h
      · simp only [Option.some.injEq, Prod.mk.injEq] at h; rw [← h.2]; exact Nat.le_refl _
      · split at h
        · simp at h
        · split at h
          · simp only [Option.some.injEq, Prod.mk.injEq] at h; rw [← h.2]; exact Nat.le_refl _
          · obtain ⟨H', hw, h⟩ := Option.map_eq_some_iff.1 h
            simp only [Prod.mk.injEq] at h
            rw [← h.2, wr_sz hw]; exact Nat.le_refl _
      · simp at h
    | slx e x lo hi mx =>
      have key : ∀ {b : Option (AV × Heap)}, b = some (v, H1) → (∀ p, b = some p → p.2 = H) → H.sz ≤ H1.sz := by
        intro b hb hp
        rw [← hp _ hb]; exact Nat.le_refl _
      refine key h ?_
      intro p hp
      simp only [heapOp] at hp
      repeat' split at hp
      all_goals first
        | (simp only [Option.some.injEq] at hp; rw [← hp])
        | simp at hp
    | b2s x =>
      simp only [heapOp] at h
      split at h
      · simp only [Option.some.injEq, Prod.mk.injEq] at h; rw [← h.2]; exact Nat.le_refl _
      · split at h
        · obtain ⟨xs, _, h⟩ := Option.bind_eq_some_iff.1 h
          obtain ⟨s, _, h⟩ := Option.map_eq_some_iff.1 h
          simp only [Prod.mk.injEq] at h
          rw [← h.2]; exact Nat.le_refl _
        · simp at h
      · simp at h
    | call => simp [heapOp, pureOp] at h
    | callv => simp [heapOp, pureOp] at h
    | fail => simp [heapOp, pureOp] at h
    | _ => simp [isOther] at ho
  · rcases quiet_heap (by simpa using ho) h with h1 | ⟨cs, _, h1⟩
    · rw [h1]; exact Nat.le_refl _
    · rw [h1]; simp [Heap.new]

end Go.Proofs.YtabmomjfdondnaaH
