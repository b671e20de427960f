import JvmDerived
import JvmDerived.Pilot.@@N@@Statement
import JvmDerived.Pilot.@@N@@Code
set_option linter.unusedVariables false
set_option linter.unusedSimpArgs false
namespace Jvm.RoadKit
open Sem ClassFile Op Lib Jvm.Stand Jvm.Free Jvm.LawKit
section New
variable {p : Program} {l : Launch} {e : Env} {R : Room} {s : State} {m : MethodId} {args : Array Value} {below : List Frame} {meth : Method} {c : Code} {T : State} {locs : List Loc} {cells slots : Nat}
theorem retI (X : Stand p l e R s m args below meth c T locs cells slots) (hx : p.tables.exec = Jvm.exec) {pc : Nat} {Ls : Array Slot} {z : Int32} {rest : List Value} (hret : meth.sig.returnType = some .int) (hd : decode c.code pc = .ok (.ireturn, 1)) {fs : List Frame}
    (hl : ∀ (f : JFrame) (acts : List Action), f.method = m → f.locked = none → f.entered = [] → (doReturn e (T.setTop f) acts (some (.int z))).1 = T.setFrames fs) : Steps p.tables e below (T.setTop (mkF m pc Ls (.int z :: rest))) (T.setFrames fs) := by
  have hm' : T.vm.method? m = some meth := X.method'
  have hn : narrow .int (.int z) = .int z := rfl
  show Steps p.tables e below (T.setTop { method := m, pc := pc, locals := Ls, stack := _ :: rest, locked := none }) _
  jvm_step X.here [X.here.top, hx, hd, hm', hret, hn]
  first | (intro acts; rw [hl _ acts rfl rfl rfl]) | rw [hl _ _ rfl rfl rfl]
  exact Steps.refl _
end New
end Jvm.RoadKit
namespace Jvm.Own
open Jvm Jvm.ClassFile Sem Op Lib Jvm.Free Jvm.Stand Jvm.LawKit Jvm.RoadKit
/-! ## 1. Local variables: what the walk knows of them (L) and what they are (r) -/
def rv (ρ : Nat → Addr) : Value → Value
  | .ref k => .ref (ρ k)
  | .int x => .int x
  | .long x => .long x
  | .float x => .float x
  | .double x => .double x
  | .null => .null
  | .retAddr x => .retAddr x
def rs (ρ : Nat → Addr) : Slot → Slot
  | .val v => .val (rv ρ v)
  | .unset => .unset
  | .second => .second
theorem rv_cat (ρ : Nat → Addr) (v : Value) : (rv ρ v).category = v.category := by cases v <;> rfl
def WR (f : Nat → Option Slot) : Prop := (∀ i v, f i = some (.val v) → v.category = 2 → f (i + 1) = some .second) ∧ (∀ i, f i = some .second → ∃ j v, i = j + 1 ∧ f j = some (.val v) ∧ v.category = 2)
def up (f : Nat → Option Slot) (i : Nat) (x : Slot) : Nat → Option Slot := fun k => if k = i then some x else f k
def C1 (s : Option Slot) : Prop := s = some .unset ∨ ∃ w, s = some (.val w) ∧ w.category = 1
theorem C1.not2 {s : Option Slot} (h : C1 s) : s ≠ some .second ∧ ∀ v, s = some (.val v) → v.category ≠ 2 := by
  rcases h with rfl | ⟨w, rfl, h⟩
  · exact ⟨nofun, nofun⟩
  · exact ⟨nofun, fun v e q => by cases e; omega⟩
theorem up_at (f : Nat → Option Slot) (i : Nat) (x : Slot) : up f i x i = some x := by simp [up]
theorem up_ne (f : Nat → Option Slot) {i k : Nat} (x : Slot) (h : k ≠ i) : up f i x k = f k := by simp [up, h]
theorem WR.one {f : Nat → Option Slot} {i : Nat} {x : Slot} (h : WR f) (hi : C1 (f i)) (hx : C1 (some x)) : WR (up f i x) := by
  obtain ⟨n1, n2⟩ := hi.not2
  obtain ⟨m1, m2⟩ := hx.not2
  constructor
  · intro k v hk hv
    by_cases e : k = i
    · subst e; rw [up_at] at hk; exact absurd hv (m2 v hk)
    · rw [up_ne _ _ e] at hk
      have q := h.1 k v hk hv
      by_cases e2 : k + 1 = i
      · rw [e2] at q; exact absurd q n1
      · rw [up_ne _ _ e2]; exact q
  · intro k hk
    by_cases e : k = i
    · subst e; rw [up_at] at hk; exact absurd hk m1
    · rw [up_ne _ _ e] at hk
      obtain ⟨j, v, e1, e2, e3⟩ := h.2 k hk
      refine ⟨j, v, e1, ?_, e3⟩
      by_cases e4 : j = i
      · rw [e4] at e2; exact absurd e3 (n2 v e2)
      · rw [up_ne _ _ e4]; exact e2
theorem WR.clr {f : Nat → Option Slot} {j : Nat} {v : Value} (h : WR f) (hj : f j = some (.val v)) (hv : v.category = 2) : WR (up (up f j .unset) (j + 1) .unset) := by
  have q := h.1 j v hj hv
  constructor
  · intro k w hk hw
    by_cases e : k = j + 1
    · subst e; rw [up_at] at hk; cases hk
    · rw [up_ne _ _ e] at hk
      by_cases e2 : k = j
      · subst e2; rw [up_at] at hk; cases hk
      · rw [up_ne _ _ e2] at hk
        have q2 := h.1 k w hk hw
        by_cases e3 : k + 1 = j
        · rw [e3] at q2; rw [hj] at q2; cases q2
        · rw [up_ne _ _ (show k + 1 ≠ j + 1 by omega), up_ne _ _ e3]; exact q2
  · intro k hk
    by_cases e : k = j + 1
    · subst e; rw [up_at] at hk; cases hk
    · rw [up_ne _ _ e] at hk
      by_cases e2 : k = j
      · subst e2; rw [up_at] at hk; cases hk
      · rw [up_ne _ _ e2] at hk
        obtain ⟨i, w, e3, e4, e5⟩ := h.2 k hk
        refine ⟨i, w, e3, ?_, e5⟩
        by_cases e6 : i = j + 1
        · rw [e6, q] at e4; cases e4
        · rw [up_ne _ _ e6, up_ne _ _ (show i ≠ j by omega)]; exact e4
theorem WR.two {f : Nat → Option Slot} {i : Nat} {v : Value} (h : WR f) (h1 : C1 (f i)) (h2 : C1 (f (i + 1))) (hv : v.category = 2) : WR (up (up f i (.val v)) (i + 1) .second) := by
  obtain ⟨n1, n2⟩ := h1.not2
  obtain ⟨m1, m2⟩ := h2.not2
  constructor
  · intro k w hk hw
    by_cases e : k = i + 1
    · subst e; rw [up_at] at hk; cases hk
    · rw [up_ne _ _ e] at hk
      by_cases e2 : k = i
      · subst e2; exact up_at _ _ _
      · rw [up_ne _ _ e2] at hk
        have q := h.1 k w hk hw
        by_cases e3 : k + 1 = i
        · rw [e3] at q; exact absurd q n1
        · rw [up_ne _ _ (show k + 1 ≠ i + 1 by omega), up_ne _ _ e3]; exact q
  · intro k hk
    by_cases e : k = i + 1
    · exact ⟨i, v, e, by rw [up_ne _ _ (show i ≠ i + 1 by omega), up_at], hv⟩
    · rw [up_ne _ _ e] at hk
      by_cases e2 : k = i
      · subst e2; rw [up_at] at hk; cases hk
      · rw [up_ne _ _ e2] at hk
        obtain ⟨j, w, e3, e4, e5⟩ := h.2 k hk
        refine ⟨j, w, e3, ?_, e5⟩
        by_cases e6 : j = i + 1
        · rw [e6] at e4; exact absurd e5 (m2 w e4)
        · by_cases e7 : j = i
          · omega
          · rw [up_ne _ _ e6, up_ne _ _ e7]; exact e4
theorem up_arr {r : Array Slot} {i : Nat} (hi : i < r.size) (x : Slot) : (fun k => (r.setIfInBounds i x)[k]?) = up (fun k => r[k]?) i x := by
  funext k
  show (r.setIfInBounds i x)[k]? = _
  rw [Array.getElem?_setIfInBounds]
  by_cases e : i = k
  · subst e; simp [up, hi]
  · rw [if_neg e, up_ne _ _ (Ne.symm e)]
theorem up_lst {L : List Slot} {i : Nat} (hi : i < L.length) (x : Slot) : (fun k => (L.set i x)[k]?) = up (fun k => L[k]?) i x := by
  funext k
  show (L.set i x)[k]? = _
  rw [List.getElem?_set]
  by_cases e : i = k
  · subst e; simp [up, hi]
  · rw [if_neg e, up_ne _ _ (Ne.symm e)]
def SR (ρ : Nat → Addr) (L : List Slot) (r : Array Slot) : Prop :=
  r.size = L.length ∧ (∀ (i : Nat) (v : Value), L[i]? = some (.val v) → r[i]? = some (.val (rv ρ v))) ∧ (∀ (i : Nat), L[i]? = some .second → r[i]? = some .second) ∧ WR (fun k => L[k]?) ∧ WR (fun k => r[k]?)
theorem SR.get {ρ : Nat → Addr} {L : List Slot} {r : Array Slot} (h : SR ρ L r) {i : Nat} {v : Value} (e : L[i]? = some (.val v)) : r[i]? = some (.val (rv ρ v)) := h.2.1 i v e
/-- a store of one word over nothing or one word -/
theorem SR.st1 {ρ : Nat → Addr} {L : List Slot} {r : Array Slot} {i : Nat} {v : Value} (h : SR ρ L r) (ho : C1 L[i]?) (hv : v.category = 1) :
    ∃ r', storeLocals r i (rv ρ v) = some r' ∧ SR ρ (L.set i (.val v)) r' := by
  obtain ⟨h1, h2, h3, h4, h5⟩ := h
  have hi : i < L.length := by
    rcases ho with h | ⟨w, h, -⟩ <;> exact (List.getElem?_eq_some_iff.mp h).1
  have hir : i < r.size := by omega
  have hcv : (rv ρ v).category = 1 := by rw [rv_cat]; exact hv
  have hcx : C1 (some (Slot.val (rv ρ v))) := Or.inr ⟨_, rfl, hcv⟩
  obtain ⟨n1, n2⟩ := ho.not2
  have fin : ∀ r' : Array Slot, r'.size = r.size → WR (fun k => r'[k]?) → r'[i]? = some (.val (rv ρ v)) → (∀ k, k ≠ i → r'[k]? = r[k]? ∨ ∀ s, L[k]? = some s → s = .unset) → SR ρ (L.set i (.val v)) r' := by
    intro r' a1 a2 a3 a4
    refine ⟨by rw [a1, h1, List.length_set], ?_, ?_, by rw [up_lst hi]; exact h4.one ho (Or.inr ⟨v, rfl, hv⟩), a2⟩
    · intro k w hk
      rw [List.getElem?_set] at hk
      by_cases e : i = k
      · subst e; simp [hi] at hk; subst hk; exact a3
      · rw [if_neg e] at hk
        rcases a4 k (Ne.symm e) with q | q
        · rw [q]; exact h2 k w hk
        · cases q _ hk
    · intro k hk
      rw [List.getElem?_set] at hk
      by_cases e : i = k
      · subst e; simp [hi] at hk
      · rw [if_neg e] at hk
        rcases a4 k (Ne.symm e) with q | q
        · rw [q]; exact h3 k hk
        · cases q _ hk
  obtain ⟨q, hq⟩ : ∃ q, r[i]? = some q := ⟨_, Array.getElem?_eq_getElem hir⟩
  have plain : C1 (r[i]?) → ∃ r', storeLocals r i (rv ρ v) = some r' ∧ SR ρ (L.set i (.val v)) r' := by
    intro hC
    have hs : storeLocals r i (rv ρ v) = some (r.setIfInBounds i (.val (rv ρ v))) := by
      rcases hC with e | ⟨w, e, hw⟩
      · exact XS.store1 e (Or.inl rfl) hcv
      · exact XS.store1 e (Or.inr ⟨w, rfl, hw⟩) hcv
    refine ⟨_, hs, fin _ (by simp) (by rw [up_arr hir]; exact h5.one hC hcx) (by simp [hir]) ?_⟩
    intro k hk
    exact Or.inl (Array.getElem?_setIfInBounds_ne (Ne.symm hk))
  cases q with
  | unset => exact plain (Or.inl hq)
  | val w =>
    by_cases hw : w.category = 2
    · have q2 := h5.1 i w hq hw
      have hj : i + 1 < r.size := (Array.getElem?_eq_some_iff.mp q2).1
      have Lu : ∀ k, (k = i ∨ k = i + 1) → ∀ s, L[k]? = some s → s = .unset := by
        intro k hk s hs
        cases s with
        | unset => rfl
        | second =>
          rcases hk with rfl | rfl
          · exact absurd hs n1
          · obtain ⟨j, u, e1, e2, e3⟩ := h4.2 _ hs
            have : j = i := by omega
            subst this
            exact absurd e3 (n2 u e2)
        | val u =>
          rcases hk with rfl | rfl
          · have := h2 _ _ hs
            rw [hq] at this
            cases this
            rw [rv_cat] at hw
            exact absurd hw (n2 u hs)
          · have := h2 _ _ hs
            have q3 : r[i + 1]? = some .second := q2
            rw [q3] at this; cases this
      have hs : storeLocals r i (rv ρ v) = some ((r.setIfInBounds (i + 1) .unset).setIfInBounds i (.val (rv ρ v))) := by
        simp [storeLocals, storeSelf, setAt, hq, (Array.getElem?_eq_some_iff.mp hq).2, hw, hj, hir, hcv]
      refine ⟨_, hs, fin _ (by simp) ?_ (by simp [hir]) ?_⟩
      · have e : (fun k => ((r.setIfInBounds (i + 1) .unset).setIfInBounds i (.val (rv ρ v)))[k]?) = up (up (up (fun k => r[k]?) i .unset) (i + 1) .unset) i (.val (rv ρ v)) := by
          rw [up_arr (by simpa using hir), up_arr hj]
          funext k
          simp only [up]
          by_cases e : k = i
          · simp [e]
          · simp [e]
        rw [e]
        exact (h5.clr hq hw).one (Or.inl (by simp [up])) hcx
      · intro k hk
        by_cases e : k = i + 1
        · exact Or.inr (Lu k (Or.inr e))
        · left
          rw [Array.getElem?_setIfInBounds_ne (Ne.symm hk), Array.getElem?_setIfInBounds_ne (Ne.symm e)]
    · refine plain (Or.inr ⟨w, hq, ?_⟩)
      cases w <;> simp [Value.category] at hw ⊢
  | second =>
    obtain ⟨j, u, e1, e2, e3⟩ := h5.2 i hq
    subst e1
    have e2' : r[j]? = some (.val u) := e2
    have hj : j < r.size := by omega
    have Lu : ∀ s, L[j]? = some s → s = .unset := by
      intro s hs
      cases s with
      | unset => rfl
      | second => have := h3 _ hs; rw [e2'] at this; cases this
      | val w =>
        have := h2 _ _ hs
        rw [e2'] at this
        cases this
        rw [rv_cat] at e3
        exact absurd (h4.1 j w hs e3) n1
    have hs : storeLocals r (j + 1) (rv ρ v) = some ((r.setIfInBounds j .unset).setIfInBounds (j + 1) (.val (rv ρ v))) := by
      simp [storeLocals, storeSelf, setAt, hq, (Array.getElem?_eq_some_iff.mp hq).2, hj, hir, hcv]
    refine ⟨_, hs, fin _ (by simp) ?_ (by simp [hir]) ?_⟩
    · have e : (fun k => ((r.setIfInBounds j .unset).setIfInBounds (j + 1) (.val (rv ρ v)))[k]?) = up (up (up (fun k => r[k]?) j .unset) (j + 1) .unset) (j + 1) (.val (rv ρ v)) := by
        rw [up_arr (by simpa using hir), up_arr hj]
        funext k
        simp only [up]
        by_cases e : k = j + 1
        · simp [e]
        · simp [e]
      rw [e]
      exact (h5.clr e2 e3).one (Or.inl (by simp [up])) hcx
    · intro k hk
      by_cases e : k = j
      · subst e; exact Or.inr Lu
      · left
        rw [Array.getElem?_setIfInBounds_ne (Ne.symm hk), Array.getElem?_setIfInBounds_ne (Ne.symm e)]
end Jvm.Own

namespace Jvm.Own
open Jvm Jvm.ClassFile Sem Op Lib Jvm.Free Jvm.Stand Jvm.LawKit Jvm.RoadKit
theorem cat12 (w : Value) (h : ¬ w.category = 2) : w.category = 1 := by cases w <;> simp [Value.category] at h ⊢
theorem getset_ne {r : Array Slot} {i k : Nat} {x t : Slot} (h : r[k]? = some t) (ne : i ≠ k) (hk : k < (r.setIfInBounds i x).size) : (r.setIfInBounds i x)[k] = t := by
  have q : (r.setIfInBounds i x)[k]? = some t := by rw [Array.getElem?_setIfInBounds_ne ne]; exact h
  exact (Array.getElem?_eq_some_iff.mp q).2
/-- a store of two words over nothing or single words -/
theorem SR.st2 {ρ : Nat → Addr} {L : List Slot} {r : Array Slot} {i : Nat} {v : Value} (h : SR ρ L r) (ho : C1 L[i]?) (ho' : C1 L[i + 1]?) (hv : v.category = 2) :
    ∃ r', storeLocals r i (rv ρ v) = some r' ∧ SR ρ ((L.set i (.val v)).set (i + 1) .second) r' := by
  obtain ⟨h1, h2, h3, h4, h5⟩ := h
  have hi : i + 1 < L.length := by
    rcases ho' with h | ⟨w, h, -⟩ <;> exact (List.getElem?_eq_some_iff.mp h).1
  have hir1 : i + 1 < r.size := by omega
  have hir : i < r.size := by omega
  have hcv : (rv ρ v).category = 2 := by rw [rv_cat]; exact hv
  obtain ⟨n1, n2⟩ := ho.not2
  obtain ⟨m1, m2⟩ := ho'.not2
  have nr : ∀ w, r[i]? = some (.val w) → ∀ u, L[i]? = some (.val u) → w.category = 2 → False := by
    intro w hw u hu hc
    have := h2 _ _ hu
    rw [hw] at this; cases this
    rw [rv_cat] at hc
    exact n2 u hu hc
  have fin : ∀ r' : Array Slot, r'.size = r.size → WR (fun k => r'[k]?) → r'[i]? = some (.val (rv ρ v)) → r'[i + 1]? = some .second → (∀ k, k ≠ i → k ≠ i + 1 → r'[k]? = r[k]? ∨ ∀ s, L[k]? = some s → s = .unset) → SR ρ ((L.set i (.val v)).set (i + 1) .second) r' := by
    intro r' a1 a2 a3 a3' a4
    refine ⟨by rw [a1, h1]; simp, ?_, ?_, by rw [up_lst (by simpa using hi), up_lst (by omega)]; exact h4.two ho ho' hv, a2⟩
    · intro k w hk
      rw [List.getElem?_set] at hk
      by_cases e : i + 1 = k
      · subst e; simp [hi] at hk
      · rw [if_neg e, List.getElem?_set] at hk
        by_cases e2 : i = k
        · subst e2; simp [show i < L.length by omega] at hk; subst hk; exact a3
        · rw [if_neg e2] at hk
          rcases a4 k (Ne.symm e2) (Ne.symm e) with q | q
          · rw [q]; exact h2 k w hk
          · cases q _ hk
    · intro k hk
      rw [List.getElem?_set] at hk
      by_cases e : i + 1 = k
      · subst e; exact a3'
      · rw [if_neg e, List.getElem?_set] at hk
        by_cases e2 : i = k
        · subst e2; simp [show i < L.length by omega] at hk
        · rw [if_neg e2] at hk
          rcases a4 k (Ne.symm e2) (Ne.symm e) with q | q
          · rw [q]; exact h3 k hk
          · cases q _ hk
  have Lun2 : ∀ u, r[i + 1]? = some (.val u) → u.category = 2 → ∀ s, L[i + 2]? = some s → s = .unset := by
    intro u hu hc s hs
    have q2 : r[i + 2]? = some .second := h5.1 (i + 1) u hu hc
    cases s with
    | unset => rfl
    | second =>
      obtain ⟨j, w, e1, e2, e3⟩ := h4.2 _ hs
      have : j = i + 1 := by omega
      subst this
      exact absurd e3 (m2 w e2)
    | val w => have := h2 _ _ hs; rw [q2] at this; cases this
  obtain ⟨q, hq⟩ : ∃ q, r[i]? = some q := ⟨_, Array.getElem?_eq_getElem hir⟩
  obtain ⟨q1, hq1⟩ : ∃ q, r[i + 1]? = some q := ⟨_, Array.getElem?_eq_getElem hir1⟩
  have ne1 : i + 1 ≠ i := by omega
  cases q with
  | unset =>
    have hC : C1 (r[i]?) := Or.inl hq
    cases q1 with
    | unset =>
      refine ⟨(r.setIfInBounds i (.val (rv ρ v))).setIfInBounds (i + 1) .second, by simp [storeLocals, storeSelf, setAt, hq, (Array.getElem?_eq_some_iff.mp hq).2, hq1, (Array.getElem?_eq_some_iff.mp hq1).2, hir, hir1, hcv, Array.getElem?_setIfInBounds], fin _ (by simp) ?_ (by simp [hir, Array.getElem?_setIfInBounds]) (by simp [hir1]) ?_⟩
      · rw [up_arr (by simpa using hir1), up_arr hir]; exact h5.two hC (Or.inl hq1) hcv
      · intro k a b; left; rw [Array.getElem?_setIfInBounds_ne (Ne.symm b), Array.getElem?_setIfInBounds_ne (Ne.symm a)]
    | second => obtain ⟨j, w, e1, e2, e3⟩ := h5.2 _ hq1; have : j = i := by omega
                subst this; have e2' : r[j]? = some (.val w) := e2; rw [hq] at e2'; cases e2'
    | val u =>
      by_cases hu : u.category = 2
      · have q2 : r[i + 2]? = some .second := h5.1 (i + 1) u hq1 hu
        have hi2 : i + 2 < r.size := (Array.getElem?_eq_some_iff.mp q2).1
        refine ⟨((r.setIfInBounds i (.val (rv ρ v))).setIfInBounds (i + 2) .unset).setIfInBounds (i + 1) .second, by simp [storeLocals, storeSelf, setAt, hq, (Array.getElem?_eq_some_iff.mp hq).2, hq1, (Array.getElem?_eq_some_iff.mp hq1).2, hir, hir1, hi2, hcv, hu, Array.getElem?_setIfInBounds], fin _ (by simp) ?_ (by simp [hir, Array.getElem?_setIfInBounds]) (by simp [hir1]) ?_⟩
        · have e : (fun k => (((r.setIfInBounds i (.val (rv ρ v))).setIfInBounds (i + 2) .unset).setIfInBounds (i + 1) .second)[k]?) = up (up (up (up (fun k => r[k]?) (i + 1) .unset) (i + 2) .unset) i (.val (rv ρ v))) (i + 1) .second := by
            rw [up_arr (by simpa using hir1), up_arr (by simpa using hi2), up_arr hir]
            funext k
            simp only [up]
            by_cases e : k = i + 1
            · simp [e]
            · by_cases e2 : k = i
              · simp [e2]
              · simp [e, e2]
          rw [e]
          exact (h5.clr hq1 hu).two (Or.inl (by simp [up, hq] <;> omega)) (Or.inl (by simp [up] <;> omega)) hcv
        · intro k a b
          by_cases e : k = i + 2
          · subst e; exact Or.inr (Lun2 u hq1 hu)
          · left; rw [Array.getElem?_setIfInBounds_ne (Ne.symm b), Array.getElem?_setIfInBounds_ne (Ne.symm e), Array.getElem?_setIfInBounds_ne (Ne.symm a)]
      · refine ⟨(r.setIfInBounds i (.val (rv ρ v))).setIfInBounds (i + 1) .second, by simp [storeLocals, storeSelf, setAt, hq, (Array.getElem?_eq_some_iff.mp hq).2, hq1, (Array.getElem?_eq_some_iff.mp hq1).2, hir, hir1, hcv, hu, Array.getElem?_setIfInBounds], fin _ (by simp) ?_ (by simp [hir, Array.getElem?_setIfInBounds]) (by simp [hir1]) ?_⟩
        · rw [up_arr (by simpa using hir1), up_arr hir]; exact h5.two hC (Or.inr ⟨u, hq1, cat12 u hu⟩) hcv
        · intro k a b; left; rw [Array.getElem?_setIfInBounds_ne (Ne.symm b), Array.getElem?_setIfInBounds_ne (Ne.symm a)]
  | val w =>
    by_cases hw : w.category = 2
    · have q2 : r[i + 1]? = some .second := h5.1 i w hq hw
      have Lu : ∀ s, L[i]? = some s → s = .unset := by
        intro s hs
        cases s with
        | unset => rfl
        | second => exact absurd hs n1
        | val u => exact (nr w hq u hs hw).elim
      refine ⟨((r.setIfInBounds (i + 1) .unset).setIfInBounds i (.val (rv ρ v))).setIfInBounds (i + 1) .second, by simp [storeLocals, storeSelf, setAt, hq, (Array.getElem?_eq_some_iff.mp hq).2, hw, hir, hir1, hcv, Array.getElem?_setIfInBounds], fin _ (by simp) ?_ (by simp [hir, Array.getElem?_setIfInBounds]) (by simp [hir1]) ?_⟩
      · have e : (fun k => (((r.setIfInBounds (i + 1) .unset).setIfInBounds i (.val (rv ρ v))).setIfInBounds (i + 1) .second)[k]?) = up (up (up (up (fun k => r[k]?) i .unset) (i + 1) .unset) i (.val (rv ρ v))) (i + 1) .second := by
          rw [up_arr (by simpa using hir1), up_arr (by simpa using hir), up_arr hir1]
          funext k
          simp only [up]
          by_cases e : k = i + 1
          · simp [e]
          · by_cases e2 : k = i
            · simp [e2]
            · simp [e, e2]
        rw [e]
        exact (h5.clr hq hw).two (Or.inl (by simp [up] <;> omega)) (Or.inl (by simp [up] <;> omega)) hcv
      · intro k a b
        left; rw [Array.getElem?_setIfInBounds_ne (Ne.symm b), Array.getElem?_setIfInBounds_ne (Ne.symm a), Array.getElem?_setIfInBounds_ne (Ne.symm b)]
    · have hC : C1 (r[i]?) := Or.inr ⟨w, hq, cat12 w hw⟩
      cases q1 with
      | unset =>
        refine ⟨(r.setIfInBounds i (.val (rv ρ v))).setIfInBounds (i + 1) .second, by simp [storeLocals, storeSelf, setAt, hq, (Array.getElem?_eq_some_iff.mp hq).2, hq1, (Array.getElem?_eq_some_iff.mp hq1).2, hw, hir, hir1, hcv, Array.getElem?_setIfInBounds], fin _ (by simp) ?_ (by simp [hir, Array.getElem?_setIfInBounds]) (by simp [hir1]) ?_⟩
        · rw [up_arr (by simpa using hir1), up_arr hir]; exact h5.two hC (Or.inl hq1) hcv
        · intro k a b; left; rw [Array.getElem?_setIfInBounds_ne (Ne.symm b), Array.getElem?_setIfInBounds_ne (Ne.symm a)]
      | second => obtain ⟨j, u, e1, e2, e3⟩ := h5.2 _ hq1; have : j = i := by omega
                  subst this; have e2' : r[j]? = some (.val u) := e2; rw [hq] at e2'; cases e2'; exact absurd e3 hw
      | val u =>
        by_cases hu : u.category = 2
        · have q2 : r[i + 2]? = some .second := h5.1 (i + 1) u hq1 hu
          have hi2 : i + 2 < r.size := (Array.getElem?_eq_some_iff.mp q2).1
          refine ⟨((r.setIfInBounds i (.val (rv ρ v))).setIfInBounds (i + 2) .unset).setIfInBounds (i + 1) .second, by simp [storeLocals, storeSelf, setAt, hq, (Array.getElem?_eq_some_iff.mp hq).2, hq1, (Array.getElem?_eq_some_iff.mp hq1).2, hw, hir, hir1, hi2, hcv, hu, Array.getElem?_setIfInBounds], fin _ (by simp) ?_ (by simp [hir, Array.getElem?_setIfInBounds]) (by simp [hir1]) ?_⟩
          · have e : (fun k => (((r.setIfInBounds i (.val (rv ρ v))).setIfInBounds (i + 2) .unset).setIfInBounds (i + 1) .second)[k]?) = up (up (up (up (fun k => r[k]?) (i + 1) .unset) (i + 2) .unset) i (.val (rv ρ v))) (i + 1) .second := by
              rw [up_arr (by simpa using hir1), up_arr (by simpa using hi2), up_arr hir]
              funext k
              simp only [up]
              by_cases e : k = i + 1
              · simp [e]
              · by_cases e2 : k = i
                · simp [e2]
                · simp [e, e2]
            rw [e]
            exact (h5.clr hq1 hu).two (Or.inr ⟨w, by simp [up, hq] <;> omega, cat12 w hw⟩) (Or.inl (by simp [up] <;> omega)) hcv
          · intro k a b
            by_cases e : k = i + 2
            · subst e; exact Or.inr (Lun2 u hq1 hu)
            · left; rw [Array.getElem?_setIfInBounds_ne (Ne.symm b), Array.getElem?_setIfInBounds_ne (Ne.symm e), Array.getElem?_setIfInBounds_ne (Ne.symm a)]
        · refine ⟨(r.setIfInBounds i (.val (rv ρ v))).setIfInBounds (i + 1) .second, by simp [storeLocals, storeSelf, setAt, hq, (Array.getElem?_eq_some_iff.mp hq).2, hq1, (Array.getElem?_eq_some_iff.mp hq1).2, hw, hir, hir1, hcv, hu, Array.getElem?_setIfInBounds], fin _ (by simp) ?_ (by simp [hir, Array.getElem?_setIfInBounds]) (by simp [hir1]) ?_⟩
          · rw [up_arr (by simpa using hir1), up_arr hir]; exact h5.two hC (Or.inr ⟨u, hq1, cat12 u hu⟩) hcv
          · intro k a b; left; rw [Array.getElem?_setIfInBounds_ne (Ne.symm b), Array.getElem?_setIfInBounds_ne (Ne.symm a)]
  | second =>
    obtain ⟨j, y, e1, e2, e3⟩ := h5.2 i hq
    subst e1
    have e2' : r[j]? = some (.val y) := e2
    have hj : j < r.size := by omega
    have Lu : ∀ s, L[j]? = some s → s = .unset := by
      intro s hs
      cases s with
      | unset => rfl
      | second => have := h3 _ hs; rw [e2'] at this; cases this
      | val w =>
        have := h2 _ _ hs
        rw [e2'] at this
        cases this
        rw [rv_cat] at e3
        exact absurd (h4.1 j w hs e3) n1
    have W5 := h5.clr e2 e3
    cases q1 with
    | unset =>
      refine ⟨((r.setIfInBounds j .unset).setIfInBounds (j + 1) (.val (rv ρ v))).setIfInBounds (j + 1 + 1) .second, by simp [storeLocals, storeSelf, setAt, hq, (Array.getElem?_eq_some_iff.mp hq).2, hq1, (Array.getElem?_eq_some_iff.mp hq1).2, getset_ne hq1 (show j ≠ j + 1 + 1 by omega), hj, hir, hir1, hcv, Array.getElem?_setIfInBounds], fin _ (by simp) ?_ (by simp [hir, Array.getElem?_setIfInBounds]) (by simp [hir1]) ?_⟩
      · have e : (fun k => (((r.setIfInBounds j .unset).setIfInBounds (j + 1) (.val (rv ρ v))).setIfInBounds (j + 1 + 1) .second)[k]?) = up (up (up (up (fun k => r[k]?) j .unset) (j + 1) .unset) (j + 1) (.val (rv ρ v))) (j + 1 + 1) .second := by
          rw [up_arr (by simpa using hir1), up_arr (by simpa using hir), up_arr hj]
          funext k
          simp only [up]
          by_cases e : k = j + 1 + 1
          · simp [e]
          · by_cases e2 : k = j + 1
            · simp [e2]
            · simp [e, e2]
        rw [e]
        exact W5.two (Or.inl (by simp [up] <;> omega)) (Or.inl (by simp [up, hq1] <;> omega)) hcv
      · intro k a b
        by_cases e : k = j
        · subst e; exact Or.inr Lu
        · left; rw [Array.getElem?_setIfInBounds_ne (Ne.symm b), Array.getElem?_setIfInBounds_ne (Ne.symm a), Array.getElem?_setIfInBounds_ne (Ne.symm e)]
    | second => obtain ⟨k, w, f1, f2, f3⟩ := h5.2 _ hq1; have : k = j + 1 := by omega
                subst this; have f2' : r[j + 1]? = some (.val w) := f2; rw [hq] at f2'; cases f2'
    | val u =>
      by_cases hu : u.category = 2
      · have q2 : r[j + 1 + 2]? = some .second := h5.1 (j + 1 + 1) u hq1 hu
        have hi2 : j + 1 + 2 < r.size := (Array.getElem?_eq_some_iff.mp q2).1
        refine ⟨(((r.setIfInBounds j .unset).setIfInBounds (j + 1) (.val (rv ρ v))).setIfInBounds (j + 1 + 2) .unset).setIfInBounds (j + 1 + 1) .second, by simp [storeLocals, storeSelf, setAt, hq, (Array.getElem?_eq_some_iff.mp hq).2, hq1, (Array.getElem?_eq_some_iff.mp hq1).2, getset_ne hq1 (show j ≠ j + 1 + 1 by omega), hj, hir, hir1, hi2, hcv, hu, Array.getElem?_setIfInBounds], fin _ (by simp) ?_ (by simp [hir, Array.getElem?_setIfInBounds]) (by simp [hir1]) ?_⟩
        · have e : (fun k => ((((r.setIfInBounds j .unset).setIfInBounds (j + 1) (.val (rv ρ v))).setIfInBounds (j + 1 + 2) .unset).setIfInBounds (j + 1 + 1) .second)[k]?) = up (up (up (up (up (up (fun k => r[k]?) j .unset) (j + 1) .unset) (j + 1 + 1) .unset) (j + 1 + 1 + 1) .unset) (j + 1) (.val (rv ρ v))) (j + 1 + 1) .second := by
            rw [up_arr (by simpa using hir1), up_arr (by simpa using hi2), up_arr (by simpa using hir), up_arr hj]
            funext k
            simp only [up]
            by_cases e : k = j + 1 + 1
            · simp [e]
            · by_cases e2 : k = j + 1
              · simp [e2]
              · simp [e, e2]
          rw [e]
          exact (W5.clr (j := j + 1 + 1) (v := u) (by simp [up, hq1] <;> omega) hu).two (Or.inl (by simp [up] <;> omega)) (Or.inl (by simp [up] <;> omega)) hcv
        · intro k a b
          by_cases e : k = j
          · subst e; exact Or.inr Lu
          · by_cases e4 : k = j + 1 + 2
            · subst e4; exact Or.inr (Lun2 u hq1 hu)
            · left; rw [Array.getElem?_setIfInBounds_ne (Ne.symm b), Array.getElem?_setIfInBounds_ne (Ne.symm e4), Array.getElem?_setIfInBounds_ne (Ne.symm a), Array.getElem?_setIfInBounds_ne (Ne.symm e)]
      · refine ⟨((r.setIfInBounds j .unset).setIfInBounds (j + 1) (.val (rv ρ v))).setIfInBounds (j + 1 + 1) .second, by simp [storeLocals, storeSelf, setAt, hq, (Array.getElem?_eq_some_iff.mp hq).2, hq1, (Array.getElem?_eq_some_iff.mp hq1).2, getset_ne hq1 (show j ≠ j + 1 + 1 by omega), hj, hir, hir1, hcv, hu, Array.getElem?_setIfInBounds], fin _ (by simp) ?_ (by simp [hir, Array.getElem?_setIfInBounds]) (by simp [hir1]) ?_⟩
        · have e : (fun k => (((r.setIfInBounds j .unset).setIfInBounds (j + 1) (.val (rv ρ v))).setIfInBounds (j + 1 + 1) .second)[k]?) = up (up (up (up (fun k => r[k]?) j .unset) (j + 1) .unset) (j + 1) (.val (rv ρ v))) (j + 1 + 1) .second := by
            rw [up_arr (by simpa using hir1), up_arr (by simpa using hir), up_arr hj]
            funext k
            simp only [up]
            by_cases e : k = j + 1 + 1
            · simp [e]
            · by_cases e2 : k = j + 1
              · simp [e2]
              · simp [e, e2]
          rw [e]
          exact W5.two (Or.inl (by simp [up] <;> omega)) (Or.inr ⟨u, by simp [up, hq1] <;> omega, cat12 u hu⟩) hcv
        · intro k a b
          by_cases e : k = j
          · subst e; exact Or.inr Lu
          · left; rw [Array.getElem?_setIfInBounds_ne (Ne.symm b), Array.getElem?_setIfInBounds_ne (Ne.symm a), Array.getElem?_setIfInBounds_ne (Ne.symm e)]
/-- which lists of slots are laid out well -/
def wfL : List Slot → Bool
  | [] => true
  | .unset :: t => wfL t
  | .second :: _ => false
  | [.val v] => decide (v.category = 1)
  | .val v :: .second :: t => decide (v.category = 2) && wfL t
  | .val v :: .unset :: t => decide (v.category = 1) && wfL t
  | .val v :: .val u :: t => decide (v.category = 1) && wfL (.val u :: t)
/-- the walk forgets the variables that the mask marks -/
def fg : List Bool → List Slot → List Slot
  | true :: b, _ :: t => .unset :: fg b t
  | false :: b, s :: t => s :: fg b t
  | _, t => t
theorem WR.nil : WR (fun k => ([] : List Slot)[k]?) := ⟨fun i v h => by simp at h, fun i h => by simp at h⟩
theorem WR.cons1 {t : List Slot} {s : Slot} (h : WR (fun k => t[k]?)) (hs : C1 (some s)) : WR (fun k => (s :: t)[k]?) := by
  obtain ⟨n1, n2⟩ := hs.not2
  constructor
  · intro i v hi hv
    cases i with
    | zero => exact absurd hv (n2 v (by simpa using hi))
    | succ i => have := h.1 i v (by simpa using hi) hv; simpa using this
  · intro i hi
    cases i with
    | zero => exact absurd (by simpa using hi) n1
    | succ i => obtain ⟨j, v, e1, e2, e3⟩ := h.2 i (by simpa using hi); exact ⟨j + 1, v, by omega, by simpa using e2, e3⟩
theorem WR.cons2 {t : List Slot} {w : Value} (h : WR (fun k => t[k]?)) (hw : w.category = 2) : WR (fun k => (Slot.val w :: .second :: t)[k]?) := by
  constructor
  · intro i v hi hv
    match i with
    | 0 => simp
    | 1 => simp at hi
    | i + 2 => have := h.1 i v (by simpa using hi) hv; simpa using this
  · intro i hi
    match i with
    | 0 => simp at hi
    | 1 => exact ⟨0, w, rfl, by simp, hw⟩
    | i + 2 => obtain ⟨j, v, e1, e2, e3⟩ := h.2 i (by simpa using hi); exact ⟨j + 2, v, by omega, by simpa using e2, e3⟩
theorem WR.of_wfL : (L : List Slot) → wfL L = true → WR (fun k => L[k]?)
  | [], _ => WR.nil
  | .unset :: t, h => (WR.of_wfL t h).cons1 (Or.inl rfl)
  | .second :: _, h => by simp [wfL] at h
  | [.val v], h => WR.nil.cons1 (Or.inr ⟨v, rfl, by simpa [wfL] using h⟩)
  | .val v :: .second :: t, h => by simp [wfL] at h; exact (WR.of_wfL t h.2).cons2 h.1
  | .val v :: .unset :: t, h => by simp [wfL] at h; exact ((WR.of_wfL t h.2).cons1 (Or.inl rfl)).cons1 (Or.inr ⟨v, rfl, h.1⟩)
  | .val v :: .val u :: t, h => by
    have h' : decide (v.category = 1) = true ∧ wfL (.val u :: t) = true := by rw [wfL, Bool.and_eq_true] at h; exact h
    exact (WR.of_wfL (.val u :: t) h'.2).cons1 (Or.inr ⟨v, rfl, of_decide_eq_true h'.1⟩)
theorem fg_length : (b : List Bool) → (L : List Slot) → (fg b L).length = L.length
  | true :: b, _ :: t => by simp [fg, fg_length b t]
  | false :: b, s :: t => by simp [fg, fg_length b t]
  | [], t => by simp [fg]
  | true :: _, [] => by simp [fg]
  | false :: _, [] => by simp [fg]
theorem fg_get : (b : List Bool) → (L : List Slot) → ∀ (i : Nat) (s : Slot), (fg b L)[i]? = some s → s = .unset ∨ L[i]? = some s
  | true :: b, x :: t, i, s, h => by
    cases i with
    | zero => left; simpa [fg] using h.symm
    | succ i => have := fg_get b t i s (by simpa [fg] using h); simpa using this
  | false :: b, x :: t, i, s, h => by
    cases i with
    | zero => right; simpa [fg] using h
    | succ i => have := fg_get b t i s (by simpa [fg] using h); simpa using this
  | [], t, i, s, h => by right; simpa [fg] using h
  | true :: _, [], i, s, h => by right; simpa [fg] using h
  | false :: _, [], i, s, h => by right; simpa [fg] using h
theorem SR.forget {ρ : Nat → Addr} {L : List Slot} {r : Array Slot} (h : SR ρ L r) (b : List Bool) (hw : wfL (fg b L) = true) : SR ρ (fg b L) r := by
  obtain ⟨h1, h2, h3, h4, h5⟩ := h
  refine ⟨by rw [fg_length]; exact h1, fun i v hi => ?_, fun i hi => ?_, WR.of_wfL _ hw, h5⟩
  · rcases fg_get _ _ _ _ hi with e | e
    · cases e
    · exact h2 i v e
  · rcases fg_get _ _ _ _ hi with e | e
    · cases e
    · exact h3 i e
/-- at a method's entry -/
theorem a2l (ρ : Nat → Addr) (as : List Value) (mx : Nat) : argsToLocals (as.map (rv ρ)).toArray mx = (argsToLocals as.toArray mx).map (rs ρ) := by
  have key : ∀ (as : List Value) (acc : Array Slot), (as.map (rv ρ)).foldl (fun acc v => if v.category = 2 then (acc.push (.val v)).push .second else acc.push (.val v)) (acc.map (rs ρ)) = (as.foldl (fun acc v => if v.category = 2 then (acc.push (.val v)).push .second else acc.push (.val v)) acc).map (rs ρ) := by
    intro as
    induction as with
    | nil => intro acc; rfl
    | cons v t ih =>
      intro acc
      simp only [List.map_cons, List.foldl_cons, rv_cat]
      by_cases hv : v.category = 2
      · rw [if_pos hv, if_pos hv, ← ih]; simp [Array.map_push, rs]
      · rw [if_neg hv, if_neg hv, ← ih]; simp [Array.map_push, rs]
  have k0 := key as #[]
  simp only [Array.map_empty] at k0
  simp only [argsToLocals, List.foldl_toArray', List.size_toArray]
  simp only [k0, Array.map_append, Array.size_map, Array.map_replicate, rs]
theorem SR.entry (ρ : Nat → Addr) (as : List Value) (mx : Nat) {L : List Slot} (hL : (argsToLocals as.toArray mx).toList = L) (hw : wfL L = true) : SR ρ L (argsToLocals (as.map (rv ρ)).toArray mx) := by
  subst hL
  rw [a2l]
  have hW := WR.of_wfL _ hw
  generalize argsToLocals as.toArray mx = A at hW
  have g : ∀ i : Nat, (A.map (rs ρ))[i]? = (A.toList[i]?).map (rs ρ) := by intro i; simp
  refine ⟨by simp, fun i v hi => by rw [g, hi]; rfl, fun i hi => by rw [g, hi]; rfl, hW, ?_, ?_⟩
  · intro i v hi hv
    have hi' : (A.toList[i]?).map (rs ρ) = some (.val v) := by rw [← g]; exact hi
    cases hs : A.toList[i]? with
    | none => rw [hs] at hi'; cases hi'
    | some s =>
      rw [hs] at hi'
      cases s with
      | unset => cases hi'
      | second => cases hi'
      | val u =>
        cases hi'
        have := hW.1 i u hs (by rwa [rv_cat] at hv)
        show (A.map (rs ρ))[i + 1]? = _
        rw [g]
        have t : A.toList[i + 1]? = some .second := this
        rw [t]; rfl
  · intro i hi
    have hi' : (A.toList[i]?).map (rs ρ) = some .second := by rw [← g]; exact hi
    cases hs : A.toList[i]? with
    | none => rw [hs] at hi'; cases hi'
    | some s =>
      rw [hs] at hi'
      cases s with
      | unset => cases hi'
      | val u => cases hi'
      | second =>
        obtain ⟨j, v, e1, e2, e3⟩ := hW.2 i hs
        refine ⟨j, rv ρ v, e1, ?_, by rw [rv_cat]; exact e3⟩
        show (A.map (rs ρ))[j]? = _
        rw [g]
        have t : A.toList[j]? = some (.val v) := e2
        rw [t]; rfl
end Jvm.Own

namespace Jvm.Own
open Jvm Jvm.ClassFile Sem Op Lib Jvm.Free Jvm.Stand Jvm.LawKit Jvm.RoadKit
/-! ## 2. A method's data; what it means that a walk from a point of it comes to an end -/
/-- name, bytes, number of variables, what it returns, room, cells that it makes -/
abbrev MD : Type := MethodName × ByteArray × Nat × Option FieldType × Room × Nat
abbrev nmOf (md : MD) : MethodName := md.1
abbrev byOf (md : MD) : ByteArray := md.2.1
abbrev mxOf (md : MD) : Nat := md.2.2.1
abbrev rtOf (md : MD) : Option FieldType := md.2.2.2.1
abbrev rmOf (md : MD) : Room := md.2.2.2.2.1
abbrev exOf (md : MD) : Nat := md.2.2.2.2.2
/-- the class whose methods are walked; where the walk's references point; the first new address; what the heap holds; what a walk leaves alone -/
abbrev Mode (μ E : Type) : Type := String × (E → Nat → Addr) × (E → Nat) × (E → μ → Heap → Prop) × (E → Heap → Heap → Prop)
abbrev Mode.own {μ E : Type} (M : Mode μ E) : String := M.1
abbrev Mode.rho {μ E : Type} (M : Mode μ E) : E → Nat → Addr := M.2.1
abbrev Mode.lo {μ E : Type} (M : Mode μ E) : E → Nat := M.2.2.1
abbrev Mode.rel {μ E : Type} (M : Mode μ E) : E → μ → Heap → Prop := M.2.2.2.1
abbrev Mode.frm {μ E : Type} (M : Mode μ E) : E → Heap → Heap → Prop := M.2.2.2.2
def Kn (Z : State) (own : String) (md : MD) (p : Program) (s : State) (m : MethodId) (meth : Method) (c : Code) : Prop :=
  p.tables.exec = Jvm.exec ∧ Z.Warmed39 s.vm ∧ s.vm.findClass own = some m.cls ∧ meth.name = (nmOf md).name ∧ meth.sig.returnType = rtOf md ∧ meth.locks = false ∧ c.code = byOf md ∧ c.maxLocals = mxOf md
def Done {μ E : Type} (l : Launch) (M : Mode μ E) (md : MD) (Q : Option Value → μ → Prop) (en : E) (p : Program) (e : Env) (s : State) (m : MethodId) (args : Array Value) (below : List Frame) (meth : Method) (c : Code) (T : State) (g : JFrame) : Prop :=
  ∃ (T' : State) (locs' : List Loc) (su' : Nat) (v : Option Value) (w' : μ), Stand p l e (rmOf md) s m args below meth c T' locs' (exOf md) su' ∧ exOf md ≤ (rmOf md).cells ∧ su' ≤ (rmOf md).slots ∧ T'.heap.size = s.heap.size + exOf md ∧ Fr (M.lo en) locs' ∧ M.rel en w' T'.heap ∧ M.frm en T.heap T'.heap ∧
    (meth.sig.returnType = none → v = none) ∧ (∀ ρ x, v = some x → rv ρ x = x) ∧ Q v w' ∧
    ∀ fs, (∀ (f : JFrame) (acts : List Action), f.method = m → f.locked = none → f.entered = [] → (doReturn e (T'.setTop f) acts v).1 = T'.setFrames fs) → Steps p.tables e below (T.setTop g) (T'.setFrames fs)
/-- from the pc, with these variables and operands, over w, the walk returns with what Q says -/
def Wk {μ E : Type} (l : Launch) (Z : State) (M : Mode μ E) (md : MD) (pc : Nat) (L : List Slot) (S : List Value) (w : μ) (cu su : Nat) (Q : Option Value → μ → Prop) : Prop :=
  ∀ (en : E) (p : Program) (e : Env) (s : State) (m : MethodId) (args : Array Value) (below : List Frame) (meth : Method) (c : Code) (T : State) (locs : List Loc) (r : Array Slot),
    Stand p l e (rmOf md) s m args below meth c T locs cu su → Kn Z M.own md p s m meth c → T.heap.size = s.heap.size + cu → Fr (M.lo en) locs → M.rel en w T.heap → SR (M.rho en) L r →
    Done l M md Q en p e s m args below meth c T (mkF m pc r (S.map (rv (M.rho en))))
section Steps
variable {μ E : Type} {l : Launch} {Z : State} {M : Mode μ E} {md : MD} {pc pc' : Nat} {L L' : List Slot} {S : List Value} {w : μ} {cu su : Nat} {Q : Option Value → μ → Prop}
theorem Done.pre {en : E} {p : Program} {e : Env} {s : State} {m : MethodId} {args : Array Value} {below : List Frame} {meth : Method} {c : Code} {T T1 : State} {g g1 : JFrame} (h : Done l M md Q en p e s m args below meth c T1 g1) (hT : ∀ x, M.frm en T1.heap x → M.frm en T.heap x)
    (st : ∀ t, Steps p.tables e below (T1.setTop g1) t → Steps p.tables e below (T.setTop g) t) : Done l M md Q en p e s m args below meth c T g := by
  obtain ⟨T', locs', su', v, w', a1, a2, a3, a4, a5, a6, a7, a8, a9, a10, a11⟩ := h
  exact ⟨T', locs', su', v, w', a1, a2, a3, a4, a5, a6, hT _ a7, a8, a9, a10, fun fs hf => st _ (a11 fs hf)⟩
theorem Wk.mono {Q' : Option Value → μ → Prop} (h : Wk l Z M md pc L S w cu su Q) (hq : ∀ v w', Q v w' → Q' v w') : Wk l Z M md pc L S w cu su Q' := by
  intro en p e s m args below meth c T locs r X K hz hF hR hL
  obtain ⟨T', locs', su', v, w', a1, a2, a3, a4, a5, a6, a7, a8, a9, a10, a11⟩ := h en p e s m args below meth c T locs r X K hz hF hR hL
  exact ⟨T', locs', su', v, w', a1, a2, a3, a4, a5, a6, a7, a8, a9, hq _ _ a10, a11⟩
abbrev InsA (md : MD) (pc : Nat) (i : Instr) (n pc' : Nat) : Prop := decode (byOf md) pc = .ok (i, n) ∧ pc + n = pc'
abbrev InsB (md : MD) (pc : Nat) (i : Instr) (n pc' : Nat) (o : Int) (pt : Nat) : Prop := decode (byOf md) pc = .ok (i, n) ∧ pc + n = pc' ∧ 0 ≤ (pc : Int) + o ∧ ((pc : Int) + o).toNat = pt
theorem Kn.by {own : String} {p : Program} {s : State} {m : MethodId} {meth : Method} {c : Code} (K : Kn Z own md p s m meth c) : c.code = byOf md := K.2.2.2.2.2.2.1
theorem Wk.forget (b : List Bool) (hf : fg b L = L') (hw : wfL L' = true) (h : Wk l Z M md pc L' S w cu su Q) : Wk l Z M md pc L S w cu su Q :=
  fun en p e s m args below meth c T locs r X K hz hF hR hL => h en p e s m args below meth c T locs r X K hz hF hR (by subst hf; exact hL.forget b hw)
theorem Wk.iloadN {k : Fin 4} {v : Int32} (hd : InsA md pc (.iload_n k) 1 pc') (hl : L[k.val]? = some (.val (.int v))) (h : Wk l Z M md pc' L (.int v :: S) w cu su Q) : Wk l Z M md pc L (S) w cu su Q :=
  fun en p e s m args below meth c T locs r X K hz hF hR hL => by
  obtain ⟨hd, rfl⟩ := hd
  exact (h en p e s m args below meth c T locs r X K hz hF hR hL).pre (fun _ q => q) fun t k => XS.iloadN X.here K.1 rfl (hb K.by hd) (hL.get hl) k
theorem Wk.iload {k : Nat} {v : Int32} (hd : InsA md pc (.iload k) 2 pc') (hl : L[k]? = some (.val (.int v))) (h : Wk l Z M md pc' L (.int v :: S) w cu su Q) : Wk l Z M md pc L (S) w cu su Q :=
  fun en p e s m args below meth c T locs r X K hz hF hR hL => by
  obtain ⟨hd, rfl⟩ := hd
  exact (h en p e s m args below meth c T locs r X K hz hF hR hL).pre (fun _ q => q) fun t k => XS.iload X.here K.1 rfl (hb K.by hd) (hL.get hl) k
theorem Wk.lloadN {k : Fin 4} {v : Int64} (hd : InsA md pc (.lload_n k) 1 pc') (hl : L[k.val]? = some (.val (.long v))) (h : Wk l Z M md pc' L (.long v :: S) w cu su Q) : Wk l Z M md pc L (S) w cu su Q :=
  fun en p e s m args below meth c T locs r X K hz hF hR hL => by
  obtain ⟨hd, rfl⟩ := hd
  exact (h en p e s m args below meth c T locs r X K hz hF hR hL).pre (fun _ q => q) fun t k => XT.lloadN X.here K.1 rfl (hb K.by hd) (hL.get hl) k
theorem Wk.lload {k : Nat} {v : Int64} (hd : InsA md pc (.lload k) 2 pc') (hl : L[k]? = some (.val (.long v))) (h : Wk l Z M md pc' L (.long v :: S) w cu su Q) : Wk l Z M md pc L (S) w cu su Q :=
  fun en p e s m args below meth c T locs r X K hz hF hR hL => by
  obtain ⟨hd, rfl⟩ := hd
  exact (h en p e s m args below meth c T locs r X K hz hF hR hL).pre (fun _ q => q) fun t k => XT.lload X.here K.1 rfl (hb K.by hd) (hL.get hl) k
theorem Wk.aloadN {k : Fin 4} {v : Nat} (hd : InsA md pc (.aload_n k) 1 pc') (hl : L[k.val]? = some (.val (.ref v))) (h : Wk l Z M md pc' L (.ref v :: S) w cu su Q) : Wk l Z M md pc L (S) w cu su Q :=
  fun en p e s m args below meth c T locs r X K hz hF hR hL => by
  obtain ⟨hd, rfl⟩ := hd
  exact (h en p e s m args below meth c T locs r X K hz hF hR hL).pre (fun _ q => q) fun t k => XS.aloadN X.here K.1 rfl (hb K.by hd) (hL.get hl) rfl k
theorem Wk.aload {k : Nat} {v : Nat} (hd : InsA md pc (.aload k) 2 pc') (hl : L[k]? = some (.val (.ref v))) (h : Wk l Z M md pc' L (.ref v :: S) w cu su Q) : Wk l Z M md pc L (S) w cu su Q :=
  fun en p e s m args below meth c T locs r X K hz hF hR hL => by
  obtain ⟨hd, rfl⟩ := hd
  exact (h en p e s m args below meth c T locs r X K hz hF hR hL).pre (fun _ q => q) fun t k => XS.aload X.here K.1 rfl (hb K.by hd) (hL.get hl) rfl k
theorem Wk.iconst {i : Int} {z : Int32} (hd : InsA md pc (.iconst i) 1 pc') (hz' : Int32.ofInt i = z) (h : Wk l Z M md pc' L (.int z :: S) w cu su Q) : Wk l Z M md pc L (S) w cu su Q :=
  fun en p e s m args below meth c T locs r X K hz hF hR hL => by
  obtain ⟨hd, rfl⟩ := hd
  exact (h en p e s m args below meth c T locs r X K hz hF hR hL).pre (fun _ q => q) fun t k => XS.iconst X.here K.1 rfl (hb K.by hd) (by subst hz'; exact k)
theorem Wk.bipush {i : Int} {z : Int32} (hd : InsA md pc (.bipush i) 2 pc') (hz' : (Int8.ofInt i).toInt32 = z) (h : Wk l Z M md pc' L (.int z :: S) w cu su Q) : Wk l Z M md pc L (S) w cu su Q :=
  fun en p e s m args below meth c T locs r X K hz hF hR hL => by
  obtain ⟨hd, rfl⟩ := hd
  exact (h en p e s m args below meth c T locs r X K hz hF hR hL).pre (fun _ q => q) fun t k => XS.bipush X.here K.1 rfl (hb K.by hd) (by subst hz'; exact k)
theorem Wk.sipush {i : Int} {z : Int32} (hd : InsA md pc (.sipush i) 3 pc') (hz' : (Int16.ofInt i).toInt32 = z) (h : Wk l Z M md pc' L (.int z :: S) w cu su Q) : Wk l Z M md pc L (S) w cu su Q :=
  fun en p e s m args below meth c T locs r X K hz hF hR hL => by
  obtain ⟨hd, rfl⟩ := hd
  exact (h en p e s m args below meth c T locs r X K hz hF hR hL).pre (fun _ q => q) fun t k => XS.sipush X.here K.1 rfl (hb K.by hd) (by subst hz'; exact k)
theorem Wk.lconst {i : Fin 2} {z : Int64} (hd : InsA md pc (.lconst i) 1 pc') (hz' : Int64.ofNat i = z) (h : Wk l Z M md pc' L (.long z :: S) w cu su Q) : Wk l Z M md pc L (S) w cu su Q :=
  fun en p e s m args below meth c T locs r X K hz hF hR hL => by
  obtain ⟨hd, rfl⟩ := hd
  exact (h en p e s m args below meth c T locs r X K hz hF hR hL).pre (fun _ q => q) fun t k => XT.lconst X.here K.1 rfl (hb K.by hd) (by subst hz'; exact k)
theorem Wk.iadd {x y : Int32} (hd : InsA md pc (.iadd) 1 pc') (h : Wk l Z M md pc' L (.int (x + y) :: S) w cu su Q) : Wk l Z M md pc L (.int y :: .int x :: S) w cu su Q :=
  fun en p e s m args below meth c T locs r X K hz hF hR hL => by
  obtain ⟨hd, rfl⟩ := hd
  exact (h en p e s m args below meth c T locs r X K hz hF hR hL).pre (fun _ q => q) fun t k => XS.iadd X.here K.1 rfl (hb K.by hd) rfl k
theorem Wk.isub {x y : Int32} (hd : InsA md pc (.isub) 1 pc') (h : Wk l Z M md pc' L (.int (x - y) :: S) w cu su Q) : Wk l Z M md pc L (.int y :: .int x :: S) w cu su Q :=
  fun en p e s m args below meth c T locs r X K hz hF hR hL => by
  obtain ⟨hd, rfl⟩ := hd
  exact (h en p e s m args below meth c T locs r X K hz hF hR hL).pre (fun _ q => q) fun t k => XS.isub X.here K.1 rfl (hb K.by hd) rfl k
theorem Wk.imul {x y : Int32} (hd : InsA md pc (.imul) 1 pc') (h : Wk l Z M md pc' L (.int (x * y) :: S) w cu su Q) : Wk l Z M md pc L (.int y :: .int x :: S) w cu su Q :=
  fun en p e s m args below meth c T locs r X K hz hF hR hL => by
  obtain ⟨hd, rfl⟩ := hd
  exact (h en p e s m args below meth c T locs r X K hz hF hR hL).pre (fun _ q => q) fun t k => XS.imul X.here K.1 rfl (hb K.by hd) rfl k
theorem Wk.iand {x y : Int32} (hd : InsA md pc (.iand) 1 pc') (h : Wk l Z M md pc' L (.int (x &&& y) :: S) w cu su Q) : Wk l Z M md pc L (.int y :: .int x :: S) w cu su Q :=
  fun en p e s m args below meth c T locs r X K hz hF hR hL => by
  obtain ⟨hd, rfl⟩ := hd
  exact (h en p e s m args below meth c T locs r X K hz hF hR hL).pre (fun _ q => q) fun t k => XS.iand X.here K.1 rfl (hb K.by hd) rfl k
theorem Wk.ior {x y : Int32} (hd : InsA md pc (.ior) 1 pc') (h : Wk l Z M md pc' L (.int (x ||| y) :: S) w cu su Q) : Wk l Z M md pc L (.int y :: .int x :: S) w cu su Q :=
  fun en p e s m args below meth c T locs r X K hz hF hR hL => by
  obtain ⟨hd, rfl⟩ := hd
  exact (h en p e s m args below meth c T locs r X K hz hF hR hL).pre (fun _ q => q) fun t k => XT.ior X.here K.1 rfl (hb K.by hd) rfl k
theorem Wk.ixor {x y : Int32} (hd : InsA md pc (.ixor) 1 pc') (h : Wk l Z M md pc' L (.int (x ^^^ y) :: S) w cu su Q) : Wk l Z M md pc L (.int y :: .int x :: S) w cu su Q :=
  fun en p e s m args below meth c T locs r X K hz hF hR hL => by
  obtain ⟨hd, rfl⟩ := hd
  exact (h en p e s m args below meth c T locs r X K hz hF hR hL).pre (fun _ q => q) fun t k => XT.ixor X.here K.1 rfl (hb K.by hd) rfl k
theorem Wk.ishl {x y : Int32} (hd : InsA md pc (.ishl) 1 pc') (h : Wk l Z M md pc' L (.int (x <<< (y &&& 31)) :: S) w cu su Q) : Wk l Z M md pc L (.int y :: .int x :: S) w cu su Q :=
  fun en p e s m args below meth c T locs r X K hz hF hR hL => by
  obtain ⟨hd, rfl⟩ := hd
  exact (h en p e s m args below meth c T locs r X K hz hF hR hL).pre (fun _ q => q) fun t k => XT.ishl X.here K.1 rfl (hb K.by hd) rfl k
theorem Wk.ishr {x y : Int32} (hd : InsA md pc (.ishr) 1 pc') (h : Wk l Z M md pc' L (.int (x >>> (y &&& 31)) :: S) w cu su Q) : Wk l Z M md pc L (.int y :: .int x :: S) w cu su Q :=
  fun en p e s m args below meth c T locs r X K hz hF hR hL => by
  obtain ⟨hd, rfl⟩ := hd
  exact (h en p e s m args below meth c T locs r X K hz hF hR hL).pre (fun _ q => q) fun t k => XT.ishr X.here K.1 rfl (hb K.by hd) rfl k
theorem Wk.iushr {x y : Int32} (hd : InsA md pc (.iushr) 1 pc') (h : Wk l Z M md pc' L (.int (XT.ushr x y) :: S) w cu su Q) : Wk l Z M md pc L (.int y :: .int x :: S) w cu su Q :=
  fun en p e s m args below meth c T locs r X K hz hF hR hL => by
  obtain ⟨hd, rfl⟩ := hd
  exact (h en p e s m args below meth c T locs r X K hz hF hR hL).pre (fun _ q => q) fun t k => XT.iushr X.here K.1 rfl (hb K.by hd) rfl k
theorem Wk.ineg {x : Int32} (hd : InsA md pc (.ineg) 1 pc') (h : Wk l Z M md pc' L (.int (-x) :: S) w cu su Q) : Wk l Z M md pc L (.int x :: S) w cu su Q :=
  fun en p e s m args below meth c T locs r X K hz hF hR hL => by
  obtain ⟨hd, rfl⟩ := hd
  exact (h en p e s m args below meth c T locs r X K hz hF hR hL).pre (fun _ q => q) fun t k => XS.ineg X.here K.1 rfl (hb K.by hd) rfl k
theorem Wk.idiv {x y : Int32} (hd : InsA md pc (.idiv) 1 pc') (hy : y ≠ 0) (h : Wk l Z M md pc' L (.int (x / y) :: S) w cu su Q) : Wk l Z M md pc L (.int y :: .int x :: S) w cu su Q :=
  fun en p e s m args below meth c T locs r X K hz hF hR hL => by
  obtain ⟨hd, rfl⟩ := hd
  exact (h en p e s m args below meth c T locs r X K hz hF hR hL).pre (fun _ q => q) fun t k => XS.idiv X.here K.1 rfl (hb K.by hd) rfl hy k
theorem Wk.irem {x y : Int32} (hd : InsA md pc (.irem) 1 pc') (hy : y ≠ 0) (h : Wk l Z M md pc' L (.int (x % y) :: S) w cu su Q) : Wk l Z M md pc L (.int y :: .int x :: S) w cu su Q :=
  fun en p e s m args below meth c T locs r X K hz hF hR hL => by
  obtain ⟨hd, rfl⟩ := hd
  exact (h en p e s m args below meth c T locs r X K hz hF hR hL).pre (fun _ q => q) fun t k => Jvm.RoadKit.iremM X K.1 rfl (hb K.by hd) rfl hy k
theorem Wk.ladd {x y : Int64} (hd : InsA md pc (.ladd) 1 pc') (h : Wk l Z M md pc' L (.long (x + y) :: S) w cu su Q) : Wk l Z M md pc L (.long y :: .long x :: S) w cu su Q :=
  fun en p e s m args below meth c T locs r X K hz hF hR hL => by
  obtain ⟨hd, rfl⟩ := hd
  exact (h en p e s m args below meth c T locs r X K hz hF hR hL).pre (fun _ q => q) fun t k => XT.ladd X.here K.1 rfl (hb K.by hd) rfl k
theorem Wk.lsub {x y : Int64} (hd : InsA md pc (.lsub) 1 pc') (h : Wk l Z M md pc' L (.long (x - y) :: S) w cu su Q) : Wk l Z M md pc L (.long y :: .long x :: S) w cu su Q :=
  fun en p e s m args below meth c T locs r X K hz hF hR hL => by
  obtain ⟨hd, rfl⟩ := hd
  exact (h en p e s m args below meth c T locs r X K hz hF hR hL).pre (fun _ q => q) fun t k => XT.lsub X.here K.1 rfl (hb K.by hd) rfl k
theorem Wk.lmul {x y : Int64} (hd : InsA md pc (.lmul) 1 pc') (h : Wk l Z M md pc' L (.long (x * y) :: S) w cu su Q) : Wk l Z M md pc L (.long y :: .long x :: S) w cu su Q :=
  fun en p e s m args below meth c T locs r X K hz hF hR hL => by
  obtain ⟨hd, rfl⟩ := hd
  exact (h en p e s m args below meth c T locs r X K hz hF hR hL).pre (fun _ q => q) fun t k => XT.lmul X.here K.1 rfl (hb K.by hd) rfl k
theorem Wk.land {x y : Int64} (hd : InsA md pc (.land) 1 pc') (h : Wk l Z M md pc' L (.long (x &&& y) :: S) w cu su Q) : Wk l Z M md pc L (.long y :: .long x :: S) w cu su Q :=
  fun en p e s m args below meth c T locs r X K hz hF hR hL => by
  obtain ⟨hd, rfl⟩ := hd
  exact (h en p e s m args below meth c T locs r X K hz hF hR hL).pre (fun _ q => q) fun t k => XT.land X.here K.1 rfl (hb K.by hd) rfl k
theorem Wk.lor {x y : Int64} (hd : InsA md pc (.lor) 1 pc') (h : Wk l Z M md pc' L (.long (x ||| y) :: S) w cu su Q) : Wk l Z M md pc L (.long y :: .long x :: S) w cu su Q :=
  fun en p e s m args below meth c T locs r X K hz hF hR hL => by
  obtain ⟨hd, rfl⟩ := hd
  exact (h en p e s m args below meth c T locs r X K hz hF hR hL).pre (fun _ q => q) fun t k => XT.lor X.here K.1 rfl (hb K.by hd) rfl k
theorem Wk.lxor {x y : Int64} (hd : InsA md pc (.lxor) 1 pc') (h : Wk l Z M md pc' L (.long (x ^^^ y) :: S) w cu su Q) : Wk l Z M md pc L (.long y :: .long x :: S) w cu su Q :=
  fun en p e s m args below meth c T locs r X K hz hF hR hL => by
  obtain ⟨hd, rfl⟩ := hd
  exact (h en p e s m args below meth c T locs r X K hz hF hR hL).pre (fun _ q => q) fun t k => XT.lxor X.here K.1 rfl (hb K.by hd) rfl k
theorem Wk.ldiv {x y : Int64} (hd : InsA md pc (.ldiv) 1 pc') (hy : y ≠ 0) (h : Wk l Z M md pc' L (.long (x / y) :: S) w cu su Q) : Wk l Z M md pc L (.long y :: .long x :: S) w cu su Q :=
  fun en p e s m args below meth c T locs r X K hz hF hR hL => by
  obtain ⟨hd, rfl⟩ := hd
  exact (h en p e s m args below meth c T locs r X K hz hF hR hL).pre (fun _ q => q) fun t k => XT.ldiv X.here K.1 rfl (hb K.by hd) rfl hy k
theorem Wk.lrem {x y : Int64} (hd : InsA md pc (.lrem) 1 pc') (hy : y ≠ 0) (h : Wk l Z M md pc' L (.long (x - (x / y) * y) :: S) w cu su Q) : Wk l Z M md pc L (.long y :: .long x :: S) w cu su Q :=
  fun en p e s m args below meth c T locs r X K hz hF hR hL => by
  obtain ⟨hd, rfl⟩ := hd
  exact (h en p e s m args below meth c T locs r X K hz hF hR hL).pre (fun _ q => q) fun t k => XT.lrem X.here K.1 rfl (hb K.by hd) rfl hy k
theorem Wk.lshl {x : Int64} {y : Int32} (hd : InsA md pc (.lshl) 1 pc') (h : Wk l Z M md pc' L (.long (x <<< (y.toInt64 &&& 63)) :: S) w cu su Q) : Wk l Z M md pc L (.int y :: .long x :: S) w cu su Q :=
  fun en p e s m args below meth c T locs r X K hz hF hR hL => by
  obtain ⟨hd, rfl⟩ := hd
  exact (h en p e s m args below meth c T locs r X K hz hF hR hL).pre (fun _ q => q) fun t k => XT.lshl X.here K.1 rfl (hb K.by hd) rfl k
theorem Wk.lshr {x : Int64} {y : Int32} (hd : InsA md pc (.lshr) 1 pc') (h : Wk l Z M md pc' L (.long (x >>> (y.toInt64 &&& 63)) :: S) w cu su Q) : Wk l Z M md pc L (.int y :: .long x :: S) w cu su Q :=
  fun en p e s m args below meth c T locs r X K hz hF hR hL => by
  obtain ⟨hd, rfl⟩ := hd
  exact (h en p e s m args below meth c T locs r X K hz hF hR hL).pre (fun _ q => q) fun t k => XT.lshr X.here K.1 rfl (hb K.by hd) rfl k
theorem Wk.lushr {x : Int64} {y : Int32} (hd : InsA md pc (.lushr) 1 pc') (h : Wk l Z M md pc' L (.long (XT.ushrL x y) :: S) w cu su Q) : Wk l Z M md pc L (.int y :: .long x :: S) w cu su Q :=
  fun en p e s m args below meth c T locs r X K hz hF hR hL => by
  obtain ⟨hd, rfl⟩ := hd
  exact (h en p e s m args below meth c T locs r X K hz hF hR hL).pre (fun _ q => q) fun t k => XT.lushr X.here K.1 rfl (hb K.by hd) rfl k
theorem Wk.i2l {x : Int32} (hd : InsA md pc (.i2l) 1 pc') (h : Wk l Z M md pc' L (.long x.toInt64 :: S) w cu su Q) : Wk l Z M md pc L (.int x :: S) w cu su Q :=
  fun en p e s m args below meth c T locs r X K hz hF hR hL => by
  obtain ⟨hd, rfl⟩ := hd
  exact (h en p e s m args below meth c T locs r X K hz hF hR hL).pre (fun _ q => q) fun t k => XT.i2l X.here K.1 rfl (hb K.by hd) rfl k
theorem Wk.l2i {x : Int64} (hd : InsA md pc (.l2i) 1 pc') (h : Wk l Z M md pc' L (.int x.toInt32 :: S) w cu su Q) : Wk l Z M md pc L (.long x :: S) w cu su Q :=
  fun en p e s m args below meth c T locs r X K hz hF hR hL => by
  obtain ⟨hd, rfl⟩ := hd
  exact (h en p e s m args below meth c T locs r X K hz hF hR hL).pre (fun _ q => q) fun t k => XT.l2i X.here K.1 rfl (hb K.by hd) rfl k
theorem Wk.lcmp {x y : Int64} (hd : InsA md pc (.lcmp) 1 pc') (h : Wk l Z M md pc' L (.int (XT.cmpL x y) :: S) w cu su Q) : Wk l Z M md pc L (.long y :: .long x :: S) w cu su Q :=
  fun en p e s m args below meth c T locs r X K hz hF hR hL => by
  obtain ⟨hd, rfl⟩ := hd
  exact (h en p e s m args below meth c T locs r X K hz hF hR hL).pre (fun _ q => q) fun t k => XT.lcmp X.here K.1 rfl (hb K.by hd) rfl k
theorem Wk.dup {v : Value} (hd : InsA md pc (.dup) 1 pc') (hv : v.category = 1) (h : Wk l Z M md pc' L (v :: v :: S) w cu su Q) : Wk l Z M md pc L (v :: S) w cu su Q :=
  fun en p e s m args below meth c T locs r X K hz hF hR hL => by
  obtain ⟨hd, rfl⟩ := hd
  exact (h en p e s m args below meth c T locs r X K hz hF hR hL).pre (fun _ q => q) fun t k => XS.dup X.here K.1 rfl (hb K.by hd) rfl (by rw [rv_cat]; exact hv) k
theorem Wk.pop {v : Value} (hd : InsA md pc (.pop) 1 pc') (hv : v.category = 1) (h : Wk l Z M md pc' L (S) w cu su Q) : Wk l Z M md pc L (v :: S) w cu su Q :=
  fun en p e s m args below meth c T locs r X K hz hF hR hL => by
  obtain ⟨hd, rfl⟩ := hd
  exact (h en p e s m args below meth c T locs r X K hz hF hR hL).pre (fun _ q => q) fun t k => XT.pop X.here K.1 rfl (hb K.by hd) rfl (by rw [rv_cat]; exact hv) k
theorem Wk.dup2 {v u : Value} (hd : InsA md pc (.dup2) 1 pc') (hv : v.category = 1) (hu : u.category = 1) (h : Wk l Z M md pc' L (v :: u :: v :: u :: S) w cu su Q) : Wk l Z M md pc L (v :: u :: S) w cu su Q :=
  fun en p e s m args below meth c T locs r X K hz hF hR hL => by
  obtain ⟨hd, rfl⟩ := hd
  exact (h en p e s m args below meth c T locs r X K hz hF hR hL).pre (fun _ q => q) fun t k => XT.dup2 X.here K.1 rfl (hb K.by hd) rfl (by rw [rv_cat]; exact hv) (by rw [rv_cat]; exact hu) k
theorem Wk.dupX1 {v u : Value} (hd : InsA md pc (.dup_x1) 1 pc') (hv : v.category = 1) (hu : u.category = 1) (h : Wk l Z M md pc' L (v :: u :: v :: S) w cu su Q) : Wk l Z M md pc L (v :: u :: S) w cu su Q :=
  fun en p e s m args below meth c T locs r X K hz hF hR hL => by
  obtain ⟨hd, rfl⟩ := hd
  exact (h en p e s m args below meth c T locs r X K hz hF hR hL).pre (fun _ q => q) fun t k => XT.dupX1 X.here K.1 rfl (hb K.by hd) rfl (by rw [rv_cat]; exact hv) (by rw [rv_cat]; exact hu) k
theorem Wk.istoreN {k : Fin 4} {x : Int32} (hd : InsA md pc (.istore_n k) 1 pc') (ho : C1 L[k.val]?) (hl : L.set k.val (.val (.int x)) = L') (h : Wk l Z M md pc' L' S w cu su Q) : Wk l Z M md pc L (.int x :: S) w cu su Q :=
  fun en p e s m args below meth c T locs r X K hz hF hR hL => by
  obtain ⟨hd, rfl⟩ := hd
  obtain ⟨r', e1, hL2⟩ := hL.st1 (v := .int x) ho rfl
  subst hl
  exact (h en p e s m args below meth c T locs r' X K hz hF hR hL2).pre (fun _ q => q) fun t k => XS.istoreN X.here K.1 rfl (hb K.by hd) rfl e1 k
theorem Wk.istore {k : Nat} {x : Int32} (hd : InsA md pc (.istore k) 2 pc') (ho : C1 L[k]?) (hl : L.set k (.val (.int x)) = L') (h : Wk l Z M md pc' L' S w cu su Q) : Wk l Z M md pc L (.int x :: S) w cu su Q :=
  fun en p e s m args below meth c T locs r X K hz hF hR hL => by
  obtain ⟨hd, rfl⟩ := hd
  obtain ⟨r', e1, hL2⟩ := hL.st1 (v := .int x) ho rfl
  subst hl
  exact (h en p e s m args below meth c T locs r' X K hz hF hR hL2).pre (fun _ q => q) fun t k => XS.istore X.here K.1 rfl (hb K.by hd) rfl e1 k
theorem Wk.astoreN {k : Fin 4} {x : Nat} (hd : InsA md pc (.astore_n k) 1 pc') (ho : C1 L[k.val]?) (hl : L.set k.val (.val (.ref x)) = L') (h : Wk l Z M md pc' L' S w cu su Q) : Wk l Z M md pc L (.ref x :: S) w cu su Q :=
  fun en p e s m args below meth c T locs r X K hz hF hR hL => by
  obtain ⟨hd, rfl⟩ := hd
  obtain ⟨r', e1, hL2⟩ := hL.st1 (v := .ref x) ho rfl
  subst hl
  exact (h en p e s m args below meth c T locs r' X K hz hF hR hL2).pre (fun _ q => q) fun t k => XS.astoreN X.here K.1 rfl (hb K.by hd) rfl rfl e1 k
theorem Wk.astore {k : Nat} {x : Nat} (hd : InsA md pc (.astore k) 2 pc') (ho : C1 L[k]?) (hl : L.set k (.val (.ref x)) = L') (h : Wk l Z M md pc' L' S w cu su Q) : Wk l Z M md pc L (.ref x :: S) w cu su Q :=
  fun en p e s m args below meth c T locs r X K hz hF hR hL => by
  obtain ⟨hd, rfl⟩ := hd
  obtain ⟨r', e1, hL2⟩ := hL.st1 (v := .ref x) ho rfl
  subst hl
  exact (h en p e s m args below meth c T locs r' X K hz hF hR hL2).pre (fun _ q => q) fun t k => XS.astore X.here K.1 rfl (hb K.by hd) rfl rfl e1 k
theorem Wk.lstoreN {k : Fin 4} {x : Int64} (hd : InsA md pc (.lstore_n k) 1 pc') (ho : C1 L[k.val]?) (ho2 : C1 L[k.val + 1]?) (hl : (L.set k.val (.val (.long x))).set (k.val + 1) .second = L') (h : Wk l Z M md pc' L' S w cu su Q) : Wk l Z M md pc L (.long x :: S) w cu su Q :=
  fun en p e s m args below meth c T locs r X K hz hF hR hL => by
  obtain ⟨hd, rfl⟩ := hd
  obtain ⟨r', e1, hL2⟩ := hL.st2 (v := .long x) ho ho2 rfl
  subst hl
  exact (h en p e s m args below meth c T locs r' X K hz hF hR hL2).pre (fun _ q => q) fun t k => XT.lstoreN X.here K.1 rfl (hb K.by hd) rfl e1 k
theorem Wk.lstore {k : Nat} {x : Int64} (hd : InsA md pc (.lstore k) 2 pc') (ho : C1 L[k]?) (ho2 : C1 L[k + 1]?) (hl : (L.set k (.val (.long x))).set (k + 1) .second = L') (h : Wk l Z M md pc' L' S w cu su Q) : Wk l Z M md pc L (.long x :: S) w cu su Q :=
  fun en p e s m args below meth c T locs r X K hz hF hR hL => by
  obtain ⟨hd, rfl⟩ := hd
  obtain ⟨r', e1, hL2⟩ := hL.st2 (v := .long x) ho ho2 rfl
  subst hl
  exact (h en p e s m args below meth c T locs r' X K hz hF hR hL2).pre (fun _ q => q) fun t k => XT.lstore X.here K.1 rfl (hb K.by hd) rfl e1 k
theorem Wk.iinc {k : Nat} {cst : Int} {x z : Int32} (hd : InsA md pc (.iinc k cst) 3 pc') (hv : L[k]? = some (.val (.int x))) (hz' : x + Int32.ofInt cst = z) (hl : L.set k (.val (.int z)) = L') (h : Wk l Z M md pc' L' S w cu su Q) : Wk l Z M md pc L S w cu su Q :=
  fun en p e s m args below meth c T locs r X K hz hF hR hL => by
  obtain ⟨hd, rfl⟩ := hd
  obtain ⟨r', e1, hL2⟩ := hL.st1 (i := k) (v := .int z) (Or.inr ⟨_, hv, rfl⟩) rfl
  subst hl hz'
  exact (h en p e s m args below meth c T locs r' X K hz hF hR hL2).pre (fun _ q => q) fun t k => XS.iinc X.here K.1 rfl (hb K.by hd) (hL.get hv) e1 k
theorem Wk.goto {o : Int} {pt : Nat} (hd : InsB md pc (.goto o) 3 pc' o pt) (h : Wk l Z M md pt L S w cu su Q) : Wk l Z M md pc L S w cu su Q :=
  fun en p e s m args below meth c T locs r X K hz hF hR hL => by
  obtain ⟨hd, rfl, h3, h4⟩ := hd
  exact (h en p e s m args below meth c T locs r X K hz hF hR hL).pre (fun _ q => q) fun t k => XS.goto X.here K.1 rfl rfl (hb K.by hd) h3 h4 k
theorem Wk.icmp_lt {x y : Int32} {o : Int} {pt : Nat} (hd : InsB md pc (.if_icmp .lt o) 3 pc' o pt) (h1 : x < y → Wk l Z M md pt L S w cu su Q) (h2 : ¬ x < y → Wk l Z M md pc' L S w cu su Q) : Wk l Z M md pc L (.int y :: .int x :: S) w cu su Q :=
  fun en p e s m args below meth c T locs r X K hz hF hR hL => by
  obtain ⟨hd, rfl, h3, h4⟩ := hd
  by_cases q : x < y
  · exact (h1 q en p e s m args below meth c T locs r X K hz hF hR hL).pre (fun _ q => q) fun t k => XS.icmpYes X.here K.1 rfl rfl (hb K.by hd) rfl (tlt q).1 h3 h4 k
  · exact (h2 q en p e s m args below meth c T locs r X K hz hF hR hL).pre (fun _ q => q) fun t k => XS.icmpNo X.here K.1 rfl (hb K.by hd) rfl (flt q).1 k
theorem Wk.if_lt {x : Int32} {o : Int} {pt : Nat} (hd : InsB md pc (.ifCond .lt o) 3 pc' o pt) (h1 : x < 0 → Wk l Z M md pt L S w cu su Q) (h2 : ¬ x < 0 → Wk l Z M md pc' L S w cu su Q) : Wk l Z M md pc L (.int x :: S) w cu su Q :=
  fun en p e s m args below meth c T locs r X K hz hF hR hL => by
  obtain ⟨hd, rfl, h3, h4⟩ := hd
  by_cases q : x < 0
  · exact (h1 q en p e s m args below meth c T locs r X K hz hF hR hL).pre (fun _ q => q) fun t k => XS.ifYes X.here K.1 rfl rfl (hb K.by hd) rfl ((if0 _ _).trans (tlt q).1) h3 h4 k
  · exact (h2 q en p e s m args below meth c T locs r X K hz hF hR hL).pre (fun _ q => q) fun t k => XS.ifNo X.here K.1 rfl (hb K.by hd) rfl ((if0 _ _).trans (flt q).1) k
theorem Wk.icmp_ge {x y : Int32} {o : Int} {pt : Nat} (hd : InsB md pc (.if_icmp .ge o) 3 pc' o pt) (h1 : ¬ x < y → Wk l Z M md pt L S w cu su Q) (h2 : x < y → Wk l Z M md pc' L S w cu su Q) : Wk l Z M md pc L (.int y :: .int x :: S) w cu su Q :=
  fun en p e s m args below meth c T locs r X K hz hF hR hL => by
  obtain ⟨hd, rfl, h3, h4⟩ := hd
  by_cases q : x < y
  · exact (h2 q en p e s m args below meth c T locs r X K hz hF hR hL).pre (fun _ q => q) fun t k => XS.icmpNo X.here K.1 rfl (hb K.by hd) rfl (tlt q).2.1 k
  · exact (h1 q en p e s m args below meth c T locs r X K hz hF hR hL).pre (fun _ q => q) fun t k => XS.icmpYes X.here K.1 rfl rfl (hb K.by hd) rfl (flt q).2.1 h3 h4 k
theorem Wk.if_ge {x : Int32} {o : Int} {pt : Nat} (hd : InsB md pc (.ifCond .ge o) 3 pc' o pt) (h1 : ¬ x < 0 → Wk l Z M md pt L S w cu su Q) (h2 : x < 0 → Wk l Z M md pc' L S w cu su Q) : Wk l Z M md pc L (.int x :: S) w cu su Q :=
  fun en p e s m args below meth c T locs r X K hz hF hR hL => by
  obtain ⟨hd, rfl, h3, h4⟩ := hd
  by_cases q : x < 0
  · exact (h2 q en p e s m args below meth c T locs r X K hz hF hR hL).pre (fun _ q => q) fun t k => XS.ifNo X.here K.1 rfl (hb K.by hd) rfl ((if0 _ _).trans (tlt q).2.1) k
  · exact (h1 q en p e s m args below meth c T locs r X K hz hF hR hL).pre (fun _ q => q) fun t k => XS.ifYes X.here K.1 rfl rfl (hb K.by hd) rfl ((if0 _ _).trans (flt q).2.1) h3 h4 k
theorem Wk.icmp_gt {x y : Int32} {o : Int} {pt : Nat} (hd : InsB md pc (.if_icmp .gt o) 3 pc' o pt) (h1 : y < x → Wk l Z M md pt L S w cu su Q) (h2 : ¬ y < x → Wk l Z M md pc' L S w cu su Q) : Wk l Z M md pc L (.int y :: .int x :: S) w cu su Q :=
  fun en p e s m args below meth c T locs r X K hz hF hR hL => by
  obtain ⟨hd, rfl, h3, h4⟩ := hd
  by_cases q : y < x
  · exact (h1 q en p e s m args below meth c T locs r X K hz hF hR hL).pre (fun _ q => q) fun t k => XS.icmpYes X.here K.1 rfl rfl (hb K.by hd) rfl (tlt q).2.2.1 h3 h4 k
  · exact (h2 q en p e s m args below meth c T locs r X K hz hF hR hL).pre (fun _ q => q) fun t k => XS.icmpNo X.here K.1 rfl (hb K.by hd) rfl (flt q).2.2.1 k
theorem Wk.if_gt {x : Int32} {o : Int} {pt : Nat} (hd : InsB md pc (.ifCond .gt o) 3 pc' o pt) (h1 : 0 < x → Wk l Z M md pt L S w cu su Q) (h2 : ¬ 0 < x → Wk l Z M md pc' L S w cu su Q) : Wk l Z M md pc L (.int x :: S) w cu su Q :=
  fun en p e s m args below meth c T locs r X K hz hF hR hL => by
  obtain ⟨hd, rfl, h3, h4⟩ := hd
  by_cases q : 0 < x
  · exact (h1 q en p e s m args below meth c T locs r X K hz hF hR hL).pre (fun _ q => q) fun t k => XS.ifYes X.here K.1 rfl rfl (hb K.by hd) rfl ((if0 _ _).trans (tlt q).2.2.1) h3 h4 k
  · exact (h2 q en p e s m args below meth c T locs r X K hz hF hR hL).pre (fun _ q => q) fun t k => XS.ifNo X.here K.1 rfl (hb K.by hd) rfl ((if0 _ _).trans (flt q).2.2.1) k
theorem Wk.icmp_le {x y : Int32} {o : Int} {pt : Nat} (hd : InsB md pc (.if_icmp .le o) 3 pc' o pt) (h1 : ¬ y < x → Wk l Z M md pt L S w cu su Q) (h2 : y < x → Wk l Z M md pc' L S w cu su Q) : Wk l Z M md pc L (.int y :: .int x :: S) w cu su Q :=
  fun en p e s m args below meth c T locs r X K hz hF hR hL => by
  obtain ⟨hd, rfl, h3, h4⟩ := hd
  by_cases q : y < x
  · exact (h2 q en p e s m args below meth c T locs r X K hz hF hR hL).pre (fun _ q => q) fun t k => XS.icmpNo X.here K.1 rfl (hb K.by hd) rfl (tlt q).2.2.2 k
  · exact (h1 q en p e s m args below meth c T locs r X K hz hF hR hL).pre (fun _ q => q) fun t k => XS.icmpYes X.here K.1 rfl rfl (hb K.by hd) rfl (flt q).2.2.2 h3 h4 k
theorem Wk.if_le {x : Int32} {o : Int} {pt : Nat} (hd : InsB md pc (.ifCond .le o) 3 pc' o pt) (h1 : ¬ 0 < x → Wk l Z M md pt L S w cu su Q) (h2 : 0 < x → Wk l Z M md pc' L S w cu su Q) : Wk l Z M md pc L (.int x :: S) w cu su Q :=
  fun en p e s m args below meth c T locs r X K hz hF hR hL => by
  obtain ⟨hd, rfl, h3, h4⟩ := hd
  by_cases q : 0 < x
  · exact (h2 q en p e s m args below meth c T locs r X K hz hF hR hL).pre (fun _ q => q) fun t k => XS.ifNo X.here K.1 rfl (hb K.by hd) rfl ((if0 _ _).trans (tlt q).2.2.2) k
  · exact (h1 q en p e s m args below meth c T locs r X K hz hF hR hL).pre (fun _ q => q) fun t k => XS.ifYes X.here K.1 rfl rfl (hb K.by hd) rfl ((if0 _ _).trans (flt q).2.2.2) h3 h4 k
theorem Wk.icmp_eq {x y : Int32} {o : Int} {pt : Nat} (hd : InsB md pc (.if_icmp .eq o) 3 pc' o pt) (h1 : x = y → Wk l Z M md pt L S w cu su Q) (h2 : ¬ x = y → Wk l Z M md pc' L S w cu su Q) : Wk l Z M md pc L (.int y :: .int x :: S) w cu su Q :=
  fun en p e s m args below meth c T locs r X K hz hF hR hL => by
  obtain ⟨hd, rfl, h3, h4⟩ := hd
  by_cases q : x = y
  · exact (h1 q en p e s m args below meth c T locs r X K hz hF hR hL).pre (fun _ q => q) fun t k => XS.icmpYes X.here K.1 rfl rfl (hb K.by hd) rfl (teq q).1 h3 h4 k
  · exact (h2 q en p e s m args below meth c T locs r X K hz hF hR hL).pre (fun _ q => q) fun t k => XS.icmpNo X.here K.1 rfl (hb K.by hd) rfl (feq q).1 k
theorem Wk.if_eq {x : Int32} {o : Int} {pt : Nat} (hd : InsB md pc (.ifCond .eq o) 3 pc' o pt) (h1 : x = 0 → Wk l Z M md pt L S w cu su Q) (h2 : ¬ x = 0 → Wk l Z M md pc' L S w cu su Q) : Wk l Z M md pc L (.int x :: S) w cu su Q :=
  fun en p e s m args below meth c T locs r X K hz hF hR hL => by
  obtain ⟨hd, rfl, h3, h4⟩ := hd
  by_cases q : x = 0
  · exact (h1 q en p e s m args below meth c T locs r X K hz hF hR hL).pre (fun _ q => q) fun t k => XS.ifYes X.here K.1 rfl rfl (hb K.by hd) rfl ((if0 _ _).trans (teq q).1) h3 h4 k
  · exact (h2 q en p e s m args below meth c T locs r X K hz hF hR hL).pre (fun _ q => q) fun t k => XS.ifNo X.here K.1 rfl (hb K.by hd) rfl ((if0 _ _).trans (feq q).1) k
theorem Wk.icmp_ne {x y : Int32} {o : Int} {pt : Nat} (hd : InsB md pc (.if_icmp .ne o) 3 pc' o pt) (h1 : ¬ x = y → Wk l Z M md pt L S w cu su Q) (h2 : x = y → Wk l Z M md pc' L S w cu su Q) : Wk l Z M md pc L (.int y :: .int x :: S) w cu su Q :=
  fun en p e s m args below meth c T locs r X K hz hF hR hL => by
  obtain ⟨hd, rfl, h3, h4⟩ := hd
  by_cases q : x = y
  · exact (h2 q en p e s m args below meth c T locs r X K hz hF hR hL).pre (fun _ q => q) fun t k => XS.icmpNo X.here K.1 rfl (hb K.by hd) rfl (teq q).2 k
  · exact (h1 q en p e s m args below meth c T locs r X K hz hF hR hL).pre (fun _ q => q) fun t k => XS.icmpYes X.here K.1 rfl rfl (hb K.by hd) rfl (feq q).2 h3 h4 k
theorem Wk.if_ne {x : Int32} {o : Int} {pt : Nat} (hd : InsB md pc (.ifCond .ne o) 3 pc' o pt) (h1 : ¬ x = 0 → Wk l Z M md pt L S w cu su Q) (h2 : x = 0 → Wk l Z M md pc' L S w cu su Q) : Wk l Z M md pc L (.int x :: S) w cu su Q :=
  fun en p e s m args below meth c T locs r X K hz hF hR hL => by
  obtain ⟨hd, rfl, h3, h4⟩ := hd
  by_cases q : x = 0
  · exact (h2 q en p e s m args below meth c T locs r X K hz hF hR hL).pre (fun _ q => q) fun t k => XS.ifNo X.here K.1 rfl (hb K.by hd) rfl ((if0 _ _).trans (teq q).2) k
  · exact (h1 q en p e s m args below meth c T locs r X K hz hF hR hL).pre (fun _ q => q) fun t k => XS.ifYes X.here K.1 rfl rfl (hb K.by hd) rfl ((if0 _ _).trans (feq q).2) h3 h4 k
theorem Wk.tswIn {dflt low high o : Int} {offs : Array Int} {len pt : Nat} {x z : Int32} (hd : InsB md pc (.tableswitch dflt low high offs) len pc' o pt) (hx : x = z) (hin : ¬ (z.toInt < low ∨ z.toInt > high)) (hoff : offs[(z.toInt - low).toNat]? = some o) (h : Wk l Z M md pt L S w cu su Q) : Wk l Z M md pc L (.int x :: S) w cu su Q :=
  fun en p e s m args below meth c T locs r X K hz hF hR hL => by
  obtain ⟨hd, rfl, h3, h4⟩ := hd
  subst hx
  exact (h en p e s m args below meth c T locs r X K hz hF hR hL).pre (fun _ q => q) fun t k => XS.tswIn X.here K.1 rfl rfl (hb K.by hd) rfl hin hoff h3 h4 k
theorem Wk.tswOut {dflt low high : Int} {offs : Array Int} {len pt : Nat} {x : Int32} (hd : InsB md pc (.tableswitch dflt low high offs) len pc' dflt pt) (hout : x.toInt < low ∨ x.toInt > high) (h : Wk l Z M md pt L S w cu su Q) : Wk l Z M md pc L (.int x :: S) w cu su Q :=
  fun en p e s m args below meth c T locs r X K hz hF hR hL => by
  obtain ⟨hd, rfl, h3, h4⟩ := hd
  exact (h en p e s m args below meth c T locs r X K hz hF hR hL).pre (fun _ q => q) fun t k => XS.tswOut X.here K.1 rfl rfl (hb K.by hd) rfl hout h3 h4 k
theorem Wk.ldc {idx : Nat} {z : Int32} {a0 : Array Value} (hd : InsA md pc (.ldc idx) 2 pc') (wd : (Cond.constant M.own idx z).before a0 Z = true) (h : Wk l Z M md pc' L (.int z :: S) w cu su Q) : Wk l Z M md pc L S w cu su Q :=
  fun en p e s m args below meth c T locs r X K hz hF hR hL => by
  obtain ⟨hd, rfl⟩ := hd
  have hc : (Cond.constant M.own idx z).before args s = true := mvT K.2.1 wd
  exact (h en p e s m args below meth c T locs r X K hz hF hR hL).pre (fun _ q => q) fun t k => X.ldcInt K.1 K.2.2.1 hc (g := mkF m pc r (S.map (rv (M.rho en)))) rfl (hb K.by hd) t k
theorem Wk.ldcw {idx : Nat} {z : Int32} {a0 : Array Value} (hd : InsA md pc (.ldc_w idx) 3 pc') (wd : (Cond.constant M.own idx z).before a0 Z = true) (h : Wk l Z M md pc' L (.int z :: S) w cu su Q) : Wk l Z M md pc L S w cu su Q :=
  fun en p e s m args below meth c T locs r X K hz hF hR hL => by
  obtain ⟨hd, rfl⟩ := hd
  have hc : (Cond.constant M.own idx z).before args s = true := mvT K.2.1 wd
  exact (h en p e s m args below meth c T locs r X K hz hF hR hL).pre (fun _ q => q) fun t k => X.ldcwInt K.1 K.2.2.1 hc (g := mkF m pc r (S.map (rv (M.rho en)))) rfl (hb K.by hd) t k
theorem Wk.ldc2 {idx : Nat} {z : Int64} {a0 : Array Value} (hd : InsA md pc (.ldc2_w idx) 3 pc') (wd : (Cond.constantLong M.own idx z).before a0 Z = true) (h : Wk l Z M md pc' L (.long z :: S) w cu su Q) : Wk l Z M md pc L S w cu su Q :=
  fun en p e s m args below meth c T locs r X K hz hF hR hL => by
  obtain ⟨hd, rfl⟩ := hd
  have hc : (Cond.constantLong M.own idx z).before args s = true := mvT K.2.1 wd
  exact (h en p e s m args below meth c T locs r X K hz hF hR hL).pre (fun _ q => q) fun t k => X.ldc2Long K.1 K.2.2.1 hc (g := mkF m pc r (S.map (rv (M.rho en)))) rfl (hb K.by hd) t k
/-! returns -/
theorem Wk.ireturn {x : Int32} (hM : ∀ en h, M.frm en h h) (hret : rtOf md = some .int) (hd : InsA md pc .ireturn 1 pc') (hc : cu = exOf md) (hc2 : exOf md ≤ (rmOf md).cells) (hs : su ≤ (rmOf md).slots) (hq : Q (some (.int x)) w) : Wk l Z M md pc L (.int x :: S) w cu su Q :=
  fun en p e s m args below meth c T locs r X K hz hF hR hL => by
  subst hc
  have hr := K.2.2.2.2.1.trans hret
  exact ⟨T, locs, su, _, w, X, hc2, hs, hz, hF, hR, hM _ _, fun q => (by rw [hr] at q; cases q), fun ρ y e => (by cases e; rfl), hq, fun fs hf => retI X K.1 hr (hb K.by hd.1) hf⟩
theorem Wk.zreturn {x y : Int32} (hM : ∀ en h, M.frm en h h) (hret : rtOf md = some .boolean) (hd : InsA md pc .ireturn 1 pc') (hc : cu = exOf md) (hc2 : exOf md ≤ (rmOf md).cells) (hs : su ≤ (rmOf md).slots) (hy : nar .boolean x = y) (hq : Q (some (.int y)) w) : Wk l Z M md pc L (.int x :: S) w cu su Q :=
  fun en p e s m args below meth c T locs r X K hz hF hR hL => by
  subst hc hy
  have hr := K.2.2.2.2.1.trans hret
  exact ⟨T, locs, su, _, w, X, hc2, hs, hz, hF, hR, hM _ _, fun q => (by rw [hr] at q; cases q), fun ρ y e => (by cases e; rfl), hq, fun fs hf => retN X K.1 (t := .boolean) hr (by simp) (hb K.by hd.1) hf⟩
theorem Wk.lreturn {x : Int64} (hM : ∀ en h, M.frm en h h) (hret : rtOf md = some .long) (hd : InsA md pc .lreturn 1 pc') (hc : cu = exOf md) (hc2 : exOf md ≤ (rmOf md).cells) (hs : su ≤ (rmOf md).slots) (hq : Q (some (.long x)) w) : Wk l Z M md pc L [.long x] w cu su Q :=
  fun en p e s m args below meth c T locs r X K hz hF hR hL => by
  subst hc
  have hr := K.2.2.2.2.1.trans hret
  exact ⟨T, locs, su, _, w, X, hc2, hs, hz, hF, hR, hM _ _, fun q => (by rw [hr] at q; cases q), fun ρ y e => (by cases e; rfl), hq, fun fs hf => X.lreturnOut K.1 hr (hb K.by hd.1) hf⟩
theorem Wk.ret (hM : ∀ en h, M.frm en h h) (hret : rtOf md = none) (hd : InsA md pc .return_ 1 pc') (hc : cu = exOf md) (hc2 : exOf md ≤ (rmOf md).cells) (hs : su ≤ (rmOf md).slots) (hq : Q none w) : Wk l Z M md pc L [] w cu su Q :=
  fun en p e s m args below meth c T locs r X K hz hF hR hL => by
  subst hc
  have hr := K.2.2.2.2.1.trans hret
  exact ⟨T, locs, su, none, w, X, hc2, hs, hz, hF, hR, hM _ _, fun _ => rfl, fun ρ y e => (by cases e), hq, fun fs hf => X.returnOut K.1 hr (hb K.by hd.1) hf⟩
/-! a walk from the entry is a contract -/
theorem Wk.met (h : Wk l Z M md 0 L [] w 0 0 Q) (hp : plainName (nmOf md).cls = true) (ho : M.own = (nmOf md).cls) {en : E} {h0 : Heap} (hR : M.rel en w h0) (as : List Value) (hL : (argsToLocals as.toArray (mxOf md)).toList = L) (hw : wfL L = true) (ws : List Jvm.Cond) :
    MetFree l (nmOf md) (head1 (Jvm.Cond.code (nmOf md) (byOf md) (mxOf md) (rtOf md) :: ws) (rmOf md)) (fun a U => a = (as.map (rv (M.rho en))).toArray ∧ Z.Warmed39 U.vm ∧ U.heap = h0) (fun _ _ _ _ _ => True)
      (fun _ U o U' => ∃ v Lc, o = .returned v ∧ (∃ w', Q v w' ∧ M.rel en w' U'.heap ∧ M.frm en h0 U'.heap ∧ Fr (M.lo en) Lc ∧ U'.heap.size = h0.size + exOf md ∧ ∀ ρ x, v = some x → rv ρ x = x) ∧ FrameEnd U o U' Lc (rmOf md).cells (rmOf md).slots) := by
  refine MetFree.of_bodySF (plainFor_of_name hp) hisR ?_
  intro p e s m args below meth c s₁ Bd hml0 hP hK
  obtain ⟨rfl, hZ, hh⟩ := hP
  have hown : s.vm.findClass (nmOf md).cls = some m.cls := findClass_of_methodNamed Bd.named
  have hnm := (name_of_methodNamed Bd.named Bd.method).1
  have X0 : Stand p l e (rmOf md) s m (as.map (rv (M.rho en))).toArray below meth c s₁ [] 0 0 := Stand.of_body Bd
  have e0 : s₁.heap = s.heap := by rw [Bd.state]; rfl
  subst hh
  obtain ⟨T', locs', su', v, w', a1, a2, a3, a4, a5, a6, a7, a8, a9, a10, a11⟩ := h en p e s m _ below meth c s₁ [] _ X0 ⟨Bd.exec, hZ, by rw [ho]; exact hown, hnm, Bd.returns, BodyLoose.notSynchronized Bd, Bd.bytes, hml0⟩ (by rw [e0]; rfl) (Fr.nil _) (by rw [e0]; exact hR) (SR.entry (M.rho en) as (mxOf md) hL hw)
  obtain ⟨fs, hr, hrun, hended, hW, hsame⟩ := a1.leave (v := v) a8 (BodyLoose.notSynchronized Bd)
  rw [e0] at a7
  exact ⟨_, _, a11 fs hr, hrun, hended, v, locs', rfl, ⟨w', a10, a6, a7, a5, a4, a9⟩, ⟨_, rfl⟩, hW, hsame.mono a2 a3⟩
end Steps
end Jvm.Own

namespace Jvm.Own
open Jvm Jvm.ClassFile Sem Op Lib Jvm.Free Jvm.Stand Jvm.LawKit Jvm.RoadKit
/-! ## 3. One object of the project's class, with its arrays behind it -/
/-- how many arrays are made; the ints; the longs; the arrays of ints (and booleans); of longs -/
abbrev WO : Type := Nat × (Nat → Int32) × (Nat → Int64) × (Nat → Int32 → Int32) × (Nat → Int32 → Int64)
/-- the class; its fields of ints and booleans (number, name, descriptor); of longs; of arrays, in the order in which they are made -/
abbrev CD : Type := String × List (Nat × String × String) × List (Nat × String) × List (Nat × String × String × FieldType × Int32)
def ups {κ α : Type} [DecidableEq κ] (f : κ → α) (i : κ) (x : α) : κ → α := fun k => if k = i then x else f k
theorem ups_at {κ α : Type} [DecidableEq κ] (f : κ → α) (i : κ) (x : α) : ups f i x i = x := by simp [ups]
theorem ups_ne {κ α : Type} [DecidableEq κ] (f : κ → α) {i k : κ} (x : α) (h : k ≠ i) : ups f i x k = f k := by simp [ups, h]
def el : FieldType → Int32 → Int64 → Value
  | .long, _, j => .long j
  | _, i, _ => .int i
theorem el_int {ty : FieldType} (h : ty ≠ .long) (i : Int32) (j : Int64) : el ty i j = .int i := by cases ty <;> first | rfl | exact absurd rfl h
def AtA (Z : State) (h : Heap) (b : Addr) (ty : FieldType) (n : Int32) (f : Int32 → Int32) (g : Int32 → Int64) : Prop :=
  ∃ cl, Arr Z h b cl ty ∧ cl.slots.size = n.toNatClampNeg ∧ ∀ x : Int32, ¬ x < 0 → x < n → cl.slots[x.toNatClampNeg]? = some (el ty (f x) (g x))
def relC (Z : State) (cd : CD) (en : Nat × Nat) (w : WO) (h : Heap) : Prop :=
  en.2 ≤ en.1 ∧ Exa Z h en.1 cd.1 ∧ (∀ t ∈ cd.2.1, Fld Z h en.1 cd.1 t.2.1 t.2.2 (.int (w.2.1 t.1))) ∧ (∀ t ∈ cd.2.2.1, Fld Z h en.1 cd.1 t.2 "J" (.long (w.2.2.1 t.1))) ∧
  (∀ t ∈ cd.2.2.2, (t.1 < w.1 → Fld Z h en.1 cd.1 t.2.1 t.2.2.1 (.ref (en.1 + (t.1 + 1))) ∧ AtA Z h (en.1 + (t.1 + 1)) t.2.2.2.1 t.2.2.2.2 (w.2.2.2.1 t.1) (w.2.2.2.2 t.1)) ∧ (¬ t.1 < w.1 → Fld Z h en.1 cd.1 t.2.1 t.2.2.1 .null)) ∧
  (w.1 < cd.2.2.2.length → h.size = en.1 + 1 + w.1)
def frmC (cd : CD) (en : Nat × Nat) (h h' : Heap) : Prop := h.size ≤ h'.size ∧ ∀ (x : Nat) (c : Cell), h[x]? = some c → (x < en.1 ∨ en.1 + cd.2.2.2.length < x) → h'[x]? = some c
abbrev MoC (Z : State) (cd : CD) : Mode WO (Nat × Nat) := (cd.1, fun en k => en.1 + k, fun en => en.2, relC Z cd, frmC cd)
theorem nn {a b : Nat} (h : a ≠ b) : @Ne Addr a b := h
theorem frmC.refl (cd : CD) (en : Nat × Nat) (h : Heap) : frmC cd en h h := ⟨Nat.le_refl _, fun _ _ q _ => q⟩
theorem frmC.trans {cd : CD} {en : Nat × Nat} {h1 h2 h3 : Heap} (a : frmC cd en h1 h2) (b : frmC cd en h2 h3) : frmC cd en h1 h3 := ⟨Nat.le_trans a.1 b.1, fun x c q r => b.2 x c (a.2 x c q r) r⟩
theorem frmC.wr {cd : CD} {en : Nat × Nat} {h h' : Heap} {b : Nat} {sl : Nat} {v : Value} (W : Wr h h' b sl v) (h1 : en.1 ≤ b) (h2 : b ≤ en.1 + cd.2.2.2.length) : frmC cd en h h' := by
  refine ⟨Nat.le_of_eq W.size.symm, fun x c q r => ?_⟩
  obtain ⟨c', e1, -, -, -, e5, -⟩ := wr_at W q
  rw [← e5 (nn (by omega))]; exact e1
theorem frmC.ext {cd : CD} {en : Nat × Nat} {h h' : Heap} (E : Ext h h') : frmC cd en h h' := ⟨E.1, fun x c q _ => E.2 x c q⟩
def okC (cd : CD) : Prop :=
  (∀ t ∈ cd.2.1, ∀ t' ∈ cd.2.1, (t.1 = t'.1 → t = t') ∧ (t.1 ≠ t'.1 → t.2.1 ≠ t'.2.1)) ∧ (∀ t ∈ cd.2.2.1, ∀ t' ∈ cd.2.2.1, (t.1 = t'.1 → t = t') ∧ (t.1 ≠ t'.1 → t.2 ≠ t'.2)) ∧ (∀ t ∈ cd.2.2.2, ∀ t' ∈ cd.2.2.2, (t.1 = t'.1 → t = t') ∧ (t.1 ≠ t'.1 → t.2.1 ≠ t'.2.1)) ∧
  (∀ t ∈ cd.2.1, ∀ t' ∈ cd.2.2.1, t.2.1 ≠ t'.2) ∧ (∀ t ∈ cd.2.1, ∀ t' ∈ cd.2.2.2, t.2.1 ≠ t'.2.1) ∧ (∀ t ∈ cd.2.2.1, ∀ t' ∈ cd.2.2.2, t.2 ≠ t'.2.1) ∧
  (∀ t ∈ cd.2.1, parseFieldDescriptor t.2.2 = some .int ∨ parseFieldDescriptor t.2.2 = some .boolean) ∧
  (∀ t ∈ cd.2.2.2, parseFieldDescriptor t.2.2.1 = some (.array t.2.2.2.1) ∧ t.1 < cd.2.2.2.length ∧ (t.2.2.2.1 = .int ∨ t.2.2.2.1 = .boolean ∨ t.2.2.2.1 = .long) ∧ ¬ t.2.2.2.2 < 0)
/-- what the words say of the class -/
def CO (Z : State) (a0 : Array Value) (cd : CD) : Prop :=
  (∃ kk, (Cond.instantiable cd.1 kk).before a0 Z = true) ∧ (∀ t ∈ cd.2.1, Laid Z a0 cd.1 cd.1 t.2.1 t.2.2) ∧ (∀ t ∈ cd.2.2.1, Laid Z a0 cd.1 cd.1 t.2 "J") ∧ (∀ t ∈ cd.2.2.2, Laid Z a0 cd.1 cd.1 t.2.1 t.2.2.1) ∧ okC cd
theorem pJ : parseFieldDescriptor "J" = some .long := by decide +kernel
theorem snJ {Z : State} {a0 : Array Value} {C n n' d' : String} {t' : FieldType} (L : Laid Z a0 C C n "J") (L' : Laid Z a0 C C n' d') (hn : n ≠ n') (ht' : parseFieldDescriptor d' = some t') : Jvm.RoadKit.slotOf Z C n "J" ≠ Jvm.RoadKit.slotOf Z C n' d' := by
  have p := pJ
  generalize "J" = q at *
  exact slot_ne L L' hn p ht'
section Rel
variable {Z : State} {a0 : Array Value} {cd : CD} {en : Nat × Nat} {h h' : Heap} {k : Nat} {F : Nat → Int32} {G : Nat → Int64} {A : Nat → Int32 → Int32} {B : Nat → Int32 → Int64}
theorem pI (ok : CO Z a0 cd) {t : Nat × String × String} (ht : t ∈ cd.2.1) : ∃ ty, parseFieldDescriptor t.2.2 = some ty := by
  rcases ok.2.2.2.2.2.2.2.2.2.2.1 t ht with q | q <;> exact ⟨_, q⟩
theorem AtA.other {b b' : Addr} {ty : FieldType} {n : Int32} {f : Int32 → Int32} {g : Int32 → Int64} {sl : Nat} {v : Value} (W : Wr h h' b sl v) (H : AtA Z h b' ty n f g) (hne : b' ≠ b) : AtA Z h' b' ty n f g := by
  obtain ⟨cl, h1, h2, h3⟩ := H
  exact ⟨cl, h1.other W hne, h2, h3⟩
theorem AtA.ext {b' : Addr} {ty : FieldType} {n : Int32} {f : Int32 → Int32} {g : Int32 → Int64} (E : Ext h h') (H : AtA Z h b' ty n f g) : AtA Z h' b' ty n f g := by
  obtain ⟨cl, h1, h2, h3⟩ := H
  exact ⟨cl, h1.ext E, h2, h3⟩
theorem clamp_lt {x n : Int32} (h0 : ¬ x < 0) (h1 : x < n) : x.toNatClampNeg < n.toNatClampNeg := by
  simp only [Int32.lt_iff_toInt_lt, Int32.reduceToInt, Int32.toNatClampNeg] at *
  omega
theorem in_of {x n : Int32} {cl : Cell} (h2 : cl.slots.size = n.toNatClampNeg) (h0 : ¬ x < 0) (h1 : x < n) : ¬ (x < 0 ∨ cl.slots.size ≤ x.toNatClampNeg) := by
  have := clamp_lt h0 h1
  rintro (q | q)
  · exact h0 q
  · omega
theorem AtA.stI {b : Addr} {ty : FieldType} {n : Int32} {f : Int32 → Int32} {g : Int32 → Int64} {j x : Int32} (hty : ty ≠ .long) (h0 : ¬ j < 0) (h1 : j < n) (W : Wr h h' b j.toNatClampNeg (.int x)) (H : AtA Z h b ty n f g) : AtA Z h' b ty n (ups f j x) g := by
  obtain ⟨cl, g1, g2, g3⟩ := H
  refine ⟨_, g1.same W, by rw [sz_set]; exact g2, fun y y0 y1 => ?_⟩
  by_cases e : y = j
  · rw [get_hit (in_of g2 h0 h1) e, e, ups_at, el_int hty]
  · rw [get_miss h0 y0 e, ups_ne _ _ e]; exact g3 y y0 y1
theorem AtA.stJ {b : Addr} {n : Int32} {f : Int32 → Int32} {g : Int32 → Int64} {j : Int32} {x : Int64} (h0 : ¬ j < 0) (h1 : j < n) (W : Wr h h' b j.toNatClampNeg (.long x)) (H : AtA Z h b .long n f g) : AtA Z h' b .long n f (ups g j x) := by
  obtain ⟨cl, g1, g2, g3⟩ := H
  refine ⟨_, g1.same W, by rw [sz_set]; exact g2, fun y y0 y1 => ?_⟩
  by_cases e : y = j
  · rw [get_hit (in_of g2 h0 h1) e, e, ups_at]; rfl
  · rw [get_miss h0 y0 e, ups_ne _ _ e]; exact g3 y y0 y1
theorem relC.putI (ok : CO Z a0 cd) {i : Nat} {n d : String} {x : Int32} (hR : relC Z cd en (k, F, G, A, B) h) (ht : (i, n, d) ∈ cd.2.1) (W : Wr h h' en.1 (Jvm.RoadKit.slotOf Z cd.1 n d) (.int x)) : relC Z cd en (k, ups F i x, G, A, B) h' := by
  obtain ⟨r1, r2, r3, r4, r5, r6⟩ := hR
  obtain ⟨-, o2, o3, o4, q1, q2, q3, q4, q5, q6, q7, q8⟩ := ok
  obtain ⟨ty0, p0⟩ : ∃ ty, parseFieldDescriptor d = some ty := by rcases q7 _ ht with q | q <;> exact ⟨_, q⟩
  refine ⟨r1, r2.wr W, fun t m => ?_, fun t m => ?_, fun t m => ⟨fun hk => ?_, fun hk => ?_⟩, fun q => ?_⟩
  · obtain ⟨u1, u2⟩ := q1 _ m _ ht
    by_cases e : t.1 = i
    · have e2 := u1 e
      subst e2
      show Fld Z h' en.1 cd.1 n d (.int (ups F i x i))
      rw [ups_at]
      exact (r3 _ ht).same W
    · show Fld Z h' en.1 cd.1 _ _ (.int (ups F i x t.1))
      rw [ups_ne _ _ e]
      obtain ⟨ty1, p1⟩ : ∃ ty, parseFieldDescriptor t.2.2 = some ty := by rcases q7 _ m with q | q <;> exact ⟨_, q⟩
      have z0 := slot_ne (o2 _ m) (o2 _ ht) (u2 e) p1 p0
      exact (r3 t m).other W (Or.inr z0)
  · have e1 := o3 _ m
    have e2 := o2 _ ht
    have e3 := q4 _ ht _ m
    have e4 := snJ e1 e2 (Ne.symm e3) p0
    have e5 := r4 t m
    exact e5.other W (Or.inr e4)
  · obtain ⟨a1, a2⟩ := (r5 t m).1 hk
    have z0 := slot_ne (o4 _ m) (o2 _ ht) (Ne.symm (q5 _ ht _ m)) (q8 _ m).1 p0
    exact ⟨a1.other W (Or.inr z0), a2.other W (nn (by omega))⟩
  · have z0 := slot_ne (o4 _ m) (o2 _ ht) (Ne.symm (q5 _ ht _ m)) (q8 _ m).1 p0
    exact ((r5 t m).2 hk).other W (Or.inr z0)
  · rw [W.size]; exact r6 q
theorem relC.putJ (ok : CO Z a0 cd) {i : Nat} {n : String} {x : Int64} (hR : relC Z cd en (k, F, G, A, B) h) (ht : (i, n) ∈ cd.2.2.1) (W : Wr h h' en.1 (Jvm.RoadKit.slotOf Z cd.1 n "J") (.long x)) : relC Z cd en (k, F, ups G i x, A, B) h' := by
  obtain ⟨r1, r2, r3, r4, r5, r6⟩ := hR
  obtain ⟨-, o2, o3, o4, q1, q2, q3, q4, q5, q6, q7, q8⟩ := ok
  refine ⟨r1, r2.wr W, fun t m => ?_, fun t m => ?_, fun t m => ⟨fun hk => ?_, fun hk => ?_⟩, fun q => ?_⟩
  · obtain ⟨ty1, p1⟩ : ∃ ty, parseFieldDescriptor t.2.2 = some ty := by rcases q7 _ m with q | q <;> exact ⟨_, q⟩
    have z0 := Ne.symm (snJ (o3 _ ht) (o2 _ m) (Ne.symm (q4 _ m _ ht)) p1)
    exact (r3 t m).other W (Or.inr z0)
  · obtain ⟨u1, u2⟩ := q2 _ m _ ht
    by_cases e : t.1 = i
    · have e2 := u1 e
      subst e2
      show Fld Z h' en.1 cd.1 n "J" (.long (ups G i x i))
      rw [ups_at]
      exact (r4 _ ht).same W
    · show Fld Z h' en.1 cd.1 _ _ (.long (ups G i x t.1))
      rw [ups_ne _ _ e]
      have z0 := snJ (o3 _ m) (o3 _ ht) (u2 e) pJ
      exact (r4 t m).other W (Or.inr z0)
  · obtain ⟨a1, a2⟩ := (r5 t m).1 hk
    have z0 := Ne.symm (snJ (o3 _ ht) (o4 _ m) (q6 _ ht _ m) (q8 _ m).1)
    exact ⟨a1.other W (Or.inr z0), a2.other W (nn (by omega))⟩
  · have z0 := Ne.symm (snJ (o3 _ ht) (o4 _ m) (q6 _ ht _ m) (q8 _ m).1)
    exact ((r5 t m).2 hk).other W (Or.inr z0)
  · rw [W.size]; exact r6 q
theorem relC.stI (ok : CO Z a0 cd) {i : Nat} {n d : String} {ty : FieldType} {len j x : Int32} (hty : ty ≠ .long) (h0 : ¬ j < 0) (h1 : j < len) (hR : relC Z cd en (k, F, G, A, B) h) (ht : (i, n, d, ty, len) ∈ cd.2.2.2) (W : Wr h h' (en.1 + (i + 1)) j.toNatClampNeg (.int x)) : relC Z cd en (k, F, G, ups A i (ups (A i) j x), B) h' := by
  obtain ⟨r1, r2, r3, r4, r5, r6⟩ := hR
  obtain ⟨-, o2, o3, o4, q1, q2, q3, q4, q5, q6, q7, q8⟩ := ok
  refine ⟨r1, r2.wr W, fun t m => (r3 t m).other W (Or.inl (nn (by omega))), fun t m => (r4 t m).other W (Or.inl (nn (by omega))), fun t m => ⟨fun hk => ?_, fun hk => ((r5 t m).2 hk).other W (Or.inl (nn (by omega)))⟩, fun q => by rw [W.size]; exact r6 q⟩
  obtain ⟨a1, a2⟩ := (r5 t m).1 hk
  refine ⟨a1.other W (Or.inl (nn (by omega))), ?_⟩
  obtain ⟨u1, u2⟩ := q3 _ m _ ht
  show AtA Z h' _ _ _ (ups A i (ups (A i) j x) t.1) (B t.1)
  by_cases e : t.1 = i
  · have e2 := u1 e
    subst e2
    rw [ups_at]
    exact a2.stI hty h0 h1 W
  · rw [ups_ne _ _ e]
    exact a2.other W (nn (by omega))
theorem relC.stJ (ok : CO Z a0 cd) {i : Nat} {n d : String} {len j : Int32} {x : Int64} (h0 : ¬ j < 0) (h1 : j < len) (hR : relC Z cd en (k, F, G, A, B) h) (ht : (i, n, d, .long, len) ∈ cd.2.2.2) (W : Wr h h' (en.1 + (i + 1)) j.toNatClampNeg (.long x)) : relC Z cd en (k, F, G, A, ups B i (ups (B i) j x)) h' := by
  obtain ⟨r1, r2, r3, r4, r5, r6⟩ := hR
  obtain ⟨-, o2, o3, o4, q1, q2, q3, q4, q5, q6, q7, q8⟩ := ok
  refine ⟨r1, r2.wr W, fun t m => (r3 t m).other W (Or.inl (nn (by omega))), fun t m => (r4 t m).other W (Or.inl (nn (by omega))), fun t m => ⟨fun hk => ?_, fun hk => ((r5 t m).2 hk).other W (Or.inl (nn (by omega)))⟩, fun q => by rw [W.size]; exact r6 q⟩
  obtain ⟨a1, a2⟩ := (r5 t m).1 hk
  refine ⟨a1.other W (Or.inl (nn (by omega))), ?_⟩
  obtain ⟨u1, u2⟩ := q3 _ m _ ht
  show AtA Z h' _ _ _ (A t.1) (ups B i (ups (B i) j x) t.1)
  by_cases e : t.1 = i
  · have e2 := u1 e
    subst e2
    rw [ups_at]
    exact a2.stJ h0 h1 W
  · rw [ups_ne _ _ e]
    exact a2.other W (nn (by omega))
theorem relC.newA (ok : CO Z a0 cd) {h1 : Heap} {n d : String} {ty : FieldType} {len : Int32} {cA : ClassId} (hR : relC Z cd en (k, F, G, A, B) h) (ht : (k, n, d, ty, len) ∈ cd.2.2.2) (hA : A k = fun _ => 0) (hB : B k = fun _ => 0) (E : Ext h h1) (N : Arr Z h1 h.size (Jvm.RoadKit.newA cA ty len) ty) (W : Wr h1 h' en.1 (Jvm.RoadKit.slotOf Z cd.1 n d) (.ref h.size)) (hz : h'.size = h.size + 1) : relC Z cd en (k + 1, F, G, A, B) h' := by
  obtain ⟨r1, r2, r3, r4, r5, r6⟩ := hR
  obtain ⟨-, o2, o3, o4, q1, q2, q3, q4, q5, q6, q7, q8⟩ := ok
  have hsz : h.size = en.1 + 1 + k := r6 (q8 _ ht).2.1
  refine ⟨r1, (r2.ext E).wr W, fun t m => ?_, fun t m => ?_, fun t m => ⟨fun hk => ?_, fun hk => ?_⟩, fun q => ?_⟩
  · obtain ⟨ty1, p1⟩ : ∃ ty, parseFieldDescriptor t.2.2 = some ty := by rcases q7 _ m with q | q <;> exact ⟨_, q⟩
    have z0 := slot_ne (o2 _ m) (o4 _ ht) (q5 _ m _ ht) p1 (q8 _ ht).1
    exact ((r3 t m).ext E).other W (Or.inr z0)
  · have z0 := snJ (o3 _ m) (o4 _ ht) (q6 _ m _ ht) (q8 _ ht).1
    exact ((r4 t m).ext E).other W (Or.inr z0)
  · obtain ⟨u1, u2⟩ := q3 _ m _ ht
    by_cases e : t.1 = k
    · have e2 := u1 e
      subst e2
      have f0 := ((r5 _ ht).2 (Nat.lt_irrefl k)).ext E
      refine ⟨?_, ?_⟩
      · have := f0.same W
        rw [hsz] at this
        show Fld Z h' en.1 cd.1 n d (.ref (en.1 + (k + 1)))
        rw [show en.1 + (k + 1) = en.1 + 1 + k by omega]
        exact this
      · show AtA Z h' (en.1 + (k + 1)) ty len (A k) (B k)
        rw [hA, hB, show en.1 + (k + 1) = h.size by omega]
        refine AtA.other W ⟨_, N, sz_new _ _ _, fun x x0 x1 => ?_⟩ (nn (by omega))
        rw [get_new (in_of (cl := Jvm.RoadKit.newA cA ty len) (sz_new _ _ _) x0 x1 |> fun q => by rwa [sz_new] at q)]
        have o := (q8 _ ht).2.2.1
        rcases o with o | o | o <;> (have o' : ty = _ := o; subst o'; rfl)
    · obtain ⟨a1, a2⟩ := (r5 t m).1 (by show t.1 < k; have : t.1 < k + 1 := hk; omega)
      have z0 := slot_ne (o4 _ m) (o4 _ ht) (u2 e) (q8 _ m).1 (q8 _ ht).1
      exact ⟨(a1.ext E).other W (Or.inr z0), (a2.ext E).other W (nn (by omega))⟩
  · obtain ⟨u1, u2⟩ := q3 _ m _ ht
    have hk' : ¬ t.1 < k + 1 := hk
    have z0 := slot_ne (o4 _ m) (o4 _ ht) (u2 (by show t.1 ≠ k; omega)) (q8 _ m).1 (q8 _ ht).1
    exact (((r5 t m).2 (by show ¬ t.1 < k; omega)).ext E).other W (Or.inr z0)
  · show h'.size = en.1 + 1 + (k + 1)
    omega
end Rel
section StepsC
variable {l : Launch} {Z : State} {a0 : Array Value} {cd : CD} {md : MD} {pc pc' pc1 : Nat} {L L' : List Slot} {S : List Value} {k : Nat} {F : Nat → Int32} {G : Nat → Int64} {A : Nat → Int32 → Int32} {B : Nat → Int32 → Int64} {cu su cu' su' : Nat} {Q : Option Value → WO → Prop} {idx : Nat}
theorem Wk.getI {i : Nat} {n d : String} {x : Int32} (ht : (i, n, d) ∈ cd.2.1) (wl : (Cond.fieldLink cd.1 idx cd.1 n d).before a0 Z = true) (hd : InsA md pc (.getfield idx) 3 pc') (hx : F i = x) (h : Wk l Z (MoC Z cd) md pc' L (.int x :: S) (k, F, G, A, B) cu su Q) : Wk l Z (MoC Z cd) md pc L (.ref 0 :: S) (k, F, G, A, B) cu su Q :=
  fun en p e s m args below meth c T locs r X K hz hF hR hL => by
  obtain ⟨hd, rfl⟩ := hd
  subst hx
  obtain ⟨T1, X1, e1, st⟩ := getF X K.1 K.2.1 K.2.2.1 (host := "") (Or.inl wl) Via.refl rfl (hR.2.2.1 _ ht) (g := mkF m pc r (.ref en.1 :: S.map (rv ((MoC Z cd).rho en)))) rfl rfl (hb K.by hd)
  refine (h en p e s m args below meth c T1 locs r X1 K (by rw [e1]; exact hz) hF (by rw [e1]; exact hR) hL).pre (fun _ q => by rw [e1] at q; exact q) fun t q => st t q
theorem Wk.getJ {i : Nat} {n : String} {x : Int64} (ht : (i, n) ∈ cd.2.2.1) (wl : (Cond.fieldLink cd.1 idx cd.1 n "J").before a0 Z = true) (hd : InsA md pc (.getfield idx) 3 pc') (hx : G i = x) (h : Wk l Z (MoC Z cd) md pc' L (.long x :: S) (k, F, G, A, B) cu su Q) : Wk l Z (MoC Z cd) md pc L (.ref 0 :: S) (k, F, G, A, B) cu su Q :=
  fun en p e s m args below meth c T locs r X K hz hF hR hL => by
  obtain ⟨hd, rfl⟩ := hd
  subst hx
  obtain ⟨T1, X1, e1, st⟩ := getF X K.1 K.2.1 K.2.2.1 (host := "") (Or.inl wl) Via.refl rfl (hR.2.2.2.1 _ ht) (g := mkF m pc r (.ref en.1 :: S.map (rv ((MoC Z cd).rho en)))) rfl rfl (hb K.by hd)
  refine (h en p e s m args below meth c T1 locs r X1 K (by rw [e1]; exact hz) hF (by rw [e1]; exact hR) hL).pre (fun _ q => by rw [e1] at q; exact q) fun t q => st t q
theorem Wk.getA {i i' : Nat} {n d : String} {ty : FieldType} {len : Int32} (ht : (i, n, d, ty, len) ∈ cd.2.2.2) (hi : i < k) (hi' : i + 1 = i') (wl : (Cond.fieldLink cd.1 idx cd.1 n d).before a0 Z = true) (hd : InsA md pc (.getfield idx) 3 pc') (h : Wk l Z (MoC Z cd) md pc' L (.ref i' :: S) (k, F, G, A, B) cu su Q) : Wk l Z (MoC Z cd) md pc L (.ref 0 :: S) (k, F, G, A, B) cu su Q :=
  fun en p e s m args below meth c T locs r X K hz hF hR hL => by
  obtain ⟨hd, rfl⟩ := hd
  subst hi'
  obtain ⟨T1, X1, e1, st⟩ := getF X K.1 K.2.1 K.2.2.1 (host := "") (Or.inl wl) Via.refl rfl ((hR.2.2.2.2.1 _ ht).1 hi).1 (g := mkF m pc r (.ref en.1 :: S.map (rv ((MoC Z cd).rho en)))) rfl rfl (hb K.by hd)
  refine (h en p e s m args below meth c T1 locs r X1 K (by rw [e1]; exact hz) hF (by rw [e1]; exact hR) hL).pre (fun _ q => by rw [e1] at q; exact q) fun t q => st t q
theorem Wk.putI (ok : CO Z a0 cd) {i : Nat} {n : String} {x : Int32} (ht : (i, n, "I") ∈ cd.2.1) (wl : (Cond.fieldLink cd.1 idx cd.1 n "I").before a0 Z = true) (wy : (Cond.lays cd.1 cd.1 n "I").before a0 Z = true ∨ ((Cond.laysFinal cd.1 cd.1 n "I").before a0 Z = true ∧ (nmOf md).name = "<init>")) (hd : InsA md pc (.putfield idx) 3 pc') (h : Wk l Z (MoC Z cd) md pc' L S (k, ups F i x, G, A, B) cu su Q) : Wk l Z (MoC Z cd) md pc L (.int x :: .ref 0 :: S) (k, F, G, A, B) cu su Q :=
  fun en p e s m args below meth c T locs r X K hz hF hR hL => by
  obtain ⟨hd, rfl⟩ := hd
  obtain ⟨kk, wi⟩ := ok.1
  obtain ⟨T1, h1, X1, e1, W1, st⟩ := putF X K.1 K.2.1 K.2.2.1 (host := "") (Or.inl wl) Via.refl rfl (hR.2.2.1 _ ht) hR.2.1 (wy.imp id fun q => ⟨q.1, rfl, K.2.2.2.1.trans q.2⟩) wi (ty := .int) (v := .int x) (by decide +kernel) rfl rfl (g := mkF m pc r (.int x :: .ref en.1 :: S.map (rv ((MoC Z cd).rho en)))) rfl rfl (hb K.by hd)
  subst e1
  exact (h en p e s m args below meth c T1 _ r X1 K (by rw [W1.size]; exact hz) (Fr.snoc X1 hF hR.1) (relC.putI ok hR ht W1) hL).pre (fun _ q => (frmC.wr W1 (Nat.le_refl _) (Nat.le_add_right _ _)).trans q) fun t q => st t q
theorem Wk.putZ (ok : CO Z a0 cd) {i : Nat} {n : String} {x y : Int32} (hy : nar .boolean x = y) (ht : (i, n, "Z") ∈ cd.2.1) (wl : (Cond.fieldLink cd.1 idx cd.1 n "Z").before a0 Z = true) (wy : (Cond.lays cd.1 cd.1 n "Z").before a0 Z = true ∨ ((Cond.laysFinal cd.1 cd.1 n "Z").before a0 Z = true ∧ (nmOf md).name = "<init>")) (hd : InsA md pc (.putfield idx) 3 pc') (h : Wk l Z (MoC Z cd) md pc' L S (k, ups F i y, G, A, B) cu su Q) : Wk l Z (MoC Z cd) md pc L (.int x :: .ref 0 :: S) (k, F, G, A, B) cu su Q :=
  fun en p e s m args below meth c T locs r X K hz hF hR hL => by
  obtain ⟨hd, rfl⟩ := hd
  subst hy
  obtain ⟨kk, wi⟩ := ok.1
  obtain ⟨T1, h1, X1, e1, W1, st⟩ := putFN X K.1 K.2.1 K.2.2.1 wl Via.refl rfl (hR.2.2.1 _ ht) hR.2.1 (wy.imp id fun q => ⟨q.1, rfl, K.2.2.2.1.trans q.2⟩) wi (ty := .boolean) (v := .int x) (v' := .int (nar .boolean x)) (by decide +kernel) rfl (fits_nar_bool x) (g := mkF m pc r (.int x :: .ref en.1 :: S.map (rv ((MoC Z cd).rho en)))) rfl rfl (hb K.by hd)
  subst e1
  exact (h en p e s m args below meth c T1 _ r X1 K (by rw [W1.size]; exact hz) (Fr.snoc X1 hF hR.1) (relC.putI ok hR ht W1) hL).pre (fun _ q => (frmC.wr W1 (Nat.le_refl _) (Nat.le_add_right _ _)).trans q) fun t q => st t q
theorem Wk.putJ (ok : CO Z a0 cd) {i : Nat} {n : String} {x : Int64} (ht : (i, n) ∈ cd.2.2.1) (wl : (Cond.fieldLink cd.1 idx cd.1 n "J").before a0 Z = true) (wy : (Cond.lays cd.1 cd.1 n "J").before a0 Z = true ∨ ((Cond.laysFinal cd.1 cd.1 n "J").before a0 Z = true ∧ (nmOf md).name = "<init>")) (hd : InsA md pc (.putfield idx) 3 pc') (h : Wk l Z (MoC Z cd) md pc' L S (k, F, ups G i x, A, B) cu su Q) : Wk l Z (MoC Z cd) md pc L (.long x :: .ref 0 :: S) (k, F, G, A, B) cu su Q :=
  fun en p e s m args below meth c T locs r X K hz hF hR hL => by
  obtain ⟨hd, rfl⟩ := hd
  obtain ⟨kk, wi⟩ := ok.1
  obtain ⟨T1, h1, X1, e1, W1, st⟩ := putF X K.1 K.2.1 K.2.2.1 (host := "") (Or.inl wl) Via.refl rfl (hR.2.2.2.1 _ ht) hR.2.1 (wy.imp id fun q => ⟨q.1, rfl, K.2.2.2.1.trans q.2⟩) wi (ty := .long) (v := .long x) (by decide +kernel) rfl rfl (g := mkF m pc r (.long x :: .ref en.1 :: S.map (rv ((MoC Z cd).rho en)))) rfl rfl (hb K.by hd)
  subst e1
  exact (h en p e s m args below meth c T1 _ r X1 K (by rw [W1.size]; exact hz) (Fr.snoc X1 hF hR.1) (relC.putJ ok hR ht W1) hL).pre (fun _ q => (frmC.wr W1 (Nat.le_refl _) (Nat.le_add_right _ _)).trans q) fun t q => st t q
/-- an array is made and laid into its field at once -/
theorem Wk.newA (ok : CO Z a0 cd) {aty : ArrayType} {len : Int32} {n d : String} {ty : FieldType} {k' : Nat} (hty : newarray.typeOf aty = ty) (wa : (Cond.arrayClass (newarray.typeOf aty)).before a0 Z = true) (ht : (k, n, d, ty, len) ∈ cd.2.2.2) (wl : (Cond.fieldLink cd.1 idx cd.1 n d).before a0 Z = true)
    (wy : (Cond.lays cd.1 cd.1 n d).before a0 Z = true ∨ ((Cond.laysFinal cd.1 cd.1 n d).before a0 Z = true ∧ (nmOf md).name = "<init>")) (hd : InsA md pc (.newarray aty) 2 pc1) (hd2 : InsA md pc1 (.putfield idx) 3 pc') (hA : A k = fun _ => 0) (hB : B k = fun _ => 0) (hk : k + 1 = k') (hcu : cu + 1 = cu') (hsu : su + len.toNatClampNeg = su')
    (hcap : len.toNatClampNeg * 8 ≤ 536870912) (hc : cu' ≤ (rmOf md).cells) (hs : su' ≤ (rmOf md).slots) (h : Wk l Z (MoC Z cd) md pc' L S (k', F, G, A, B) cu' su' Q) : Wk l Z (MoC Z cd) md pc L (.int len :: .ref 0 :: S) (k, F, G, A, B) cu su Q :=
  fun en p e s m args below meth c T locs r X K hz hF hR hL => by
  obtain ⟨hd, rfl⟩ := hd
  obtain ⟨hd2, rfl⟩ := hd2
  subst hk hcu hsu hty
  obtain ⟨kk, wi⟩ := ok.1
  have p8 := ok.2.2.2.2.2.2.2.2.2.2.2 _ ht
  obtain ⟨T1, h1, cA, X1, e1, E1, N1, st1⟩ := newP X K.1 K.2.1 wa rfl (g := mkF m pc r (.int len :: .ref en.1 :: S.map (rv ((MoC Z cd).rho en)))) rfl (hb K.by hd) rfl p8.2.2.2 (cap := len.toNatClampNeg) (Nat.le_refl _) hcap hc hs
  subst e1
  obtain ⟨T2, h2, X2, e2, W2, st2⟩ := putF X1 K.1 K.2.1 K.2.2.1 (host := "") (Or.inl wl) Via.refl rfl (((hR.2.2.2.2.1 _ ht).2 (Nat.lt_irrefl k)).ext E1) (hR.2.1.ext E1) (wy.imp id fun q => ⟨q.1, rfl, K.2.2.2.1.trans q.2⟩) wi (v := .ref T.heap.size) p8.1 rfl rfl (g := mkF m (pc + 2) r (.ref T.heap.size :: .ref en.1 :: S.map (rv ((MoC Z cd).rho en)))) rfl rfl (hb K.by hd2)
  subst e2
  have z1 := X1.heapSize
  have z2 : (T.heap.size : Nat) < T1.heap.size := N1.lt
  have z3 := W2.size
  exact (h en p e s m args below meth c T2 _ r X2 K (by omega) (Fr.snoc X2 hF hR.1) (relC.newA ok hR ht hA hB E1 N1 W2 (by omega)) hL).pre (fun _ q => ((frmC.ext E1).trans (frmC.wr W2 (Nat.le_refl _) (Nat.le_add_right _ _))).trans q) fun t q => st1 t (st2 t q)
theorem relC.arr {en : Nat × Nat} {h : Heap} {i : Nat} {n d : String} {ty : FieldType} {len : Int32} (hR : relC Z cd en (k, F, G, A, B) h) (ht : (i, n, d, ty, len) ∈ cd.2.2.2) (hi : i < k) : AtA Z h (en.1 + (i + 1)) ty len (A i) (B i) := ((hR.2.2.2.2.1 _ ht).1 hi).2
theorem Wk.iaload {i i' : Nat} {n d : String} {len x : Int32} {y : Int32} (ht : (i, n, d, .int, len) ∈ cd.2.2.2) (hi : i < k) (hi' : i + 1 = i') (h0 : ¬ x < 0) (h1 : x < len) (hd : InsA md pc .iaload 1 pc') (hy : A i x = y) (h : Wk l Z (MoC Z cd) md pc' L (.int y :: S) (k, F, G, A, B) cu su Q) : Wk l Z (MoC Z cd) md pc L (.int x :: .ref i' :: S) (k, F, G, A, B) cu su Q :=
  fun en p e s m args below meth c T locs r X K hz hF hR hL => by
  obtain ⟨hd, rfl⟩ := hd
  subst hi' hy
  obtain ⟨cl, g1, g2, g3⟩ := relC.arr hR ht hi
  exact (h en p e s m args below meth c T locs r X K hz hF hR hL).pre (fun _ q => q) fun t q => X.iaload K.1 (j := x) (v := .int (A i x)) g1.1 (State.isArrayOf_alike K.2.1.alike g1.2.1) g1.2.2 (in_of g2 h0 h1) (g3 x h0 h1) (g := mkF m pc r (.int x :: .ref (en.1 + (i + 1)) :: S.map (rv ((MoC Z cd).rho en)))) rfl rfl (hb K.by hd) _ q
theorem Wk.baload {i i' : Nat} {n d : String} {len x : Int32} {y : Int32} (ht : (i, n, d, .boolean, len) ∈ cd.2.2.2) (hi : i < k) (hi' : i + 1 = i') (h0 : ¬ x < 0) (h1 : x < len) (hd : InsA md pc .baload 1 pc') (hy : A i x = y) (h : Wk l Z (MoC Z cd) md pc' L (.int y :: S) (k, F, G, A, B) cu su Q) : Wk l Z (MoC Z cd) md pc L (.int x :: .ref i' :: S) (k, F, G, A, B) cu su Q :=
  fun en p e s m args below meth c T locs r X K hz hF hR hL => by
  obtain ⟨hd, rfl⟩ := hd
  subst hi' hy
  obtain ⟨cl, g1, g2, g3⟩ := relC.arr hR ht hi
  exact (h en p e s m args below meth c T locs r X K hz hF hR hL).pre (fun _ q => q) fun t q => X.baloadBooleans K.1 (j := x) (v := .int (A i x)) g1.1 (State.isArrayOf_alike K.2.1.alike g1.2.1) g1.2.2 (in_of g2 h0 h1) (g3 x h0 h1) (g := mkF m pc r (.int x :: .ref (en.1 + (i + 1)) :: S.map (rv ((MoC Z cd).rho en)))) rfl rfl (hb K.by hd) _ q
theorem Wk.laload {i i' : Nat} {n d : String} {len x : Int32} {y : Int64} (ht : (i, n, d, .long, len) ∈ cd.2.2.2) (hi : i < k) (hi' : i + 1 = i') (h0 : ¬ x < 0) (h1 : x < len) (hd : InsA md pc .laload 1 pc') (hy : B i x = y) (h : Wk l Z (MoC Z cd) md pc' L (.long y :: S) (k, F, G, A, B) cu su Q) : Wk l Z (MoC Z cd) md pc L (.int x :: .ref i' :: S) (k, F, G, A, B) cu su Q :=
  fun en p e s m args below meth c T locs r X K hz hF hR hL => by
  obtain ⟨hd, rfl⟩ := hd
  subst hi' hy
  obtain ⟨cl, g1, g2, g3⟩ := relC.arr hR ht hi
  exact (h en p e s m args below meth c T locs r X K hz hF hR hL).pre (fun _ q => q) fun t q => X.laload K.1 (j := x) (v := .long (B i x)) g1.1 (State.isArrayOf_alike K.2.1.alike g1.2.1) g1.2.2 (in_of g2 h0 h1) (g3 x h0 h1) (g := mkF m pc r (.int x :: .ref (en.1 + (i + 1)) :: S.map (rv ((MoC Z cd).rho en)))) rfl rfl (hb K.by hd) _ q
theorem Wk.iastore (ok : CO Z a0 cd) {f : Int32 → Int32} {i i' : Nat} {n d : String} {len x v : Int32} (ht : (i, n, d, .int, len) ∈ cd.2.2.2) (hf : A i = f) (hi : i < k) (hi' : i + 1 = i') (h0 : ¬ x < 0) (h1 : x < len) (hd : InsA md pc .iastore 1 pc') (h : Wk l Z (MoC Z cd) md pc' L S (k, F, G, ups A i (ups f x v), B) cu su Q) : Wk l Z (MoC Z cd) md pc L (.int v :: .int x :: .ref i' :: S) (k, F, G, A, B) cu su Q :=
  fun en p e s m args below meth c T locs r X K hz hF hR hL => by
  obtain ⟨hd, rfl⟩ := hd
  subst hi' hf
  obtain ⟨cl, g1, g2, g3⟩ := relC.arr hR ht hi
  obtain ⟨T1, e1', X1, e1, W1, st⟩ := stI X K.1 K.2.1 rfl g1 (in_of g2 h0 h1) (g := mkF m pc r (.int v :: .int x :: .ref (en.1 + (i + 1)) :: S.map (rv ((MoC Z cd).rho en)))) rfl rfl (hb K.by hd)
  subst e1
  have p8 := (ok.2.2.2.2.2.2.2.2.2.2.2 _ ht).2.1
  exact (h en p e s m args below meth c T1 _ r X1 K (by rw [W1.size]; exact hz) (Fr.snoc X1 hF (Nat.le_trans hR.1 (Nat.le_add_right _ _))) (relC.stI ok (by decide) h0 h1 hR ht W1) hL).pre (fun _ q => (frmC.wr W1 (Nat.le_add_right _ _) (Nat.add_le_add_left (show i + 1 ≤ cd.2.2.2.length from p8) _)).trans q) fun t q => st t q
theorem Wk.bastore (ok : CO Z a0 cd) {f : Int32 → Int32} {i i' : Nat} {n d : String} {len x v v' : Int32} (hv : nar .boolean v = v') (ht : (i, n, d, .boolean, len) ∈ cd.2.2.2) (hf : A i = f) (hi : i < k) (hi' : i + 1 = i') (h0 : ¬ x < 0) (h1 : x < len) (hd : InsA md pc .bastore 1 pc') (h : Wk l Z (MoC Z cd) md pc' L S (k, F, G, ups A i (ups f x v'), B) cu su Q) : Wk l Z (MoC Z cd) md pc L (.int v :: .int x :: .ref i' :: S) (k, F, G, A, B) cu su Q :=
  fun en p e s m args below meth c T locs r X K hz hF hR hL => by
  obtain ⟨hd, rfl⟩ := hd
  subst hi' hv hf
  obtain ⟨cl, g1, g2, g3⟩ := relC.arr hR ht hi
  obtain ⟨T1, e1', X1, e1, W1, st⟩ := stZ X K.1 K.2.1 rfl g1 (in_of g2 h0 h1) (g := mkF m pc r (.int v :: .int x :: .ref (en.1 + (i + 1)) :: S.map (rv ((MoC Z cd).rho en)))) rfl rfl (hb K.by hd)
  subst e1
  have p8 := (ok.2.2.2.2.2.2.2.2.2.2.2 _ ht).2.1
  exact (h en p e s m args below meth c T1 _ r X1 K (by rw [W1.size]; exact hz) (Fr.snoc X1 hF (Nat.le_trans hR.1 (Nat.le_add_right _ _))) (relC.stI ok (by decide) h0 h1 hR ht W1) hL).pre (fun _ q => (frmC.wr W1 (Nat.le_add_right _ _) (Nat.add_le_add_left (show i + 1 ≤ cd.2.2.2.length from p8) _)).trans q) fun t q => st t q
theorem Wk.lastore (ok : CO Z a0 cd) {f : Int32 → Int64} {i i' : Nat} {n d : String} {len x : Int32} {v : Int64} (ht : (i, n, d, .long, len) ∈ cd.2.2.2) (hf : B i = f) (hi : i < k) (hi' : i + 1 = i') (h0 : ¬ x < 0) (h1 : x < len) (hd : InsA md pc .lastore 1 pc') (h : Wk l Z (MoC Z cd) md pc' L S (k, F, G, A, ups B i (ups f x v)) cu su Q) : Wk l Z (MoC Z cd) md pc L (.long v :: .int x :: .ref i' :: S) (k, F, G, A, B) cu su Q :=
  fun en p e s m args below meth c T locs r X K hz hF hR hL => by
  obtain ⟨hd, rfl⟩ := hd
  subst hi' hf
  obtain ⟨cl, g1, g2, g3⟩ := relC.arr hR ht hi
  obtain ⟨T1, e1', X1, e1, W1, st⟩ := stJ X K.1 K.2.1 rfl g1 (in_of g2 h0 h1) (g := mkF m pc r (.long v :: .int x :: .ref (en.1 + (i + 1)) :: S.map (rv ((MoC Z cd).rho en)))) rfl rfl (hb K.by hd)
  subst e1
  have p8 := (ok.2.2.2.2.2.2.2.2.2.2.2 _ ht).2.1
  exact (h en p e s m args below meth c T1 _ r X1 K (by rw [W1.size]; exact hz) (Fr.snoc X1 hF (Nat.le_trans hR.1 (Nat.le_add_right _ _))) (relC.stJ ok h0 h1 hR ht W1) hL).pre (fun _ q => (frmC.wr W1 (Nat.le_add_right _ _) (Nat.add_le_add_left (show i + 1 ≤ cd.2.2.2.length from p8) _)).trans q) fun t q => st t q
/-- Object.<init> -/
theorem Wk.initO {μ E : Type} {M : Mode μ E} {w : μ} {Q : Option Value → μ → Prop} {v : Nat} (w1 : (Cond.methodLink M.own idx Lib.objectInit).before a0 Z = true) (w2 : (Cond.instanceMethod Lib.objectInit).before a0 Z = true) (w3 : (Cond.code Lib.objectInit ⟨#[0xb1]⟩ 1 none).before a0 Z = true) (hd : InsA md pc (.invokespecial idx) 3 pc') (hl : L.length = mxOf md) (hf : 1 ≤ (rmOf md).frames) (hW : (S.map fun v => v.category).sum + 12 ≤ (rmOf md).locals)
    (h : Wk l Z M md pc' L S w cu su Q) : Wk l Z M md pc L (.ref v :: S) w cu su Q :=
  fun en p e s m args below meth c T locs r X K hz hF hR hL => by
  obtain ⟨hd, rfl⟩ := hd
  have cs : ∀ S : List Value, ((S.map (rv (M.rho en))).map fun v => v.category).sum = (S.map fun v => v.category).sum := fun S => by rw [List.map_map]; congr 1; exact List.map_congr_left fun v _ => rv_cat _ v
  obtain ⟨T1, X1, e1, st⟩ := Jvm.RoadKit.initO X K.1 K.2.1 K.2.2.1 w1 w2 w3 rfl (g := mkF m pc r (.ref (M.rho en v) :: S.map (rv (M.rho en)))) rfl (by show r.size = _; rw [hL.1, hl]; exact K.2.2.2.2.2.2.2.symm) rfl (hb K.by hd) hf (W := (S.map fun v => v.category).sum) (by show 2 * 0 + _ ≤ _; rw [cs]; omega) hW
  exact (h en p e s m args below meth c T1 locs r X1 K (by rw [e1]; exact hz) hF (by rw [e1]; exact hR) hL).pre (fun _ q => by rw [e1] at q; exact q) fun t q => st t q
end StepsC
end Jvm.Own

namespace Jvm.Own
open Jvm Jvm.ClassFile Sem Op Lib Jvm.Free Jvm.Stand Jvm.LawKit Jvm.RoadKit
/-! ## 4. Calls -/
def noRef : List Value → Bool
  | [] => true
  | .ref _ :: _ => false
  | _ :: t => noRef t
theorem noRef.map : (as : List Value) → noRef as = true → ∀ ρ, as.map (rv ρ) = as
  | [], _, _ => rfl
  | .ref _ :: _, h, _ => by cases h
  | .int _ :: t, h, ρ => by rw [List.map_cons, noRef.map t h ρ]; rfl
  | .long _ :: t, h, ρ => by rw [List.map_cons, noRef.map t h ρ]; rfl
  | .float _ :: t, h, ρ => by rw [List.map_cons, noRef.map t h ρ]; rfl
  | .double _ :: t, h, ρ => by rw [List.map_cons, noRef.map t h ρ]; rfl
  | .null :: t, h, ρ => by rw [List.map_cons, noRef.map t h ρ]; rfl
  | .retAddr _ :: t, h, ρ => by rw [List.map_cons, noRef.map t h ρ]; rfl
/-- what the words say of a callee: an instance method -/
def CalV (Z : State) (a0 : Array Value) (md : MD) (n : Nat) : Prop :=
  plainName (nmOf md).cls = true ∧ ((nmOf md).cls ≠ "java/lang/invoke/MethodHandle" ∧ (nmOf md).cls ≠ "java/lang/invoke/VarHandle") ∧ (∀ sig, parseMethodDescriptor (nmOf md).desc = some sig → n = sig.parameters.length) ∧
  (Cond.instanceMethod (nmOf md)).before a0 Z = true ∧ (Cond.code (nmOf md) (byOf md) (mxOf md) (rtOf md)).before a0 Z = true ∧ (Cond.initialized (nmOf md).cls).before a0 Z = true ∧
  (((Cond.declares (nmOf md)).before a0 Z = true ∧ (Cond.selects (nmOf md).cls (nmOf md) (nmOf md)).before a0 Z = true) ∨ ((Cond.privateMethod (nmOf md)).before a0 Z = true ∧ ∃ kk, (Cond.instantiable (nmOf md).cls kk).before a0 Z = true))
/-- a constructor -/
def CalI (Z : State) (a0 : Array Value) (md : MD) (n : Nat) : Prop :=
  plainName (nmOf md).cls = true ∧ ((nmOf md).cls ≠ "java/lang/invoke/MethodHandle" ∧ (nmOf md).cls ≠ "java/lang/invoke/VarHandle") ∧ (∀ sig, parseMethodDescriptor (nmOf md).desc = some sig → n = sig.parameters.length) ∧
  (Cond.instanceMethod (nmOf md)).before a0 Z = true ∧ (Cond.code (nmOf md) (byOf md) (mxOf md) (rtOf md)).before a0 Z = true ∧ (Cond.initialized (nmOf md).cls).before a0 Z = true ∧ (nmOf md).name = "<init>" ∧ rtOf md = none
/-- a static method -/
def CalS (Z : State) (a0 : Array Value) (md : MD) (n : Nat) : Prop :=
  plainName (nmOf md).cls = true ∧ ((nmOf md).cls ≠ "java/lang/invoke/MethodHandle" ∧ (nmOf md).cls ≠ "java/lang/invoke/VarHandle") ∧ (∀ sig, parseMethodDescriptor (nmOf md).desc = some sig → n = sig.parameters.length) ∧
  (Cond.static (nmOf md)).before a0 Z = true ∧ (Cond.code (nmOf md) (byOf md) (mxOf md) (rtOf md)).before a0 Z = true ∧ (Cond.initialized (nmOf md).cls).before a0 Z = true
/-- the figures of a call: the operands under it weigh wt -/
def Fits (md md' : MD) (wt cu su cu' su' : Nat) : Prop :=
  (rmOf md').frames + 1 ≤ (rmOf md).frames ∧ wt + (mxOf md' + 11) + (rmOf md').locals ≤ (rmOf md).locals ∧ cu + (rmOf md').cells = cu' ∧ su + (rmOf md').slots = su' ∧ cu' ≤ (rmOf md).cells ∧ su' ≤ (rmOf md).slots ∧ exOf md' = (rmOf md').cells
instance (md md' : MD) (wt cu su cu' su' : Nat) : Decidable (Fits md md' wt cu su cu' su') := by unfold Fits; infer_instance
section Core
variable {μ E : Type} {l : Launch} {Z : State} {a0 : Array Value} {M' : Mode μ E} {md md' : MD} {own : String} {p : Program} {e : Env} {s : State} {m : MethodId} {args : Array Value} {below : List Frame} {meth : Method} {c : Code} {T : State} {locs : List Loc} {cu su cu' su' wt pc idx : Nat} {as : List Value} {L' : List Slot} {w : μ} {Q' : Option Value → μ → Prop} {en : E} {a : Addr} {r : Array Slot} {rest : List Value}
theorem coreV (X : Stand p l e (rmOf md) s m args below meth c T locs cu su) (K : Kn Z own md p s m meth c) (hd : decode (byOf md) pc = .ok (.invokevirtual idx, 3)) (wl : (Cond.methodLink own idx (nmOf md')).before a0 Z = true) (cv : CalV Z a0 md' as.length) (hcal : Wk l Z M' md' 0 L' [] w 0 0 Q') (ho : M'.own = (nmOf md').cls) (hR : M'.rel en w T.heap) (hE : Exa Z T.heap a (nmOf md').cls) (ha : M'.rho en 0 = a)
    (hL : (argsToLocals (.ref 0 :: as).toArray (mxOf md')).toList = L') (hw : wfL L' = true) (ft : Fits md md' wt cu su cu' su') (hr : r.size = mxOf md) (hrest : (rest.map fun v => v.category).sum ≤ wt) :
    ∃ v T1 Lc w1, Stand p l e (rmOf md) s m args below meth c T1 (locs ++ Lc) cu' su' ∧ Q' v w1 ∧ M'.rel en w1 T1.heap ∧ M'.frm en T.heap T1.heap ∧ Fr (M'.lo en) Lc ∧ T1.heap.size = T.heap.size + exOf md' ∧ (∀ ρ x, v = some x → rv ρ x = x) ∧
      ∀ t, Steps p.tables e below (T1.setTop (mkF m (pc + 3) r (v.toList ++ rest))) t → Steps p.tables e below (T.setTop (mkF m pc r ((as.map (rv (M'.rho en))).reverse ++ .ref a :: rest))) t := by
  obtain ⟨v1, v2, v3, v4, v5, v6, v7⟩ := cv
  obtain ⟨f1, f2, f3, f4, f5, f6, f7⟩ := ft
  subst f3 f4 ha
  obtain ⟨hx, hZ, hown, -, -, -, hby, hml⟩ := K
  have bk := backOf (s := s) (args := args) (p := p) (e := e) (below := below) (len := 3) (W := wt) (R := rmOf md) (Q := fun v hh Lc => ∃ w', Q' v w' ∧ M'.rel en w' hh ∧ M'.frm en T.heap hh ∧ Fr (M'.lo en) Lc ∧ hh.size = T.heap.size + exOf md' ∧ ∀ ρ x, v = some x → rv ρ x = x) (hcal.met v1 ho hR (.ref 0 :: as) hL hw []) hZ v5 v6 f1 f2
  have hlen : ∀ sig, parseMethodDescriptor (nmOf md').desc = some sig → (as.map (rv (M'.rho en))).length = sig.parameters.length := fun sig q => by rw [List.length_map]; exact v3 sig q
  rcases v7 with ⟨d1, d2⟩ | ⟨d1, kk, d2⟩
  · obtain ⟨cq, kq, qa, qb, qc⟩ := isOf (T := T) hZ rfl hE
    obtain ⟨v, _, ⟨T1, L1, k1, n1⟩, -, X1, ⟨Lc, hQ, l1, y1, z1⟩, st⟩ := X.virtualBack hx (y := nmOf md') (z := nmOf md') hown (mvT hZ wl) (mvT hZ d1) (notFace_of_selects (args := #[]) (mvT hZ d2)) (mvT hZ d2) (mvT hZ v4) v2 bk qa qc (g := mkF m pc r ((as.map (rv (M'.rho en))).reverse ++ .ref (M'.rho en 0) :: rest)) rfl (hr.trans hml.symm) (Steps.refl _) (argsL := as.map (rv (M'.rho en))) (rest := rest) hlen rfl (by show 2 * 0 + _ ≤ _; omega) (hb hby hd) (fun _ _ => ⟨rfl, rfl, f5, f6⟩)
    dsimp only [Pt.U, Pt.locs, Pt.cells, Pt.slots] at X1 l1 y1 z1 st hQ
    subst l1 y1 z1
    obtain ⟨w1, q1, q2, q3, q4, q5, q6⟩ := hQ
    exact ⟨v, T1, Lc, w1, X1, q1, q2, q3, q4, q5, q6, fun t q => st.trans q⟩
  · obtain ⟨cc, kc, i1, i2, i3, i4, -⟩ := Cond.instantiable_spec (mvT (s := s) (args := #[]) hZ d2)
    have hni : kc.isInterface = false := by cases hq : kc.isInterface <;> simp [hq] at i4 ⊢
    have pv : s.PrivateAt (nmOf md') := Cond.privateMethod_at (mvP hZ d1 (args := #[]))
    have sel : (Cond.selects (nmOf md').cls (nmOf md') (nmOf md')).before args s = true := selects_self_of_private i1 i2 hni pv (mvT hZ v4) v2
    obtain ⟨cq, q7, q7'⟩ := hE.cell
    obtain ⟨v, _, ⟨T1, L1, k1, n1⟩, -, X1, ⟨Lc, hQ, l1, y1, z1⟩, st⟩ := X.privateBack hx (y := nmOf md') hown (mvT hZ wl) (mvT hZ v4) sel pv (mvT hZ v5) v2 bk (g := mkF m pc r ((as.map (rv (M'.rho en))).reverse ++ .ref (M'.rho en 0) :: rest)) rfl (hr.trans hml.symm) (Steps.refl _) (a := M'.rho en 0) q7 q7' (argsL := as.map (rv (M'.rho en))) (rest := rest) hlen rfl (by show 2 * 0 + _ ≤ _; omega) (hb hby hd) (fun _ _ => ⟨rfl, rfl, f5, f6⟩)
    dsimp only [Pt.U, Pt.locs, Pt.cells, Pt.slots] at X1 l1 y1 z1 st hQ
    subst l1 y1 z1
    obtain ⟨w1, q1, q2, q3, q4, q5, q6⟩ := hQ
    exact ⟨v, T1, Lc, w1, X1, q1, q2, q3, q4, q5, q6, fun t q => st.trans q⟩
theorem coreI (X : Stand p l e (rmOf md) s m args below meth c T locs cu su) (K : Kn Z own md p s m meth c) (hd : decode (byOf md) pc = .ok (.invokespecial idx, 3)) (wl : (Cond.methodLink own idx (nmOf md')).before a0 Z = true) (cv : CalI Z a0 md' as.length) (hcal : Wk l Z M' md' 0 L' [] w 0 0 Q') (ho : M'.own = (nmOf md').cls) (hR : M'.rel en w T.heap) (ha : M'.rho en 0 = a)
    (hL : (argsToLocals (.ref 0 :: as).toArray (mxOf md')).toList = L') (hw : wfL L' = true) (ft : Fits md md' wt cu su cu' su') (hr : r.size = mxOf md) (hrest : (rest.map fun v => v.category).sum ≤ wt) :
    ∃ v T1 Lc w1, Stand p l e (rmOf md) s m args below meth c T1 (locs ++ Lc) cu' su' ∧ Q' v w1 ∧ M'.rel en w1 T1.heap ∧ M'.frm en T.heap T1.heap ∧ Fr (M'.lo en) Lc ∧ T1.heap.size = T.heap.size + exOf md' ∧ (∀ ρ x, v = some x → rv ρ x = x) ∧
      ∀ t, Steps p.tables e below (T1.setTop (mkF m (pc + 3) r (v.toList ++ rest))) t → Steps p.tables e below (T.setTop (mkF m pc r ((as.map (rv (M'.rho en))).reverse ++ .ref a :: rest))) t := by
  obtain ⟨v1, v2, v3, v4, v5, v6, v7, v8⟩ := cv
  obtain ⟨f1, f2, f3, f4, f5, f6, f7⟩ := ft
  subst f3 f4 ha
  obtain ⟨hx, hZ, hown, -, -, -, hby, hml⟩ := K
  have bk := backOf (s := s) (args := args) (p := p) (e := e) (below := below) (len := 3) (W := wt) (R := rmOf md) (Q := fun v hh Lc => ∃ w', Q' v w' ∧ M'.rel en w' hh ∧ M'.frm en T.heap hh ∧ Fr (M'.lo en) Lc ∧ hh.size = T.heap.size + exOf md' ∧ ∀ ρ x, v = some x → rv ρ x = x) (hcal.met v1 ho hR (.ref 0 :: as) hL hw []) hZ v5 v6 f1 f2
  have hlen : ∀ sig, parseMethodDescriptor (nmOf md').desc = some sig → (as.map (rv (M'.rho en))).length = sig.parameters.length := fun sig q => by rw [List.length_map]; exact v3 sig q
  rw [v8] at v5
  obtain ⟨v, _, ⟨T1, L1, k1, n1⟩, -, X1, ⟨Lc, hQ, l1, y1, z1⟩, st⟩ := X.specialBack hx (y := nmOf md') v7 hown (mvT hZ wl) (mvT hZ v4) (mvT hZ v5) v2 bk (g := mkF m pc r ((as.map (rv (M'.rho en))).reverse ++ .ref (M'.rho en 0) :: rest)) rfl (hr.trans hml.symm) (Steps.refl _) (a := M'.rho en 0) (argsL := as.map (rv (M'.rho en))) (rest := rest) hlen rfl (by show 2 * 0 + _ ≤ _; omega) (hb hby hd) (fun _ _ => ⟨rfl, rfl, f5, f6⟩)
  dsimp only [Pt.U, Pt.locs, Pt.cells, Pt.slots] at X1 l1 y1 z1 st hQ
  subst l1 y1 z1
  obtain ⟨w1, q1, q2, q3, q4, q5, q6⟩ := hQ
  exact ⟨v, T1, Lc, w1, X1, q1, q2, q3, q4, q5, q6, fun t q => st.trans q⟩
theorem coreS (X : Stand p l e (rmOf md) s m args below meth c T locs cu su) (K : Kn Z own md p s m meth c) (hd : decode (byOf md) pc = .ok (.invokestatic idx, 3)) (wl : (Cond.methodLink own idx (nmOf md')).before a0 Z = true) (cv : CalS Z a0 md' as.length) (hcal : Wk l Z M' md' 0 L' [] w 0 0 Q') (ho : M'.own = (nmOf md').cls) (hR : M'.rel en w T.heap)
    (hL : (argsToLocals as.toArray (mxOf md')).toList = L') (hw : wfL L' = true) (ft : Fits md md' wt cu su cu' su') (hr : r.size = mxOf md) (hrest : (rest.map fun v => v.category).sum ≤ wt) :
    ∃ v T1 Lc w1, Stand p l e (rmOf md) s m args below meth c T1 (locs ++ Lc) cu' su' ∧ Q' v w1 ∧ M'.rel en w1 T1.heap ∧ M'.frm en T.heap T1.heap ∧ Fr (M'.lo en) Lc ∧ T1.heap.size = T.heap.size + exOf md' ∧ (∀ ρ x, v = some x → rv ρ x = x) ∧
      ∀ t, Steps p.tables e below (T1.setTop (mkF m (pc + 3) r (v.toList ++ rest))) t → Steps p.tables e below (T.setTop (mkF m pc r ((as.map (rv (M'.rho en))).reverse ++ rest))) t := by
  obtain ⟨v1, v2, v3, v4, v5, v6⟩ := cv
  obtain ⟨f1, f2, f3, f4, f5, f6, f7⟩ := ft
  subst f3 f4
  obtain ⟨hx, hZ, hown, -, -, -, hby, hml⟩ := K
  have bk := backOf (s := s) (args := args) (p := p) (e := e) (below := below) (len := 3) (W := wt) (R := rmOf md) (Q := fun v hh Lc => ∃ w', Q' v w' ∧ M'.rel en w' hh ∧ M'.frm en T.heap hh ∧ Fr (M'.lo en) Lc ∧ hh.size = T.heap.size + exOf md' ∧ ∀ ρ x, v = some x → rv ρ x = x) (hcal.met v1 ho hR as hL hw []) hZ v5 v6 f1 f2
  have hlen : ∀ sig, parseMethodDescriptor (nmOf md').desc = some sig → (as.map (rv (M'.rho en))).length = sig.parameters.length := fun sig q => by rw [List.length_map]; exact v3 sig q
  obtain ⟨v, _, ⟨T1, L1, k1, n1⟩, -, X1, ⟨Lc, hQ, l1, y1, z1⟩, st⟩ := Jvm.LawKit.callS X hx (y := nmOf md') hown (mvT hZ wl) (mvT hZ v4) (mvT hZ v6) (mvT hZ v5) v2 bk (g := mkF m pc r ((as.map (rv (M'.rho en))).reverse ++ rest)) rfl (hr.trans hml.symm) (argsL := as.map (rv (M'.rho en))) (rest := rest) hlen rfl (by show 2 * 0 + _ ≤ _; omega) (hb hby hd) (fun _ _ => ⟨rfl, rfl, f5, f6⟩)
  dsimp only [Pt.U, Pt.locs, Pt.cells, Pt.slots] at X1 l1 y1 z1 st hQ
  subst l1 y1 z1
  obtain ⟨w1, q1, q2, q3, q4, q5, q6⟩ := hQ
  exact ⟨v, T1, Lc, w1, X1, q1, q2, q3, q4, q5, q6, fun t q => st t q⟩
end Core
theorem cat_map (ρ : Nat → Addr) (S : List Value) : ((S.map (rv ρ)).map fun v => v.category).sum = (S.map fun v => v.category).sum := by
  rw [List.map_map]; congr 1; exact List.map_congr_left fun v _ => rv_cat _ v
theorem res_map {ρ : Nat → Addr} {v : Option Value} (h : ∀ ρ x, v = some x → rv ρ x = x) (S : List Value) : (v.toList ++ S).map (rv ρ) = v.toList ++ S.map (rv ρ) := by
  cases v with
  | none => rfl
  | some x => simp [h ρ x rfl]
section CallsC
variable {l : Launch} {Z : State} {a0 : Array Value} {cd : CD} {md md' : MD} {pc pc' wt idx : Nat} {L L' : List Slot} {S stk as : List Value} {w : WO} {cu su cu' su' : Nat} {Q Q' : Option Value → WO → Prop}
/-- a method of the same object -/
theorem Wk.callC (as : List Value) (S : List Value) (hs : stk = as.reverse ++ .ref 0 :: S) (wl : (Cond.methodLink cd.1 idx (nmOf md')).before a0 Z = true) (cv : CalV Z a0 md' as.length) (hc : (nmOf md').cls = cd.1) (nr : noRef as = true) (hcal : Wk l Z (MoC Z cd) md' 0 L' [] w 0 0 Q') (hL' : (argsToLocals (.ref 0 :: as).toArray (mxOf md')).toList = L') (hw : wfL L' = true) (hl : L.length = mxOf md)
    (hwt : (S.map fun v => v.category).sum = wt) (ft : Fits md md' wt cu su cu' su') (hd : InsA md pc (.invokevirtual idx) 3 pc') (h : ∀ v w', Q' v w' → Wk l Z (MoC Z cd) md pc' L (v.toList ++ S) w' cu' su' Q) : Wk l Z (MoC Z cd) md pc L stk w cu su Q :=
  fun en p e s m args below meth c T locs r X K hz hF hR hL => by
  obtain ⟨hd, rfl⟩ := hd
  subst hs
  obtain ⟨v, T1, Lc, w1, X1, q1, q2, q3, q4, q5, q6, st⟩ := coreV (M' := MoC Z cd) (en := en) (r := r) (rest := S.map (rv ((MoC Z cd).rho en))) X K hd wl cv hcal hc.symm hR (by rw [hc]; exact hR.2.1) rfl hL' hw ft (hL.1.trans hl) (by rw [cat_map]; omega)
  have f7 := ft.2.2.1
  have f8 := ft.2.2.2.2.2.2
  have em : (as.reverse ++ .ref 0 :: S).map (rv ((MoC Z cd).rho en)) = (as.map (rv ((MoC Z cd).rho en))).reverse ++ .ref ((MoC Z cd).rho en 0) :: S.map (rv ((MoC Z cd).rho en)) := by rw [List.map_append, List.map_reverse]; rfl
  have D := h v w1 q1 en p e s m args below meth c T1 _ r X1 K (by omega) (hF.app q4) q2 hL
  rw [res_map q6] at D
  rw [em]
  exact D.pre (fun _ q => frmC.trans q3 q) st
end CallsC
section CallsS
variable {μ E : Type} {l : Launch} {Z : State} {a0 : Array Value} {M : Mode μ E} {md md' : MD} {pc pc' wt idx : Nat} {L L' : List Slot} {S stk as : List Value} {w : μ} {cu su cu' su' : Nat} {Q Q' : Option Value → μ → Prop}
/-- a static method, in the same mode -/
theorem Wk.callS (hM : ∀ en h1 h2 h3, M.frm en h1 h2 → M.frm en h2 h3 → M.frm en h1 h3) (as : List Value) (S : List Value) (hs : stk = as.reverse ++ S) (wl : (Cond.methodLink M.own idx (nmOf md')).before a0 Z = true) (cv : CalS Z a0 md' as.length) (hc : (nmOf md').cls = M.own) (hcal : Wk l Z M md' 0 L' [] w 0 0 Q') (hL' : (argsToLocals as.toArray (mxOf md')).toList = L') (hw : wfL L' = true) (hl : L.length = mxOf md)
    (hwt : (S.map fun v => v.category).sum = wt) (ft : Fits md md' wt cu su cu' su') (hd : InsA md pc (.invokestatic idx) 3 pc') (h : ∀ v w', Q' v w' → Wk l Z M md pc' L (v.toList ++ S) w' cu' su' Q) : Wk l Z M md pc L stk w cu su Q :=
  fun en p e s m args below meth c T locs r X K hz hF hR hL => by
  obtain ⟨hd, rfl⟩ := hd
  subst hs
  obtain ⟨v, T1, Lc, w1, X1, q1, q2, q3, q4, q5, q6, st⟩ := coreS (M' := M) (en := en) (r := r) (rest := S.map (rv (M.rho en))) X K hd wl cv hcal hc.symm hR hL' hw ft (hL.1.trans hl) (by rw [cat_map]; omega)
  have f7 := ft.2.2.1
  have f8 := ft.2.2.2.2.2.2
  have em : (as.reverse ++ S).map (rv (M.rho en)) = (as.map (rv (M.rho en))).reverse ++ S.map (rv (M.rho en)) := by rw [List.map_append, List.map_reverse]
  have D := h v w1 q1 en p e s m args below meth c T1 _ r X1 K (by omega) (hF.app q4) q2 hL
  rw [res_map q6] at D
  rw [em]
  exact D.pre (fun _ q => hM _ _ _ _ q3 q) st
end CallsS
/-! ## 5. The law's own level: a script of ints (or none) and some objects, made one behind the other -/
abbrev WL : Type := Int32 × (Int32 → Int32) × List WO
def w0 : WO := (0, fun _ => 0, fun _ => 0, fun _ _ => 0, fun _ _ => 0)
def rhoL (cd : CD) (en : Nat × Nat) : Nat → Addr
  | 0 => en.2
  | i + 1 => en.1 + i * (cd.2.2.2.length + 1)
def relL (Z : State) (cd : CD) (sc : Bool) (en : Nat × Nat) (w : WL) (h : Heap) : Prop :=
  (sc = true → en.2 < en.1 ∧ ¬ w.1 < 0 ∧ AtA Z h en.2 .int w.1 w.2.1 (fun _ => 0)) ∧ (∀ i x, w.2.2[i]? = some x → relC Z cd (en.1 + i * (cd.2.2.2.length + 1), en.1) x h) ∧ h.size = en.1 + (w.2.2.map fun x => x.1 + 1).sum
abbrev MoL (Z : State) (cd : CD) (own : String) (sc : Bool) : Mode WL (Nat × Nat) := (own, rhoL cd, fun en => en.1, relL Z cd sc, fun _ _ _ => True)
def allK (n : Nat) : List WO → Prop
  | [] => True
  | x :: t => x.1 = n ∧ allK n t
theorem allK.get {n : Nat} : (ws : List WO) → allK n ws → ∀ (i : Nat) (x : WO), ws[i]? = some x → x.1 = n
  | [], _, i, x, h => by simp at h
  | y :: t, h, i, x, e => by
    cases i with
    | zero => simp at e; rw [← e]; exact h.1
    | succ i => exact allK.get t h.2 i x (by simpa using e)
theorem allK.sum {n : Nat} : {ws : List WO} → allK n ws → (ws.map fun x => x.1 + 1).sum = ws.length * (n + 1)
  | [], _ => by simp
  | y :: t, h => by rw [List.map_cons, List.sum_cons, allK.sum (ws := t) h.2, h.1, List.length_cons, Nat.add_mul]; omega
theorem sum_set : (ws : List WO) → (i : Nat) → (x y : WO) → ws[i]? = some x → ((ws.set i y).map fun x => x.1 + 1).sum + x.1 = (ws.map fun x => x.1 + 1).sum + y.1
  | [], i, x, y, h => by simp at h
  | z :: t, 0, x, y, h => by simp at h; subst h; simp; omega
  | z :: t, i + 1, x, y, h => by have := sum_set t i x y (by simpa using h); simp only [List.set_cons_succ, List.map_cons, List.sum_cons]; omega
section Keep
variable {Z : State} {cd : CD} {en : Nat × Nat} {h h' : Heap} {w : WO}
theorem Fld.cells {a : Addr} {C n d : String} {v : Value} (H : Fld Z h a C n d v) (q : ∀ c, h[a]? = some c → h'[a]? = some c) : Fld Z h' a C n d v := by
  obtain ⟨cell, cf, k, i, f, h1, r⟩ := H; exact ⟨cell, cf, k, i, f, q _ h1, r⟩
theorem Exa.cells {a : Addr} {C : String} (H : Exa Z h a C) (q : ∀ c, h[a]? = some c → h'[a]? = some c) : Exa Z h' a C := by
  obtain ⟨cell, k, h1, r⟩ := H; exact ⟨cell, k, q _ h1, r⟩
theorem AtA.cells {b : Addr} {ty : FieldType} {n : Int32} {f : Int32 → Int32} {g : Int32 → Int64} (H : AtA Z h b ty n f g) (q : ∀ c, h[b]? = some c → h'[b]? = some c) : AtA Z h' b ty n f g := by
  obtain ⟨cl, h1, r⟩ := H; exact ⟨cl, ⟨q _ h1.1, h1.2⟩, r⟩
theorem relC.cells (okA : ∀ t ∈ cd.2.2.2, t.1 < cd.2.2.2.length) (hR : relC Z cd en w h) (hk : w.1 = cd.2.2.2.length) (q : ∀ x c, en.1 ≤ x → x ≤ en.1 + cd.2.2.2.length → h[x]? = some c → h'[x]? = some c) : relC Z cd en w h' := by
  obtain ⟨r1, r2, r3, r4, r5, r6⟩ := hR
  have q0 := fun c => q en.1 c (Nat.le_refl _) (Nat.le_add_right _ _)
  refine ⟨r1, Exa.cells r2 q0, fun t m => Fld.cells (r3 t m) q0, fun t m => Fld.cells (r4 t m) q0, fun t m => ⟨fun k => ⟨Fld.cells ((r5 t m).1 k).1 q0, AtA.cells ((r5 t m).1 k).2 fun c => q _ c (Nat.le_add_right _ _) (by have := okA t m; omega)⟩, fun k => Fld.cells ((r5 t m).2 k) q0⟩, fun k => absurd k (by omega)⟩
end Keep
theorem apart {N i j n x : Nat} (hne : j ≠ i) (h1 : n + j * (N + 1) ≤ x) (h2 : x ≤ n + j * (N + 1) + N) : x < n + i * (N + 1) ∨ n + i * (N + 1) + N < x := by
  rcases Nat.lt_or_gt_of_ne hne with q | q
  · left
    have := Nat.mul_le_mul_right (N + 1) (show j + 1 ≤ i from q)
    rw [Nat.add_mul] at this
    omega
  · right
    have := Nat.mul_le_mul_right (N + 1) (show i + 1 ≤ j from q)
    rw [Nat.add_mul] at this
    omega
/-- one object's walk, seen from the law's level -/
theorem relL.step {Z : State} {cd : CD} {sc : Bool} {en : Nat × Nat} {sl : Int32} {sv : Int32 → Int32} {ws : List WO} {h h' : Heap} {i : Nat} {x y : WO} (okA : ∀ t ∈ cd.2.2.2, t.1 < cd.2.2.2.length) (hR : relL Z cd sc en (sl, sv, ws) h) (hi : ws[i]? = some x) (hoth : ∀ j z, ws[j]? = some z → j ≠ i → z.1 = cd.2.2.2.length)
    (hy : relC Z cd (en.1 + i * (cd.2.2.2.length + 1), en.1) y h') (hf : frmC cd (en.1 + i * (cd.2.2.2.length + 1), en.1) h h') (hz : h'.size + x.1 = h.size + y.1) : relL Z cd sc en (sl, sv, ws.set i y) h' := by
  obtain ⟨r1, r2, r3⟩ := hR
  refine ⟨fun q => ?_, fun j z hj => ?_, ?_⟩
  · obtain ⟨a1, a2, a3⟩ := r1 q
    refine ⟨a1, a2, AtA.cells a3 fun c hc => hf.2 _ c hc (Or.inl ?_)⟩
    show en.2 < en.1 + i * (cd.2.2.2.length + 1)
    omega
  · have hj' : (ws.set i y)[j]? = some z := hj
    rw [List.getElem?_set] at hj'
    by_cases e : i = j
    · subst e
      have : i < ws.length := (List.getElem?_eq_some_iff.mp hi).1
      simp [this] at hj'
      subst hj'
      exact hy
    · rw [if_neg e] at hj'
      exact relC.cells okA (r2 j z hj') (hoth j z hj' (Ne.symm e)) fun a c h1 h2 hc => hf.2 a c hc (apart (Ne.symm e) h1 h2)
  · have s1 := sum_set ws i x y hi
    have s2 : h.size = en.1 + (ws.map fun x => x.1 + 1).sum := r3
    show h'.size = en.1 + ((ws.set i y).map fun x => x.1 + 1).sum
    omega
section StepsL
variable {l : Launch} {Z : State} {a0 : Array Value} {cd : CD} {own : String} {sc : Bool} {md md' : MD} {pc pc' wt idx : Nat} {L L' : List Slot} {S stk as : List Value} {sl : Int32} {sv : Int32 → Int32} {ws ws' : List WO} {cu su cu' su' : Nat} {Q : Option Value → WL → Prop} {Q' : Option Value → WO → Prop}
theorem Wk.lenL (hd : InsA md pc .arraylength 1 pc') (h : Wk l Z (MoL Z cd own true) md pc' L (.int sl :: S) (sl, sv, ws) cu su Q) : Wk l Z (MoL Z cd own true) md pc L (.ref 0 :: S) (sl, sv, ws) cu su Q :=
  fun en p e s m args below meth c T locs r X K hz hF hR hL => by
  obtain ⟨hd, rfl⟩ := hd
  obtain ⟨a1, a2, cl, g1, g2, g3⟩ := hR.1 rfl
  have e1 : cl.slots.size.toInt32 = sl := by rw [g2]; exact (back32 a2).1
  refine (h en p e s m args below meth c T locs r X K hz hF hR hL).pre (fun _ q => q) fun t q => X.arraylength K.1 g1.1 (State.isArrayOf_alike K.2.1.alike g1.2.1) (g := mkF m pc r (.ref en.2 :: S.map (rv (rhoL cd en)))) rfl rfl (hb K.by hd) _ (by rw [e1]; exact q)
theorem Wk.ialoadL {x : Int32} (h0 : ¬ x < 0) (h1 : x < sl) (hd : InsA md pc .iaload 1 pc') (h : Wk l Z (MoL Z cd own true) md pc' L (.int (sv x) :: S) (sl, sv, ws) cu su Q) : Wk l Z (MoL Z cd own true) md pc L (.int x :: .ref 0 :: S) (sl, sv, ws) cu su Q :=
  fun en p e s m args below meth c T locs r X K hz hF hR hL => by
  obtain ⟨hd, rfl⟩ := hd
  obtain ⟨a1, a2, cl, g1, g2, g3⟩ := hR.1 rfl
  exact (h en p e s m args below meth c T locs r X K hz hF hR hL).pre (fun _ q => q) fun t q => X.iaload K.1 (j := x) (v := .int (sv x)) g1.1 (State.isArrayOf_alike K.2.1.alike g1.2.1) g1.2.2 (in_of g2 h0 h1) (g3 x h0 h1) (g := mkF m pc r (.int x :: .ref en.2 :: S.map (rv (rhoL cd en)))) rfl rfl (hb K.by hd) _ q
theorem Wk.newL (ok : CO Z a0 cd) {kk i' : Nat} (wc : (Cond.classLink own idx cd.1).before a0 Z = true) (wi : (Cond.instantiable cd.1 kk).before a0 Z = true) (wz : (Cond.initialized cd.1).before a0 Z = true) (hd : InsA md pc (.new idx) 3 pc') (hall : allK cd.2.2.2.length ws) (hi : ws.length + 1 = i') (hws : ws ++ [w0] = ws') (hcu : cu + 1 = cu') (hsu : su + kk = su') (hc : cu' ≤ (rmOf md).cells) (hs : su' ≤ (rmOf md).slots)
    (h : Wk l Z (MoL Z cd own sc) md pc' L (.ref i' :: S) (sl, sv, ws') cu' su' Q) : Wk l Z (MoL Z cd own sc) md pc L S (sl, sv, ws) cu su Q :=
  fun en p e s m args below meth c T locs r X K hz hF hR hL => by
  obtain ⟨hd, rfl⟩ := hd
  subst hi hws hcu hsu
  obtain ⟨T1, h1, X1, e1, E1, A1, D1, -, st⟩ := newO X K.1 K.2.1 K.2.2.1 wc wi wz rfl (g := mkF m pc r (S.map (rv (rhoL cd en)))) rfl (hb K.by hd) hc hs
  subst e1
  obtain ⟨r1, r2, r3⟩ := hR
  have r3' : T.heap.size = en.1 + (ws.map fun x => x.1 + 1).sum := r3
  have sm := hall.sum
  have z1 := X1.heapSize
  have z2 : (T.heap.size : Nat) < T1.heap.size := A1.lt
  have ea : T.heap.size = en.1 + ws.length * (cd.2.2.2.length + 1) := by rw [r3', sm]
  have okp := ok.2.2.2.2
  obtain ⟨q1, q2, q3, q4, q5, q6, q7, q8⟩ := okp
  have rel1 : relL Z cd sc en (sl, sv, ws ++ [w0]) T1.heap := by
    refine ⟨fun q => ⟨(r1 q).1, (r1 q).2.1, (r1 q).2.2.ext E1⟩, fun j z hj => ?_, ?_⟩
    · have hj' : (ws ++ [w0])[j]? = some z := hj
      by_cases e : j < ws.length
      · rw [List.getElem?_append_left e] at hj'
        exact relC.cells (fun t m => (q8 t m).2.1) (r2 j z hj') (allK.get _ hall _ _ hj') fun a c _ _ hc => E1.2 a c hc
      · have e2 : j = ws.length := by
          have := (List.getElem?_eq_some_iff.mp hj').1
          simp at this; omega
        subst e2
        simp at hj'
        subst hj'
        rw [← ea]
        refine ⟨by show en.1 ≤ T.heap.size; omega, A1, fun t m => ?_, fun t m => ?_, fun t m => ⟨fun k => absurd k (Nat.not_lt_zero _), fun _ => ?_⟩, fun _ => by show T1.heap.size = T.heap.size + 1 + 0; omega⟩
        · rcases q7 t m with q | q
          · exact D1 (ok.2.1 t m) q
          · exact D1 (ok.2.1 t m) q
        · exact D1 (ok.2.2.1 t m) pJ
        · exact D1 (ok.2.2.2.1 t m) (q8 t m).1
    · show T1.heap.size = en.1 + ((ws ++ [w0]).map fun x => x.1 + 1).sum
      rw [List.map_append, List.sum_append]
      show T1.heap.size = en.1 + ((ws.map fun x => x.1 + 1).sum + 1)
      omega
  refine (h en p e s m args below meth c T1 locs r X1 K (by omega) hF rel1 hL).pre (fun _ _ => trivial) fun t q => st t ?_
  rw [ea]
  exact q
theorem Wk.callLC (ok : CO Z a0 cd) (as : List Value) (i : Nat) (S : List Value) {i' : Nat} {x : WO} (hi' : i + 1 = i') (hs : stk = as.reverse ++ .ref i' :: S) (hx : ws[i]? = some x) (hoth : allK cd.2.2.2.length (ws.eraseIdx i)) (wl : (Cond.methodLink own idx (nmOf md')).before a0 Z = true) (cv : CalV Z a0 md' as.length) (hc : (nmOf md').cls = cd.1) (nr : noRef as = true) (hcal : Wk l Z (MoC Z cd) md' 0 L' [] x 0 0 Q') (hL' : (argsToLocals (.ref 0 :: as).toArray (mxOf md')).toList = L') (hw : wfL L' = true) (hl : L.length = mxOf md)
    (hwt : (S.map fun v => v.category).sum = wt) (ft : Fits md md' wt cu su cu' su') (hd : InsA md pc (.invokevirtual idx) 3 pc') (hk : ∀ v y, Q' v y → y.1 = x.1 + exOf md') (h : ∀ v y, Q' v y → Wk l Z (MoL Z cd own sc) md pc' L (v.toList ++ S) (sl, sv, ws.set i y) cu' su' Q) : Wk l Z (MoL Z cd own sc) md pc L stk (sl, sv, ws) cu su Q :=
  fun en p e s m args below meth c T locs r X K hz hF hR hL => by
  obtain ⟨hd, rfl⟩ := hd
  subst hs hi'
  have rx := hR.2.1 i x hx
  obtain ⟨v, T1, Lc, w1, X1, p1, p2, p3, p4, p5, p6, st⟩ := coreV (M' := MoC Z cd) (en := (en.1 + i * (cd.2.2.2.length + 1), en.1)) (r := r) (rest := S.map (rv (rhoL cd en))) X K hd wl cv hcal hc.symm rx (by rw [hc]; exact rx.2.1) rfl hL' hw ft (hL.1.trans hl) (by rw [cat_map]; omega)
  have f7 := ft.2.2.1
  have f8 := ft.2.2.2.2.2.2
  have em : (as.reverse ++ .ref (i + 1) :: S).map (rv (rhoL cd en)) = (as.map (rv ((MoC Z cd).rho (en.1 + i * (cd.2.2.2.length + 1), en.1)))).reverse ++ .ref ((MoC Z cd).rho (en.1 + i * (cd.2.2.2.length + 1), en.1) 0) :: S.map (rv (rhoL cd en)) := by
    rw [List.map_append, List.map_reverse, noRef.map as nr, noRef.map as nr]; rfl
  have oth : ∀ j z, ws[j]? = some z → j ≠ i → z.1 = cd.2.2.2.length := by
    intro j z hj hne
    by_cases e : j < i
    · exact allK.get _ hoth j z (by rw [List.getElem?_eraseIdx]; simp [e, hj])
    · refine allK.get _ hoth (j - 1) z ?_
      rw [List.getElem?_eraseIdx, if_neg (by omega), show j - 1 + 1 = j by omega]; exact hj
  have hkk := hk v w1 p1
  have okA : ∀ t ∈ cd.2.2.2, t.1 < cd.2.2.2.length := fun t m => (ok.2.2.2.2.2.2.2.2.2.2.2 t m).2.1
  have D := h v w1 p1 en p e s m args below meth c T1 _ r X1 K (by omega) (hF.app p4) (relL.step okA hR hx oth p2 p3 (by omega)) hL
  rw [res_map p6] at D
  show Done _ _ _ _ _ _ _ _ _ _ _ _ _ _ (mkF m pc r ((as.reverse ++ .ref (i + 1) :: S).map (rv (rhoL cd en))))
  rw [em]
  exact D.pre (fun _ _ => trivial) st
theorem Wk.ctorL (ok : CO Z a0 cd) (as : List Value) (i : Nat) (S : List Value) {i' : Nat} {x : WO} (hi' : i + 1 = i') (hs : stk = as.reverse ++ .ref i' :: S) (hx : ws[i]? = some x) (hoth : allK cd.2.2.2.length (ws.eraseIdx i)) (wl : (Cond.methodLink own idx (nmOf md')).before a0 Z = true) (cv : CalI Z a0 md' as.length) (hc : (nmOf md').cls = cd.1) (nr : noRef as = true) (hcal : Wk l Z (MoC Z cd) md' 0 L' [] x 0 0 Q') (hL' : (argsToLocals (.ref 0 :: as).toArray (mxOf md')).toList = L') (hw : wfL L' = true) (hl : L.length = mxOf md)
    (hwt : (S.map fun v => v.category).sum = wt) (ft : Fits md md' wt cu su cu' su') (hd : InsA md pc (.invokespecial idx) 3 pc') (hk : ∀ v y, Q' v y → y.1 = x.1 + exOf md') (h : ∀ v y, Q' v y → Wk l Z (MoL Z cd own sc) md pc' L (v.toList ++ S) (sl, sv, ws.set i y) cu' su' Q) : Wk l Z (MoL Z cd own sc) md pc L stk (sl, sv, ws) cu su Q :=
  fun en p e s m args below meth c T locs r X K hz hF hR hL => by
  obtain ⟨hd, rfl⟩ := hd
  subst hs hi'
  have rx := hR.2.1 i x hx
  obtain ⟨v, T1, Lc, w1, X1, p1, p2, p3, p4, p5, p6, st⟩ := coreI (M' := MoC Z cd) (en := (en.1 + i * (cd.2.2.2.length + 1), en.1)) (r := r) (rest := S.map (rv (rhoL cd en))) X K hd wl cv hcal hc.symm rx rfl hL' hw ft (hL.1.trans hl) (by rw [cat_map]; omega)
  have f7 := ft.2.2.1
  have f8 := ft.2.2.2.2.2.2
  have em : (as.reverse ++ .ref (i + 1) :: S).map (rv (rhoL cd en)) = (as.map (rv ((MoC Z cd).rho (en.1 + i * (cd.2.2.2.length + 1), en.1)))).reverse ++ .ref ((MoC Z cd).rho (en.1 + i * (cd.2.2.2.length + 1), en.1) 0) :: S.map (rv (rhoL cd en)) := by
    rw [List.map_append, List.map_reverse, noRef.map as nr, noRef.map as nr]; rfl
  have oth : ∀ j z, ws[j]? = some z → j ≠ i → z.1 = cd.2.2.2.length := by
    intro j z hj hne
    by_cases e : j < i
    · exact allK.get _ hoth j z (by rw [List.getElem?_eraseIdx]; simp [e, hj])
    · refine allK.get _ hoth (j - 1) z ?_
      rw [List.getElem?_eraseIdx, if_neg (by omega), show j - 1 + 1 = j by omega]; exact hj
  have hkk := hk v w1 p1
  have okA : ∀ t ∈ cd.2.2.2, t.1 < cd.2.2.2.length := fun t m => (ok.2.2.2.2.2.2.2.2.2.2.2 t m).2.1
  have D := h v w1 p1 en p e s m args below meth c T1 _ r X1 K (by omega) (hF.app p4) (relL.step okA hR hx oth p2 p3 (by omega)) hL
  rw [res_map p6] at D
  show Done _ _ _ _ _ _ _ _ _ _ _ _ _ _ (mkF m pc r ((as.reverse ++ .ref (i + 1) :: S).map (rv (rhoL cd en))))
  rw [em]
  exact D.pre (fun _ _ => trivial) st
end StepsL
end Jvm.Own

namespace Jvm.Own
open Jvm Jvm.ClassFile Sem Op Lib Jvm.Free Jvm.Stand Jvm.LawKit Jvm.RoadKit
/-- the class's list of fields, looked at -/
def okB (cd : CD) : Bool :=
  cd.2.1.all (fun (t : Nat × String × String) => cd.2.1.all fun t' => if t.1 = t'.1 then decide (t = t') else t.2.1 != t'.2.1) && cd.2.2.1.all (fun (t : Nat × String) => cd.2.2.1.all fun t' => if t.1 = t'.1 then decide (t = t') else t.2 != t'.2) && cd.2.2.2.all (fun (t : Nat × String × String × FieldType × Int32) => cd.2.2.2.all fun t' => if t.1 = t'.1 then decide (t = t') else t.2.1 != t'.2.1) &&
  cd.2.1.all (fun (t : Nat × String × String) => cd.2.2.1.all fun (t' : Nat × String) => t.2.1 != t'.2) && cd.2.1.all (fun (t : Nat × String × String) => cd.2.2.2.all fun (t' : Nat × String × String × FieldType × Int32) => t.2.1 != t'.2.1) && cd.2.2.1.all (fun (t : Nat × String) => cd.2.2.2.all fun (t' : Nat × String × String × FieldType × Int32) => t.2 != t'.2.1) &&
  cd.2.1.all (fun (t : Nat × String × String) => decide (parseFieldDescriptor t.2.2 = some .int) || decide (parseFieldDescriptor t.2.2 = some .boolean)) &&
  cd.2.2.2.all (fun (t : Nat × String × String × FieldType × Int32) => decide (parseFieldDescriptor t.2.2.1 = some (.array t.2.2.2.1)) && decide (t.1 < cd.2.2.2.length) && (decide (t.2.2.2.1 = .int) || decide (t.2.2.2.1 = .boolean) || decide (t.2.2.2.1 = .long)) && !decide (t.2.2.2.2 < 0))
theorem pair_of {α : Type} {L : List α} {f : α → Nat} {g : α → String} [DecidableEq α] (h : L.all (fun t => L.all fun t' => if f t = f t' then decide (t = t') else g t != g t') = true) : ∀ t ∈ L, ∀ t' ∈ L, (f t = f t' → t = t') ∧ (f t ≠ f t' → g t ≠ g t') := by
  intro t m t' m'
  have q := List.all_eq_true.mp (List.all_eq_true.mp h t m) t' m'
  constructor
  · intro e; rw [if_pos e] at q; exact of_decide_eq_true q
  · intro e; rw [if_neg e] at q; simpa using q
theorem apart_of {α β : Type} {L : List α} {L' : List β} {g : α → String} {g' : β → String} (h : L.all (fun t => L'.all fun t' => g t != g' t') = true) : ∀ t ∈ L, ∀ t' ∈ L', g t ≠ g' t' := by
  intro t m t' m'
  have q := List.all_eq_true.mp (List.all_eq_true.mp h t m) t' m'
  simpa using q
theorem okC.of {cd : CD} (h : okB cd = true) : okC cd := by
  unfold okB at h
  simp only [Bool.and_eq_true] at h
  obtain ⟨⟨⟨⟨⟨⟨⟨h1, h2⟩, h3⟩, h4⟩, h5⟩, h6⟩, h7⟩, h8⟩ := h
  refine ⟨pair_of (L := cd.2.1) (f := fun (t : Nat × String × String) => t.1) (g := fun (t : Nat × String × String) => t.2.1) h1, pair_of (L := cd.2.2.1) (f := fun (t : Nat × String) => t.1) (g := fun (t : Nat × String) => t.2) h2, pair_of (L := cd.2.2.2) (f := fun (t : Nat × String × String × FieldType × Int32) => t.1) (g := fun (t : Nat × String × String × FieldType × Int32) => t.2.1) h3, apart_of (L := cd.2.1) (L' := cd.2.2.1) (g := fun (t : Nat × String × String) => t.2.1) (g' := fun (t : Nat × String) => t.2) h4, apart_of (L := cd.2.1) (L' := cd.2.2.2) (g := fun (t : Nat × String × String) => t.2.1) (g' := fun (t : Nat × String × String × FieldType × Int32) => t.2.1) h5, apart_of (L := cd.2.2.1) (L' := cd.2.2.2) (g := fun (t : Nat × String) => t.2) (g' := fun (t : Nat × String × String × FieldType × Int32) => t.2.1) h6, fun t m => ?_, fun t m => ?_⟩
  · have q := List.all_eq_true.mp h7 t m
    simpa using q
  · have q := List.all_eq_true.mp h8 t m
    simp only [Bool.and_eq_true, Bool.or_eq_true, decide_eq_true_eq, Bool.not_eq_true', decide_eq_false_iff_not] at q
    exact ⟨q.1.1.1, q.1.1.2, by rcases q.1.2 with (a | a) | a <;> simp [a], q.2⟩
theorem nar1 : nar .boolean 1 = 1 := by decide
theorem nar0 : nar .boolean 0 = 0 := by decide
theorem nar_nar (x : Int32) : nar .boolean (nar .boolean x) = nar .boolean x := by
  show (x &&& 1) &&& 1 = x &&& 1
  rw [Int32.and_assoc]; rfl
theorem ne_toInt {x n : Int32} (q : ¬ x = n) : x.toInt ≠ n.toInt := fun h => q (Int32.toInt_inj.mp h)
/-! ## 6. The same calls where the callee's answer is known as a term -/
section FunC
variable {l : Launch} {Z : State} {a0 : Array Value} {cd : CD} {md md' : MD} {pc pc' wt idx : Nat} {L L' : List Slot} {S stk as : List Value} {w w1 : WO} {cu su cu' su' : Nat} {Q : Option Value → WO → Prop} {x : Value}
theorem Wk.callF (as : List Value) (S : List Value) (wl : (Cond.methodLink cd.1 idx (nmOf md')).before a0 Z = true) (cv : CalV Z a0 md' as.length) (hd : InsA md pc (.invokevirtual idx) 3 pc') (hcal : Wk l Z (MoC Z cd) md' 0 L' [] w 0 0 (fun v w' => v = some x ∧ w' = w1)) (ft : Fits md md' wt cu su cu' su') (hs : stk = as.reverse ++ .ref 0 :: S) (hc : (nmOf md').cls = cd.1) (nr : noRef as = true) (hL' : (argsToLocals (.ref 0 :: as).toArray (mxOf md')).toList = L') (hw : wfL L' = true) (hl : L.length = mxOf md)
    (hwt : (S.map fun v => v.category).sum = wt) (h : Wk l Z (MoC Z cd) md pc' L (x :: S) w1 cu' su' Q) : Wk l Z (MoC Z cd) md pc L stk w cu su Q :=
  Wk.callC as S hs wl cv hc nr hcal hL' hw hl hwt ft hd fun v w' q => by obtain ⟨rfl, rfl⟩ := q; exact h
theorem Wk.callU (as : List Value) (S : List Value) (wl : (Cond.methodLink cd.1 idx (nmOf md')).before a0 Z = true) (cv : CalV Z a0 md' as.length) (hd : InsA md pc (.invokevirtual idx) 3 pc') (hcal : Wk l Z (MoC Z cd) md' 0 L' [] w 0 0 (fun v w' => v = none ∧ w' = w1)) (ft : Fits md md' wt cu su cu' su') (hs : stk = as.reverse ++ .ref 0 :: S) (hc : (nmOf md').cls = cd.1) (nr : noRef as = true) (hL' : (argsToLocals (.ref 0 :: as).toArray (mxOf md')).toList = L') (hw : wfL L' = true) (hl : L.length = mxOf md)
    (hwt : (S.map fun v => v.category).sum = wt) (h : Wk l Z (MoC Z cd) md pc' L S w1 cu' su' Q) : Wk l Z (MoC Z cd) md pc L stk w cu su Q :=
  Wk.callC as S hs wl cv hc nr hcal hL' hw hl hwt ft hd fun v w' q => by obtain ⟨rfl, rfl⟩ := q; exact h
end FunC
section FunS
variable {μ E : Type} {l : Launch} {Z : State} {a0 : Array Value} {M : Mode μ E} {md md' : MD} {pc pc' wt idx : Nat} {L L' : List Slot} {S stk as : List Value} {w w1 : μ} {cu su cu' su' : Nat} {Q : Option Value → μ → Prop} {x : Value}
theorem Wk.callSF (hM : ∀ en h1 h2 h3, M.frm en h1 h2 → M.frm en h2 h3 → M.frm en h1 h3) (as : List Value) (S : List Value) (wl : (Cond.methodLink M.own idx (nmOf md')).before a0 Z = true) (cv : CalS Z a0 md' as.length) (hd : InsA md pc (.invokestatic idx) 3 pc') (hcal : Wk l Z M md' 0 L' [] w 0 0 (fun v w' => v = some x ∧ w' = w1)) (ft : Fits md md' wt cu su cu' su') (hs : stk = as.reverse ++ S) (hc : (nmOf md').cls = M.own) (hL' : (argsToLocals as.toArray (mxOf md')).toList = L') (hw : wfL L' = true) (hl : L.length = mxOf md)
    (hwt : (S.map fun v => v.category).sum = wt) (h : Wk l Z M md pc' L (x :: S) w1 cu' su' Q) : Wk l Z M md pc L stk w cu su Q :=
  Wk.callS hM as S hs wl cv hc hcal hL' hw hl hwt ft hd fun v w' q => by obtain ⟨rfl, rfl⟩ := q; exact h
theorem Wk.callSU (hM : ∀ en h1 h2 h3, M.frm en h1 h2 → M.frm en h2 h3 → M.frm en h1 h3) (as : List Value) (S : List Value) (wl : (Cond.methodLink M.own idx (nmOf md')).before a0 Z = true) (cv : CalS Z a0 md' as.length) (hd : InsA md pc (.invokestatic idx) 3 pc') (hcal : Wk l Z M md' 0 L' [] w 0 0 (fun v w' => v = none ∧ w' = w1)) (ft : Fits md md' wt cu su cu' su') (hs : stk = as.reverse ++ S) (hc : (nmOf md').cls = M.own) (hL' : (argsToLocals as.toArray (mxOf md')).toList = L') (hw : wfL L' = true) (hl : L.length = mxOf md)
    (hwt : (S.map fun v => v.category).sum = wt) (h : Wk l Z M md pc' L S w1 cu' su' Q) : Wk l Z M md pc L stk w cu su Q :=
  Wk.callS hM as S hs wl cv hc hcal hL' hw hl hwt ft hd fun v w' q => by obtain ⟨rfl, rfl⟩ := q; exact h
end FunS
section FunL
variable {l : Launch} {Z : State} {a0 : Array Value} {cd : CD} {own : String} {sc : Bool} {md md' : MD} {pc pc' wt idx : Nat} {L L' : List Slot} {S stk as : List Value} {sl : Int32} {sv : Int32 → Int32} {ws ws' : List WO} {cu su cu' su' : Nat} {Q : Option Value → WL → Prop} {v : Value} {y : WO}
theorem Wk.callLF (ok : CO Z a0 cd) (as : List Value) (i : Nat) (S : List Value) {i' : Nat} {x : WO} (wl : (Cond.methodLink own idx (nmOf md')).before a0 Z = true) (cv : CalV Z a0 md' as.length) (hd : InsA md pc (.invokevirtual idx) 3 pc') (hcal : Wk l Z (MoC Z cd) md' 0 L' [] x 0 0 (fun v' w' => v' = some v ∧ w' = y)) (ft : Fits md md' wt cu su cu' su') (hoth : allK cd.2.2.2.length (ws.eraseIdx i)) (hi' : i + 1 = i') (hs : stk = as.reverse ++ .ref i' :: S) (hx : ws[i]? = some x) (hc : (nmOf md').cls = cd.1) (nr : noRef as = true) (hL' : (argsToLocals (.ref 0 :: as).toArray (mxOf md')).toList = L') (hw : wfL L' = true) (hl : L.length = mxOf md)
    (hwt : (S.map fun v => v.category).sum = wt) (hk : y.1 = x.1 + exOf md') (hws : ws.set i y = ws') (h : Wk l Z (MoL Z cd own sc) md pc' L (v :: S) (sl, sv, ws') cu' su' Q) : Wk l Z (MoL Z cd own sc) md pc L stk (sl, sv, ws) cu su Q :=
  Wk.callLC ok as i S hi' hs hx hoth wl cv hc nr hcal hL' hw hl hwt ft hd (fun v' y' q => by obtain ⟨rfl, rfl⟩ := q; exact hk) fun v' y' q => by obtain ⟨rfl, rfl⟩ := q; subst hws; exact h
theorem Wk.callLU (ok : CO Z a0 cd) (as : List Value) (i : Nat) (S : List Value) {i' : Nat} {x : WO} (wl : (Cond.methodLink own idx (nmOf md')).before a0 Z = true) (cv : CalV Z a0 md' as.length) (hd : InsA md pc (.invokevirtual idx) 3 pc') (hcal : Wk l Z (MoC Z cd) md' 0 L' [] x 0 0 (fun v' w' => v' = none ∧ w' = y)) (ft : Fits md md' wt cu su cu' su') (hoth : allK cd.2.2.2.length (ws.eraseIdx i)) (hi' : i + 1 = i') (hs : stk = as.reverse ++ .ref i' :: S) (hx : ws[i]? = some x) (hc : (nmOf md').cls = cd.1) (nr : noRef as = true) (hL' : (argsToLocals (.ref 0 :: as).toArray (mxOf md')).toList = L') (hw : wfL L' = true) (hl : L.length = mxOf md)
    (hwt : (S.map fun v => v.category).sum = wt) (hk : y.1 = x.1 + exOf md') (hws : ws.set i y = ws') (h : Wk l Z (MoL Z cd own sc) md pc' L S (sl, sv, ws') cu' su' Q) : Wk l Z (MoL Z cd own sc) md pc L stk (sl, sv, ws) cu su Q :=
  Wk.callLC ok as i S hi' hs hx hoth wl cv hc nr hcal hL' hw hl hwt ft hd (fun v' y' q => by obtain ⟨rfl, rfl⟩ := q; exact hk) fun v' y' q => by obtain ⟨rfl, rfl⟩ := q; subst hws; exact h
theorem Wk.ctorLU (ok : CO Z a0 cd) (as : List Value) (i : Nat) (S : List Value) {i' : Nat} {x : WO} (wl : (Cond.methodLink own idx (nmOf md')).before a0 Z = true) (cv : CalI Z a0 md' as.length) (hd : InsA md pc (.invokespecial idx) 3 pc') (hcal : Wk l Z (MoC Z cd) md' 0 L' [] x 0 0 (fun v' w' => v' = none ∧ w' = y)) (ft : Fits md md' wt cu su cu' su') (hoth : allK cd.2.2.2.length (ws.eraseIdx i)) (hi' : i + 1 = i') (hs : stk = as.reverse ++ .ref i' :: S) (hx : ws[i]? = some x) (hc : (nmOf md').cls = cd.1) (nr : noRef as = true) (hL' : (argsToLocals (.ref 0 :: as).toArray (mxOf md')).toList = L') (hw : wfL L' = true) (hl : L.length = mxOf md)
    (hwt : (S.map fun v => v.category).sum = wt) (hk : y.1 = x.1 + exOf md') (hws : ws.set i y = ws') (h : Wk l Z (MoL Z cd own sc) md pc' L S (sl, sv, ws') cu' su' Q) : Wk l Z (MoL Z cd own sc) md pc L stk (sl, sv, ws) cu su Q :=
  Wk.ctorL ok as i S hi' hs hx hoth wl cv hc nr hcal hL' hw hl hwt ft hd (fun v' y' q => by obtain ⟨rfl, rfl⟩ := q; exact hk) fun v' y' q => by obtain ⟨rfl, rfl⟩ := q; subst hws; exact h
end FunL
end Jvm.Own

namespace Jvm.Own
open Jvm
/-! ## 7. Plain helpers -/
theorem lt_i {x y : Int32} : x < y ↔ x.toInt < y.toInt := Int32.lt_iff_toInt_lt
theorem add_toInt {x y : Int32} (h1 : -2147483648 ≤ x.toInt + y.toInt) (h2 : x.toInt + y.toInt < 2147483648) : (x + y).toInt = x.toInt + y.toInt := by
  rw [Int32.toInt_add]
  exact Int.bmod_eq_of_le (by omega) (by omega)
theorem sub_toInt {x y : Int32} (h1 : -2147483648 ≤ x.toInt - y.toInt) (h2 : x.toInt - y.toInt < 2147483648) : (x - y).toInt = x.toInt - y.toInt := by
  rw [Int32.toInt_sub]
  exact Int.bmod_eq_of_le (by omega) (by omega)
theorem succ_toInt {i n : Int32} (h : i < n) : (i + 1).toInt = i.toInt + 1 := by
  have h1 := lt_i.mp h
  have h2 := Int32.toInt_lt n
  have h3 := Int32.le_toInt i
  exact add_toInt (x := i) (y := 1) (by show -2147483648 ≤ i.toInt + 1; omega) (by show i.toInt + 1 < 2147483648; omega)
/-- a loop that counts up to n: backwards from its end -/
theorem loopUp {n : Int32} {P : Int32 → Prop} (hend : P n) (hstep : ∀ i, ¬ i < 0 → i < n → P (i + 1) → P i) : ∀ i, ¬ i < 0 → ¬ n < i → P i := by
  have key : ∀ (k : Nat) (i : Int32), ¬ i < 0 → ¬ n < i → (n.toInt - i.toInt).toNat = k → P i := by
    intro k
    induction k with
    | zero =>
      intro i h0 h1 hk
      have e : i = n := by
        rw [lt_i] at h1
        exact Int32.toInt_inj.mp (by omega)
      subst e; exact hend
    | succ k ih =>
      intro i h0 h1 hk
      rw [lt_i] at h1
      have hlt : i < n := lt_i.mpr (by omega)
      have hs := succ_toInt hlt
      have h0' : ¬ i.toInt < 0 := fun q => h0 (lt_i.mpr q)
      refine hstep i h0 hlt (ih (i + 1) ?_ ?_ ?_)
      · rw [lt_i, hs]; show ¬ i.toInt + 1 < 0; omega
      · rw [lt_i, hs]; omega
      · rw [hs]; omega
  exact fun i h0 h1 => key _ i h0 h1 rfl
/-- the first n places hold c -/
def fill {α : Type} (f : Int32 → α) (n : Int32) (c : α) : Int32 → α := fun x => if ¬ x < 0 ∧ x < n then c else f x
theorem fill_zero {α : Type} (f : Int32 → α) (c : α) : fill f 0 c = f := by
  funext x; exact if_neg fun q => q.1 q.2
theorem fill_succ {α : Type} (f : Int32 → α) (c : α) {i n : Int32} (h0 : ¬ i < 0) (h : i < n) : ups (fill f i c) i c = fill f (i + 1) c := by
  funext x
  have hs := succ_toInt h
  have h0' : ¬ i.toInt < 0 := fun q => h0 (lt_i.mpr q)
  unfold ups fill
  by_cases e : x = i
  · rw [if_pos e, if_pos]
    subst e
    exact ⟨h0, lt_i.mpr (by omega)⟩
  · rw [if_neg e]
    have e' : x.toInt ≠ i.toInt := fun q => e (Int32.toInt_inj.mp q)
    by_cases q : ¬ x < 0 ∧ x < i
    · rw [if_pos q, if_pos ⟨q.1, lt_i.mpr (by have := lt_i.mp q.2; omega)⟩]
    · rw [if_neg q, if_neg]
      rintro ⟨a, b⟩
      exact q ⟨a, lt_i.mpr (by have := lt_i.mp b; omega)⟩
theorem fill_in {α : Type} (f : Int32 → α) (c : α) {x n : Int32} (h0 : ¬ x < 0) (h : x < n) : fill f n c x = c := if_pos ⟨h0, h⟩
theorem ups_self {κ α : Type} [DecidableEq κ] (f : κ → α) (i : κ) : ups f i (f i) = f := by
  funext k; unfold ups; by_cases e : k = i
  · rw [if_pos e, e]
  · rw [if_neg e]
theorem ups_upd {κ α : Type} [DecidableEq κ] (f : κ → α) (i : κ) (x y : α) : ups (ups f i x) i y = ups f i y := by
  funext k; unfold ups; by_cases e : k = i
  · rw [if_pos e, if_pos e]
  · rw [if_neg e, if_neg e, if_neg e]
theorem ups_comm {κ α : Type} [DecidableEq κ] (f : κ → α) {i j : κ} (x y : α) (h : i ≠ j) : ups (ups f i x) j y = ups (ups f j y) i x := by
  funext k; unfold ups; by_cases e : k = i
  · have : k ≠ j := fun q => h (e.symm.trans q)
    rw [if_neg this, if_pos e, if_pos e]
  · by_cases e2 : k = j
    · rw [if_pos e2, if_neg e, if_pos e2]
    · rw [if_neg e2, if_neg e, if_neg e, if_neg e2]
end Jvm.Own

namespace Jvm.Own
open Jvm Jvm.Free
/-! ## 8. Bits -/
theorem toNat_toInt (x : Int32) : (x.toBitVec.toNat : Int) = x.toInt % 4294967296 := by
  have h1 : x.toInt = x.toBitVec.toInt := rfl
  rw [h1, BitVec.toInt_eq_toNat_bmod]
  have h2 := x.toBitVec.isLt
  have h3 := Int.bmod_emod (x := (x.toBitVec.toNat : Int)) (m := 2 ^ 32)
  have h4 : ((2 ^ 32 : Nat) : Int) = 4294967296 := rfl
  rw [h4] at h3
  rw [h3]; omega
theorem and_mask (x m : Int32) (k : Nat) (hk : k < 31) (hm : m.toBitVec.toNat = 2 ^ k - 1) : (x &&& m).toInt = x.toInt % ((2 ^ k : Nat) : Int) := by
  have h1 : (x &&& m).toInt = (x.toBitVec &&& m.toBitVec).toInt := rfl
  have h2 : (x.toBitVec &&& m.toBitVec).toNat = x.toBitVec.toNat % 2 ^ k := by rw [BitVec.toNat_and, hm, Nat.and_two_pow_sub_one_eq_mod]
  have h3 : (2 ^ k : Nat) ≤ 2 ^ 30 := Nat.pow_le_pow_right (by decide) (by omega)
  have h4 : x.toBitVec.toNat % 2 ^ k < 2 ^ k := Nat.mod_lt _ (Nat.two_pow_pos k)
  have h5 : (2 ^ k : Nat) ∣ 4294967296 := ⟨2 ^ (32 - k), by rw [← Nat.pow_add]; have : k + (32 - k) = 32 := by omega
                                                            rw [this]⟩
  rw [h1, BitVec.toInt_eq_toNat_of_lt (by rw [h2]; omega), h2, Int.natCast_emod, toNat_toInt]
  exact Int.emod_emod_of_dvd _ (Int.natCast_dvd_natCast.mpr h5)
theorem sar_toInt (x y : Int32) (k : Nat) (hy : y.toBitVec.smod 32#32 = BitVec.ofNat 32 k) (hk : k < 32) : (x >>> y).toInt = x.toInt / ((2 ^ k : Nat) : Int) := by
  have h1 : (x >>> y).toInt = (x.toBitVec.sshiftRight' (y.toBitVec.smod 32#32)).toInt := rfl
  rw [h1, hy, BitVec.sshiftRight_eq', BitVec.toInt_sshiftRight, BitVec.toNat_ofNat, Nat.mod_eq_of_lt (by omega), Int.shiftRight_eq_div_pow]
  rfl
theorem ushr_pos (x y : Int32) (k : Nat) (hy : (y &&& 31).toBitVec.toNat = k) (hx : ¬ x < 0) : (XT.ushr x y).toInt = x.toInt / ((2 ^ k : Nat) : Int) := by
  have hx' : 0 ≤ x.toInt := by rw [lt_i] at hx; have z : (0 : Int32).toInt = 0 := rfl; omega
  have h0 : (x.toBitVec.toNat : Int) = x.toInt := by rw [toNat_toInt]; have := Int32.toInt_lt x; omega
  have hy' : k < 32 := by
    rw [← hy]
    have : (y &&& 31).toBitVec.toNat = y.toBitVec.toNat % 2 ^ 5 := by
      show (y.toBitVec &&& 31#32).toNat = _
      rw [BitVec.toNat_and]; exact Nat.and_two_pow_sub_one_eq_mod _ 5
    omega
  have h1 : (XT.ushr x y).toBitVec = x.toBitVec >>> k := by
    show x.toBitVec >>> ((y &&& 31).toBitVec % 32#32) = _
    rw [BitVec.ushiftRight_eq', BitVec.toNat_umod, hy]
    show x.toBitVec >>> (k % 32) = _
    rw [Nat.mod_eq_of_lt hy']
  have h2 : (x.toBitVec >>> k).toNat = x.toBitVec.toNat / 2 ^ k := by rw [BitVec.toNat_ushiftRight, Nat.shiftRight_eq_div_pow]
  have h3 : (XT.ushr x y).toInt = (x.toBitVec >>> k).toInt := by rw [← h1]; rfl
  have h4 : x.toBitVec.toNat / 2 ^ k ≤ x.toBitVec.toNat := Nat.div_le_self _ _
  rw [h3, BitVec.toInt_eq_toNat_of_lt (by rw [h2]; have := Int32.toInt_lt x; omega), h2, Int.natCast_ediv, h0]
end Jvm.Own
namespace Jvm.Own
open Jvm Jvm.ClassFile Sem Op Lib Jvm.Free Jvm.Stand Jvm.LawKit Jvm.RoadKit
/-! ## 9. An array of ints that the law is given -/
theorem script_at {s : State} {sa : Addr} {N : Int32} (na : (Cond.arrayOf (.arg 0) .int).value #[.ref sa] s none s [] = some true)
    (hr : (Cond.all (.arg 0) (.isInt (.elem (.arg 0) (.index 0)))).value #[.ref sa] s none s [] = some true)
    (nl : (Cond.le (.length (.arg 0)) (.int N)).value #[.ref sa] s none s [] = some true) :
    ∃ (sl : Int32) (sv : Int32 → Int32), sa < s.heap.size ∧ ¬ sl < 0 ∧ ¬ N < sl ∧ AtA s s.heap sa .int sl sv (fun _ => 0) := by
  have ea : ∀ idx, (Term.arg 0).eval #[Value.ref sa] s none idx s = some (.ref sa) := fun _ => rfl
  obtain ⟨cl, hcl⟩ := Arr.start (ea []) na
  have h1 : sa < s.heap.size := (Array.getElem?_eq_some_iff.mp hcl.1).1
  have hat : s.arrayAt? sa = some cl := hcl.fin (Vm.Alike.refl _)
  obtain ⟨x, y, ex, ey, -, -⟩ := cmp_v (.inr (.inr nl))
  have hsz : cl.slots.size < 2 ^ 31 := by
    apply Classical.byContradiction; intro hn
    have hn' : ¬ cl.slots.size < 2147483648 := hn
    simp [Term.eval, hat, hn', ea] at ex
  have e1 : (Term.length (.arg 0)).eval #[Value.ref sa] s none [] s = some (.int cl.slots.size.toInt32) := len_f (ea []) hat hsz
  have e2 : (Term.int N).eval #[Value.ref sa] s none [] s = some (.int N) := Term.int_eval N
  have hle : cl.slots.size.toInt32 ≤ N := by
    have := nl
    simp [Cond.value, e1, e2] at this
    exact this
  have hnn : ¬ cl.slots.size.toInt32 < 0 := Int32.ofNat_not_neg hsz
  have hbk : cl.slots.size.toInt32.toNatClampNeg = cl.slots.size := Example.SumArray.toNatClampNeg_ofNat hsz
  refine ⟨cl.slots.size.toInt32, fun x => match cl.slots[x.toNatClampNeg]? with | some (.int y) => y | _ => 0, h1, hnn, Int32.not_lt.mpr hle, cl, hcl, hbk.symm, fun x h0 hx => ?_⟩
  have hlt : x.toNatClampNeg < cl.slots.size := by have := clamp_lt h0 hx; rw [hbk] at this; exact this
  obtain ⟨v, hv⟩ := is_v (Cond.all_elim (ea []) hat hr _ hlt)
  rw [elem_f (ea _) (idx_at h0) hat h0] at hv
  show cl.slots[x.toNatClampNeg]? = some (Value.int (match cl.slots[x.toNatClampNeg]? with | some (.int y) => y | _ => 0))
  simp only [hv]
end Jvm.Own
namespace Jvm.Pilot.@@N@@
open Jvm Jvm.ClassFile Sem Op Lib Jvm.Free Jvm.Stand Jvm.LawKit Jvm.RoadKit Bundle Jvm.Own Jvm.Pilot.@@N@@.Jvm.D
def OK (Z : State) (a0 : Array Value) : Prop := ∀ d ∈ tables_1, d.before a0 Z = true
theorem OK.w {Z : State} {a0 : Array Value} (H : OK Z a0) (i : Nat) {d : Jvm.Cond} (h : tables_1[i]? = some d) : d.before a0 Z = true := H _ (List.mem_of_getElem? h)
abbrev cdC : CD := ("CdcFifo", [(0, "depth", "I"), (1, "almost", "I"), (2, "width", "I"), (3, "modulus", "I"), (4, "wbin", "I"), (5, "wgray", "I"), (6, "wprev", "I"), (7, "wChanging", "Z"), (8, "rbin", "I"), (9, "rgray", "I"), (10, "rprev", "I"), (11, "rChanging", "Z"), (12, "wq1", "I"), (13, "wq2", "I"), (14, "rq1", "I"), (15, "rq2", "I"), (16, "lastRead", "I"), (17, "totalW", "I"), (18, "totalR", "I")], [], [(0, "cell", "[I", .int, 16)])
theorem okcC : okC cdC := okC.of (by decide +kernel)
theorem mI_depth : (0, "depth", "I") ∈ cdC.2.1 := List.mem_of_getElem? (i := 0) rfl
theorem mI_almost : (1, "almost", "I") ∈ cdC.2.1 := List.mem_of_getElem? (i := 1) rfl
theorem mI_width : (2, "width", "I") ∈ cdC.2.1 := List.mem_of_getElem? (i := 2) rfl
theorem mI_modulus : (3, "modulus", "I") ∈ cdC.2.1 := List.mem_of_getElem? (i := 3) rfl
theorem mI_wbin : (4, "wbin", "I") ∈ cdC.2.1 := List.mem_of_getElem? (i := 4) rfl
theorem mI_wgray : (5, "wgray", "I") ∈ cdC.2.1 := List.mem_of_getElem? (i := 5) rfl
theorem mI_wprev : (6, "wprev", "I") ∈ cdC.2.1 := List.mem_of_getElem? (i := 6) rfl
theorem mI_wChanging : (7, "wChanging", "Z") ∈ cdC.2.1 := List.mem_of_getElem? (i := 7) rfl
theorem mI_rbin : (8, "rbin", "I") ∈ cdC.2.1 := List.mem_of_getElem? (i := 8) rfl
theorem mI_rgray : (9, "rgray", "I") ∈ cdC.2.1 := List.mem_of_getElem? (i := 9) rfl
theorem mI_rprev : (10, "rprev", "I") ∈ cdC.2.1 := List.mem_of_getElem? (i := 10) rfl
theorem mI_rChanging : (11, "rChanging", "Z") ∈ cdC.2.1 := List.mem_of_getElem? (i := 11) rfl
theorem mI_wq1 : (12, "wq1", "I") ∈ cdC.2.1 := List.mem_of_getElem? (i := 12) rfl
theorem mI_wq2 : (13, "wq2", "I") ∈ cdC.2.1 := List.mem_of_getElem? (i := 13) rfl
theorem mI_rq1 : (14, "rq1", "I") ∈ cdC.2.1 := List.mem_of_getElem? (i := 14) rfl
theorem mI_rq2 : (15, "rq2", "I") ∈ cdC.2.1 := List.mem_of_getElem? (i := 15) rfl
theorem mI_lastRead : (16, "lastRead", "I") ∈ cdC.2.1 := List.mem_of_getElem? (i := 16) rfl
theorem mI_totalW : (17, "totalW", "I") ∈ cdC.2.1 := List.mem_of_getElem? (i := 17) rfl
theorem mI_totalR : (18, "totalR", "I") ∈ cdC.2.1 := List.mem_of_getElem? (i := 18) rfl
theorem mA_cell : (0, "cell", "[I", FieldType.int, (16 : Int32)) ∈ cdC.2.2.2 := List.mem_of_getElem? (i := 0) rfl
theorem wf_cell {Z : State} {a0 : Array Value} (H : OK Z a0) : (Cond.fieldLink "CdcFifo" 7 "CdcFifo" "cell" "[I").before a0 Z = true := H.w 10 rfl
theorem wf_depth {Z : State} {a0 : Array Value} (H : OK Z a0) : (Cond.fieldLink "CdcFifo" 17 "CdcFifo" "depth" "I").before a0 Z = true := H.w 16 rfl
theorem wf_width {Z : State} {a0 : Array Value} (H : OK Z a0) : (Cond.fieldLink "CdcFifo" 21 "CdcFifo" "width" "I").before a0 Z = true := H.w 18 rfl
theorem wf_modulus {Z : State} {a0 : Array Value} (H : OK Z a0) : (Cond.fieldLink "CdcFifo" 24 "CdcFifo" "modulus" "I").before a0 Z = true := H.w 20 rfl
theorem wf_almost {Z : State} {a0 : Array Value} (H : OK Z a0) : (Cond.fieldLink "CdcFifo" 27 "CdcFifo" "almost" "I").before a0 Z = true := H.w 22 rfl
theorem wf_wbin {Z : State} {a0 : Array Value} (H : OK Z a0) : (Cond.fieldLink "CdcFifo" 113 "CdcFifo" "wbin" "I").before a0 Z = true := H.w 32 rfl
theorem wf_wgray {Z : State} {a0 : Array Value} (H : OK Z a0) : (Cond.fieldLink "CdcFifo" 60 "CdcFifo" "wgray" "I").before a0 Z = true := H.w 34 rfl
theorem wf_wprev {Z : State} {a0 : Array Value} (H : OK Z a0) : (Cond.fieldLink "CdcFifo" 123 "CdcFifo" "wprev" "I").before a0 Z = true := H.w 36 rfl
theorem wf_wChanging {Z : State} {a0 : Array Value} (H : OK Z a0) : (Cond.fieldLink "CdcFifo" 78 "CdcFifo" "wChanging" "Z").before a0 Z = true := H.w 38 rfl
theorem wf_rbin {Z : State} {a0 : Array Value} (H : OK Z a0) : (Cond.fieldLink "CdcFifo" 91 "CdcFifo" "rbin" "I").before a0 Z = true := H.w 44 rfl
theorem wf_rgray {Z : State} {a0 : Array Value} (H : OK Z a0) : (Cond.fieldLink "CdcFifo" 63 "CdcFifo" "rgray" "I").before a0 Z = true := H.w 46 rfl
theorem wf_rprev {Z : State} {a0 : Array Value} (H : OK Z a0) : (Cond.fieldLink "CdcFifo" 116 "CdcFifo" "rprev" "I").before a0 Z = true := H.w 48 rfl
theorem wf_rChanging {Z : State} {a0 : Array Value} (H : OK Z a0) : (Cond.fieldLink "CdcFifo" 82 "CdcFifo" "rChanging" "Z").before a0 Z = true := H.w 50 rfl
theorem wf_wq1 {Z : State} {a0 : Array Value} (H : OK Z a0) : (Cond.fieldLink "CdcFifo" 66 "CdcFifo" "wq1" "I").before a0 Z = true := H.w 56 rfl
theorem wf_wq2 {Z : State} {a0 : Array Value} (H : OK Z a0) : (Cond.fieldLink "CdcFifo" 69 "CdcFifo" "wq2" "I").before a0 Z = true := H.w 58 rfl
theorem wf_rq1 {Z : State} {a0 : Array Value} (H : OK Z a0) : (Cond.fieldLink "CdcFifo" 72 "CdcFifo" "rq1" "I").before a0 Z = true := H.w 60 rfl
theorem wf_rq2 {Z : State} {a0 : Array Value} (H : OK Z a0) : (Cond.fieldLink "CdcFifo" 75 "CdcFifo" "rq2" "I").before a0 Z = true := H.w 62 rfl
theorem wf_lastRead {Z : State} {a0 : Array Value} (H : OK Z a0) : (Cond.fieldLink "CdcFifo" 85 "CdcFifo" "lastRead" "I").before a0 Z = true := H.w 68 rfl
theorem wf_totalW {Z : State} {a0 : Array Value} (H : OK Z a0) : (Cond.fieldLink "CdcFifo" 98 "CdcFifo" "totalW" "I").before a0 Z = true := H.w 70 rfl
theorem wf_totalR {Z : State} {a0 : Array Value} (H : OK Z a0) : (Cond.fieldLink "CdcFifo" 101 "CdcFifo" "totalR" "I").before a0 Z = true := H.w 72 rfl
theorem wy_cell {Z : State} {a0 : Array Value} (H : OK Z a0) : (Cond.lays "CdcFifo" "CdcFifo" "cell" "[I").before a0 Z = true := H.w 11 rfl
theorem wy_depth {Z : State} {a0 : Array Value} (H : OK Z a0) : (Cond.lays "CdcFifo" "CdcFifo" "depth" "I").before a0 Z = true := H.w 17 rfl
theorem wy_width {Z : State} {a0 : Array Value} (H : OK Z a0) : (Cond.lays "CdcFifo" "CdcFifo" "width" "I").before a0 Z = true := H.w 19 rfl
theorem wy_modulus {Z : State} {a0 : Array Value} (H : OK Z a0) : (Cond.lays "CdcFifo" "CdcFifo" "modulus" "I").before a0 Z = true := H.w 21 rfl
theorem wy_almost {Z : State} {a0 : Array Value} (H : OK Z a0) : (Cond.lays "CdcFifo" "CdcFifo" "almost" "I").before a0 Z = true := H.w 23 rfl
theorem wy_wbin {Z : State} {a0 : Array Value} (H : OK Z a0) : (Cond.lays "CdcFifo" "CdcFifo" "wbin" "I").before a0 Z = true := H.w 33 rfl
theorem wy_wgray {Z : State} {a0 : Array Value} (H : OK Z a0) : (Cond.lays "CdcFifo" "CdcFifo" "wgray" "I").before a0 Z = true := H.w 35 rfl
theorem wy_wprev {Z : State} {a0 : Array Value} (H : OK Z a0) : (Cond.lays "CdcFifo" "CdcFifo" "wprev" "I").before a0 Z = true := H.w 37 rfl
theorem wy_wChanging {Z : State} {a0 : Array Value} (H : OK Z a0) : (Cond.lays "CdcFifo" "CdcFifo" "wChanging" "Z").before a0 Z = true := H.w 39 rfl
theorem wy_rbin {Z : State} {a0 : Array Value} (H : OK Z a0) : (Cond.lays "CdcFifo" "CdcFifo" "rbin" "I").before a0 Z = true := H.w 45 rfl
theorem wy_rgray {Z : State} {a0 : Array Value} (H : OK Z a0) : (Cond.lays "CdcFifo" "CdcFifo" "rgray" "I").before a0 Z = true := H.w 47 rfl
theorem wy_rprev {Z : State} {a0 : Array Value} (H : OK Z a0) : (Cond.lays "CdcFifo" "CdcFifo" "rprev" "I").before a0 Z = true := H.w 49 rfl
theorem wy_rChanging {Z : State} {a0 : Array Value} (H : OK Z a0) : (Cond.lays "CdcFifo" "CdcFifo" "rChanging" "Z").before a0 Z = true := H.w 51 rfl
theorem wy_wq1 {Z : State} {a0 : Array Value} (H : OK Z a0) : (Cond.lays "CdcFifo" "CdcFifo" "wq1" "I").before a0 Z = true := H.w 57 rfl
theorem wy_wq2 {Z : State} {a0 : Array Value} (H : OK Z a0) : (Cond.lays "CdcFifo" "CdcFifo" "wq2" "I").before a0 Z = true := H.w 59 rfl
theorem wy_rq1 {Z : State} {a0 : Array Value} (H : OK Z a0) : (Cond.lays "CdcFifo" "CdcFifo" "rq1" "I").before a0 Z = true := H.w 61 rfl
theorem wy_rq2 {Z : State} {a0 : Array Value} (H : OK Z a0) : (Cond.lays "CdcFifo" "CdcFifo" "rq2" "I").before a0 Z = true := H.w 63 rfl
theorem wy_lastRead {Z : State} {a0 : Array Value} (H : OK Z a0) : (Cond.lays "CdcFifo" "CdcFifo" "lastRead" "I").before a0 Z = true := H.w 69 rfl
theorem wy_totalW {Z : State} {a0 : Array Value} (H : OK Z a0) : (Cond.lays "CdcFifo" "CdcFifo" "totalW" "I").before a0 Z = true := H.w 71 rfl
theorem wy_totalR {Z : State} {a0 : Array Value} (H : OK Z a0) : (Cond.lays "CdcFifo" "CdcFifo" "totalR" "I").before a0 Z = true := H.w 73 rfl
theorem wa_int {Z : State} {a0 : Array Value} (H : OK Z a0) : (Cond.arrayClass (newarray.typeOf .int)).before a0 Z = true := H.w 9 rfl
theorem wz_C {Z : State} {a0 : Array Value} (H : OK Z a0) : (Cond.initialized "CdcFifo").before a0 Z = true := H.w 2 rfl
theorem coC {Z : State} {a0 : Array Value} (H : OK Z a0) : CO Z a0 cdC := by
  refine ⟨⟨20, H.w 1 rfl⟩, ?_, ?_, ?_, okcC⟩
  · intro t m; simp only [cdC, List.mem_cons, List.not_mem_nil, or_false] at m
    rcases m with rfl | rfl | rfl | rfl | rfl | rfl | rfl | rfl | rfl | rfl | rfl | rfl | rfl | rfl | rfl | rfl | rfl | rfl | rfl
    · exact Or.inl (wy_depth H)
    · exact Or.inl (wy_almost H)
    · exact Or.inl (wy_width H)
    · exact Or.inl (wy_modulus H)
    · exact Or.inl (wy_wbin H)
    · exact Or.inl (wy_wgray H)
    · exact Or.inl (wy_wprev H)
    · exact Or.inl (wy_wChanging H)
    · exact Or.inl (wy_rbin H)
    · exact Or.inl (wy_rgray H)
    · exact Or.inl (wy_rprev H)
    · exact Or.inl (wy_rChanging H)
    · exact Or.inl (wy_wq1 H)
    · exact Or.inl (wy_wq2 H)
    · exact Or.inl (wy_rq1 H)
    · exact Or.inl (wy_rq2 H)
    · exact Or.inl (wy_lastRead H)
    · exact Or.inl (wy_totalW H)
    · exact Or.inl (wy_totalR H)
  · intro t m; cases m
  · intro t m; simp only [cdC, List.mem_cons, List.not_mem_nil, or_false] at m
    rcases m with rfl
    · exact Or.inl (wy_cell H)
theorem mrC {Z : State} (en : Nat × Nat) (h : Heap) : (MoC Z cdC).frm en h h := frmC.refl _ _ _
theorem mtC {Z : State} (en : Nat × Nat) (h1 h2 h3 : Heap) (a : (MoC Z cdC).frm en h1 h2) (b : (MoC Z cdC).frm en h2 h3) : (MoC Z cdC).frm en h1 h3 := frmC.trans a b
theorem mrL {Z : State} (en : Nat × Nat) (h : Heap) : (MoL Z cdC "CdcFifoL6" true).frm en h h := trivial
theorem mtL {Z : State} (en : Nat × Nat) (h1 h2 h3 : Heap) (a : (MoL Z cdC "CdcFifoL6" true).frm en h1 h2) (b : (MoL Z cdC "CdcFifoL6" true).frm en h2 h3) : (MoL Z cdC "CdcFifoL6" true).frm en h1 h3 := trivial
theorem pn_CdcFifo : plainName "CdcFifo" = true := by first | (simp [plainName, overriddenIn]; done) | decide +kernel
theorem pn_CdcFifoL6 : plainName "CdcFifoL6" = true := by first | (simp [plainName, overriddenIn]; done) | decide +kernel
theorem pd___I : ∀ sig, parseMethodDescriptor "()I" = some sig → 0 = sig.parameters.length := fun sig h => by
  have q : parseMethodDescriptor "()I" = some ⟨[], some .int⟩ := by decide +kernel
  cases q.symm.trans h; rfl
theorem pd___V : ∀ sig, parseMethodDescriptor "()V" = some sig → 0 = sig.parameters.length := fun sig h => by
  have q : parseMethodDescriptor "()V" = some ⟨[], none⟩ := by decide +kernel
  cases q.symm.trans h; rfl
theorem pd___Z : ∀ sig, parseMethodDescriptor "()Z" = some sig → 0 = sig.parameters.length := fun sig h => by
  have q : parseMethodDescriptor "()Z" = some ⟨[], some .boolean⟩ := by decide +kernel
  cases q.symm.trans h; rfl
theorem pd__I_I : ∀ sig, parseMethodDescriptor "(I)I" = some sig → 1 = sig.parameters.length := fun sig h => by
  have q : parseMethodDescriptor "(I)I" = some ⟨[.int], some .int⟩ := by decide +kernel
  cases q.symm.trans h; rfl
theorem pd__I_V : ∀ sig, parseMethodDescriptor "(I)V" = some sig → 1 = sig.parameters.length := fun sig h => by
  have q : parseMethodDescriptor "(I)V" = some ⟨[.int], none⟩ := by decide +kernel
  cases q.symm.trans h; rfl
theorem pd__II_V : ∀ sig, parseMethodDescriptor "(II)V" = some sig → 2 = sig.parameters.length := fun sig h => by
  have q : parseMethodDescriptor "(II)V" = some ⟨[.int, .int], none⟩ := by decide +kernel
  cases q.symm.trans h; rfl
theorem pd__III_I : ∀ sig, parseMethodDescriptor "(III)I" = some sig → 3 = sig.parameters.length := fun sig h => by
  have q : parseMethodDescriptor "(III)I" = some ⟨[.int, .int, .int], some .int⟩ := by decide +kernel
  cases q.symm.trans h; rfl
theorem pd__IIZI_I : ∀ sig, parseMethodDescriptor "(IIZI)I" = some sig → 4 = sig.parameters.length := fun sig h => by
  have q : parseMethodDescriptor "(IIZI)I" = some ⟨[.int, .int, .boolean, .int], some .int⟩ := by decide +kernel
  cases q.symm.trans h; rfl
theorem pd__LCdcFifo_IIIII_Z : ∀ sig, parseMethodDescriptor "(LCdcFifo;IIIII)Z" = some sig → 6 = sig.parameters.length := fun sig h => by
  have q : parseMethodDescriptor "(LCdcFifo;IIIII)Z" = some ⟨[(.object "CdcFifo"), .int, .int, .int, .int, .int], some .boolean⟩ := by decide +kernel
  cases q.symm.trans h; rfl
theorem pd__ZI_I : ∀ sig, parseMethodDescriptor "(ZI)I" = some sig → 2 = sig.parameters.length := fun sig h => by
  have q : parseMethodDescriptor "(ZI)I" = some ⟨[.boolean, .int], some .int⟩ := by decide +kernel
  cases q.symm.trans h; rfl
theorem pd__ZII_I : ∀ sig, parseMethodDescriptor "(ZII)I" = some sig → 3 = sig.parameters.length := fun sig h => by
  have q : parseMethodDescriptor "(ZII)I" = some ⟨[.boolean, .int, .int], some .int⟩ := by decide +kernel
  cases q.symm.trans h; rfl
theorem pd___I_Z : ∀ sig, parseMethodDescriptor "([I)Z" = some sig → 1 = sig.parameters.length := fun sig h => by
  have q : parseMethodDescriptor "([I)Z" = some ⟨[(.array .int)], some .boolean⟩ := by decide +kernel
  cases q.symm.trans h; rfl
abbrev md_init : MD := (⟨"CdcFifo", "<init>", "(II)V"⟩, prog_1_method_1_code, 4, none, { frames := 2, cells := 1, slots := 16, locals := 25 }, 1)
theorem cv_init {Z : State} {a0 : Array Value} (H : OK Z a0) : CalI Z a0 md_init 2 := ⟨pn_CdcFifo, by decide, pd__II_V, H.w 4 rfl, H.w 5 rfl, H.w 2 rfl, rfl, rfl⟩
theorem o_init_0 : InsA md_init 0 (.aload_n 0) 1 1 := ⟨by decide +kernel, rfl⟩
theorem o_init_1 : InsA md_init 1 (.invokespecial 1) 3 4 := ⟨by decide +kernel, rfl⟩
theorem o_init_4 : InsA md_init 4 (.aload_n 0) 1 5 := ⟨by decide +kernel, rfl⟩
theorem o_init_5 : InsA md_init 5 (.bipush 16) 2 7 := ⟨by decide +kernel, rfl⟩
theorem o_init_7 : InsA md_init 7 (.newarray .int) 2 9 := ⟨by decide +kernel, rfl⟩
theorem o_init_9 : InsA md_init 9 (.putfield 7) 3 12 := ⟨by decide +kernel, rfl⟩
theorem o_init_12 : InsA md_init 12 (.aload_n 0) 1 13 := ⟨by decide +kernel, rfl⟩
theorem o_init_13 : InsA md_init 13 (.iload_n 1) 1 14 := ⟨by decide +kernel, rfl⟩
theorem o_init_14 : InsA md_init 14 (.iconst 2) 1 15 := ⟨by decide +kernel, rfl⟩
theorem o_init_15 : InsA md_init 15 (.iconst 4) 1 16 := ⟨by decide +kernel, rfl⟩
theorem o_init_16 : InsA md_init 16 (.invokevirtual 13) 3 19 := ⟨by decide +kernel, rfl⟩
theorem o_init_19 : InsA md_init 19 (.istore_n 3) 1 20 := ⟨by decide +kernel, rfl⟩
theorem o_init_20 : InsA md_init 20 (.aload_n 0) 1 21 := ⟨by decide +kernel, rfl⟩
theorem o_init_21 : InsA md_init 21 (.iconst 1) 1 22 := ⟨by decide +kernel, rfl⟩
theorem o_init_22 : InsA md_init 22 (.iload_n 3) 1 23 := ⟨by decide +kernel, rfl⟩
theorem o_init_23 : InsA md_init 23 (.ishl) 1 24 := ⟨by decide +kernel, rfl⟩
theorem o_init_24 : InsA md_init 24 (.putfield 17) 3 27 := ⟨by decide +kernel, rfl⟩
theorem o_init_27 : InsA md_init 27 (.aload_n 0) 1 28 := ⟨by decide +kernel, rfl⟩
theorem o_init_28 : InsA md_init 28 (.iload_n 3) 1 29 := ⟨by decide +kernel, rfl⟩
theorem o_init_29 : InsA md_init 29 (.iconst 1) 1 30 := ⟨by decide +kernel, rfl⟩
theorem o_init_30 : InsA md_init 30 (.iadd) 1 31 := ⟨by decide +kernel, rfl⟩
theorem o_init_31 : InsA md_init 31 (.putfield 21) 3 34 := ⟨by decide +kernel, rfl⟩
theorem o_init_34 : InsA md_init 34 (.aload_n 0) 1 35 := ⟨by decide +kernel, rfl⟩
theorem o_init_35 : InsA md_init 35 (.aload_n 0) 1 36 := ⟨by decide +kernel, rfl⟩
theorem o_init_36 : InsA md_init 36 (.getfield 17) 3 39 := ⟨by decide +kernel, rfl⟩
theorem o_init_39 : InsA md_init 39 (.iconst 1) 1 40 := ⟨by decide +kernel, rfl⟩
theorem o_init_40 : InsA md_init 40 (.ishl) 1 41 := ⟨by decide +kernel, rfl⟩
theorem o_init_41 : InsA md_init 41 (.putfield 24) 3 44 := ⟨by decide +kernel, rfl⟩
theorem o_init_44 : InsA md_init 44 (.aload_n 0) 1 45 := ⟨by decide +kernel, rfl⟩
theorem o_init_45 : InsA md_init 45 (.aload_n 0) 1 46 := ⟨by decide +kernel, rfl⟩
theorem o_init_46 : InsA md_init 46 (.iload_n 2) 1 47 := ⟨by decide +kernel, rfl⟩
theorem o_init_47 : InsA md_init 47 (.iconst 1) 1 48 := ⟨by decide +kernel, rfl⟩
theorem o_init_48 : InsA md_init 48 (.aload_n 0) 1 49 := ⟨by decide +kernel, rfl⟩
theorem o_init_49 : InsA md_init 49 (.getfield 17) 3 52 := ⟨by decide +kernel, rfl⟩
theorem o_init_52 : InsA md_init 52 (.invokevirtual 13) 3 55 := ⟨by decide +kernel, rfl⟩
theorem o_init_55 : InsA md_init 55 (.putfield 27) 3 58 := ⟨by decide +kernel, rfl⟩
theorem o_init_58 : InsA md_init 58 (.aload_n 0) 1 59 := ⟨by decide +kernel, rfl⟩
theorem o_init_59 : InsA md_init 59 (.invokevirtual 30) 3 62 := ⟨by decide +kernel, rfl⟩
theorem o_init_62 : InsA md_init 62 (.return_) 1 63 := ⟨by decide +kernel, rfl⟩
abbrev md_clampInt : MD := (⟨"CdcFifo", "clampInt", "(III)I"⟩, prog_1_method_17_code, 4, some .int, { frames := 0, cells := 0, slots := 0, locals := 0 }, 0)
theorem cv_clampInt {Z : State} {a0 : Array Value} (H : OK Z a0) : CalV Z a0 md_clampInt 3 := ⟨pn_CdcFifo, by decide, pd__III_I, H.w 13 rfl, H.w 15 rfl, H.w 2 rfl, Or.inr ⟨H.w 14 rfl, 20, H.w 1 rfl⟩⟩
theorem o_clampInt_0 : InsA md_clampInt 0 (.iload_n 1) 1 1 := ⟨by decide +kernel, rfl⟩
theorem o_clampInt_1 : InsA md_clampInt 1 (.iload_n 2) 1 2 := ⟨by decide +kernel, rfl⟩
theorem o_clampInt_2 : InsB md_clampInt 2 (.if_icmp .ge 5) 3 5 (5) 7 := ⟨by decide +kernel, rfl, by decide, by decide⟩
theorem o_clampInt_5 : InsA md_clampInt 5 (.iload_n 2) 1 6 := ⟨by decide +kernel, rfl⟩
theorem o_clampInt_6 : InsA md_clampInt 6 (.ireturn) 1 7 := ⟨by decide +kernel, rfl⟩
theorem o_clampInt_7 : InsA md_clampInt 7 (.iload_n 1) 1 8 := ⟨by decide +kernel, rfl⟩
theorem o_clampInt_8 : InsA md_clampInt 8 (.iload_n 3) 1 9 := ⟨by decide +kernel, rfl⟩
theorem o_clampInt_9 : InsB md_clampInt 9 (.if_icmp .le 5) 3 12 (5) 14 := ⟨by decide +kernel, rfl, by decide, by decide⟩
theorem o_clampInt_12 : InsA md_clampInt 12 (.iload_n 3) 1 13 := ⟨by decide +kernel, rfl⟩
theorem o_clampInt_13 : InsA md_clampInt 13 (.ireturn) 1 14 := ⟨by decide +kernel, rfl⟩
theorem o_clampInt_14 : InsA md_clampInt 14 (.iload_n 1) 1 15 := ⟨by decide +kernel, rfl⟩
theorem o_clampInt_15 : InsA md_clampInt 15 (.ireturn) 1 16 := ⟨by decide +kernel, rfl⟩
abbrev md_clearAll : MD := (⟨"CdcFifo", "clearAll", "()V"⟩, prog_1_method_35_code, 1, none, { frames := 1, cells := 0, slots := 0, locals := 13 }, 0)
theorem cv_clearAll {Z : State} {a0 : Array Value} (H : OK Z a0) : CalV Z a0 md_clearAll 0 := ⟨pn_CdcFifo, by decide, pd___V, H.w 25 rfl, H.w 27 rfl, H.w 2 rfl, Or.inr ⟨H.w 26 rfl, 20, H.w 1 rfl⟩⟩
theorem o_clearAll_0 : InsA md_clearAll 0 (.aload_n 0) 1 1 := ⟨by decide +kernel, rfl⟩
theorem o_clearAll_1 : InsA md_clearAll 1 (.invokevirtual 136) 3 4 := ⟨by decide +kernel, rfl⟩
theorem o_clearAll_4 : InsA md_clearAll 4 (.aload_n 0) 1 5 := ⟨by decide +kernel, rfl⟩
theorem o_clearAll_5 : InsA md_clearAll 5 (.invokevirtual 139) 3 8 := ⟨by decide +kernel, rfl⟩
theorem o_clearAll_8 : InsA md_clearAll 8 (.aload_n 0) 1 9 := ⟨by decide +kernel, rfl⟩
theorem o_clearAll_9 : InsA md_clearAll 9 (.invokevirtual 142) 3 12 := ⟨by decide +kernel, rfl⟩
theorem o_clearAll_12 : InsA md_clearAll 12 (.aload_n 0) 1 13 := ⟨by decide +kernel, rfl⟩
theorem o_clearAll_13 : InsA md_clearAll 13 (.invokevirtual 145) 3 16 := ⟨by decide +kernel, rfl⟩
theorem o_clearAll_16 : InsA md_clearAll 16 (.aload_n 0) 1 17 := ⟨by decide +kernel, rfl⟩
theorem o_clearAll_17 : InsA md_clearAll 17 (.iconst 0) 1 18 := ⟨by decide +kernel, rfl⟩
theorem o_clearAll_18 : InsA md_clearAll 18 (.putfield 85) 3 21 := ⟨by decide +kernel, rfl⟩
theorem o_clearAll_21 : InsA md_clearAll 21 (.aload_n 0) 1 22 := ⟨by decide +kernel, rfl⟩
theorem o_clearAll_22 : InsA md_clearAll 22 (.iconst 0) 1 23 := ⟨by decide +kernel, rfl⟩
theorem o_clearAll_23 : InsA md_clearAll 23 (.putfield 98) 3 26 := ⟨by decide +kernel, rfl⟩
theorem o_clearAll_26 : InsA md_clearAll 26 (.aload_n 0) 1 27 := ⟨by decide +kernel, rfl⟩
theorem o_clearAll_27 : InsA md_clearAll 27 (.iconst 0) 1 28 := ⟨by decide +kernel, rfl⟩
theorem o_clearAll_28 : InsA md_clearAll 28 (.putfield 101) 3 31 := ⟨by decide +kernel, rfl⟩
theorem o_clearAll_31 : InsA md_clearAll 31 (.return_) 1 32 := ⟨by decide +kernel, rfl⟩
abbrev md_clearWriteSide : MD := (⟨"CdcFifo", "clearWriteSide", "()V"⟩, prog_1_method_36_code, 1, none, { frames := 0, cells := 0, slots := 0, locals := 0 }, 0)
theorem cv_clearWriteSide {Z : State} {a0 : Array Value} (H : OK Z a0) : CalV Z a0 md_clearWriteSide 0 := ⟨pn_CdcFifo, by decide, pd___V, H.w 29 rfl, H.w 31 rfl, H.w 2 rfl, Or.inr ⟨H.w 30 rfl, 20, H.w 1 rfl⟩⟩
theorem o_clearWriteSide_0 : InsA md_clearWriteSide 0 (.aload_n 0) 1 1 := ⟨by decide +kernel, rfl⟩
theorem o_clearWriteSide_1 : InsA md_clearWriteSide 1 (.iconst 0) 1 2 := ⟨by decide +kernel, rfl⟩
theorem o_clearWriteSide_2 : InsA md_clearWriteSide 2 (.putfield 113) 3 5 := ⟨by decide +kernel, rfl⟩
theorem o_clearWriteSide_5 : InsA md_clearWriteSide 5 (.aload_n 0) 1 6 := ⟨by decide +kernel, rfl⟩
theorem o_clearWriteSide_6 : InsA md_clearWriteSide 6 (.iconst 0) 1 7 := ⟨by decide +kernel, rfl⟩
theorem o_clearWriteSide_7 : InsA md_clearWriteSide 7 (.putfield 60) 3 10 := ⟨by decide +kernel, rfl⟩
theorem o_clearWriteSide_10 : InsA md_clearWriteSide 10 (.aload_n 0) 1 11 := ⟨by decide +kernel, rfl⟩
theorem o_clearWriteSide_11 : InsA md_clearWriteSide 11 (.iconst 0) 1 12 := ⟨by decide +kernel, rfl⟩
theorem o_clearWriteSide_12 : InsA md_clearWriteSide 12 (.putfield 123) 3 15 := ⟨by decide +kernel, rfl⟩
theorem o_clearWriteSide_15 : InsA md_clearWriteSide 15 (.aload_n 0) 1 16 := ⟨by decide +kernel, rfl⟩
theorem o_clearWriteSide_16 : InsA md_clearWriteSide 16 (.iconst 0) 1 17 := ⟨by decide +kernel, rfl⟩
theorem o_clearWriteSide_17 : InsA md_clearWriteSide 17 (.putfield 78) 3 20 := ⟨by decide +kernel, rfl⟩
theorem o_clearWriteSide_20 : InsA md_clearWriteSide 20 (.return_) 1 21 := ⟨by decide +kernel, rfl⟩
abbrev md_clearReadSide : MD := (⟨"CdcFifo", "clearReadSide", "()V"⟩, prog_1_method_37_code, 1, none, { frames := 0, cells := 0, slots := 0, locals := 0 }, 0)
theorem cv_clearReadSide {Z : State} {a0 : Array Value} (H : OK Z a0) : CalV Z a0 md_clearReadSide 0 := ⟨pn_CdcFifo, by decide, pd___V, H.w 41 rfl, H.w 43 rfl, H.w 2 rfl, Or.inr ⟨H.w 42 rfl, 20, H.w 1 rfl⟩⟩
theorem o_clearReadSide_0 : InsA md_clearReadSide 0 (.aload_n 0) 1 1 := ⟨by decide +kernel, rfl⟩
theorem o_clearReadSide_1 : InsA md_clearReadSide 1 (.iconst 0) 1 2 := ⟨by decide +kernel, rfl⟩
theorem o_clearReadSide_2 : InsA md_clearReadSide 2 (.putfield 91) 3 5 := ⟨by decide +kernel, rfl⟩
theorem o_clearReadSide_5 : InsA md_clearReadSide 5 (.aload_n 0) 1 6 := ⟨by decide +kernel, rfl⟩
theorem o_clearReadSide_6 : InsA md_clearReadSide 6 (.iconst 0) 1 7 := ⟨by decide +kernel, rfl⟩
theorem o_clearReadSide_7 : InsA md_clearReadSide 7 (.putfield 63) 3 10 := ⟨by decide +kernel, rfl⟩
theorem o_clearReadSide_10 : InsA md_clearReadSide 10 (.aload_n 0) 1 11 := ⟨by decide +kernel, rfl⟩
theorem o_clearReadSide_11 : InsA md_clearReadSide 11 (.iconst 0) 1 12 := ⟨by decide +kernel, rfl⟩
theorem o_clearReadSide_12 : InsA md_clearReadSide 12 (.putfield 116) 3 15 := ⟨by decide +kernel, rfl⟩
theorem o_clearReadSide_15 : InsA md_clearReadSide 15 (.aload_n 0) 1 16 := ⟨by decide +kernel, rfl⟩
theorem o_clearReadSide_16 : InsA md_clearReadSide 16 (.iconst 0) 1 17 := ⟨by decide +kernel, rfl⟩
theorem o_clearReadSide_17 : InsA md_clearReadSide 17 (.putfield 82) 3 20 := ⟨by decide +kernel, rfl⟩
theorem o_clearReadSide_20 : InsA md_clearReadSide 20 (.return_) 1 21 := ⟨by decide +kernel, rfl⟩
abbrev md_clearSyncs : MD := (⟨"CdcFifo", "clearSyncs", "()V"⟩, prog_1_method_38_code, 1, none, { frames := 0, cells := 0, slots := 0, locals := 0 }, 0)
theorem cv_clearSyncs {Z : State} {a0 : Array Value} (H : OK Z a0) : CalV Z a0 md_clearSyncs 0 := ⟨pn_CdcFifo, by decide, pd___V, H.w 53 rfl, H.w 55 rfl, H.w 2 rfl, Or.inr ⟨H.w 54 rfl, 20, H.w 1 rfl⟩⟩
theorem o_clearSyncs_0 : InsA md_clearSyncs 0 (.aload_n 0) 1 1 := ⟨by decide +kernel, rfl⟩
theorem o_clearSyncs_1 : InsA md_clearSyncs 1 (.iconst 0) 1 2 := ⟨by decide +kernel, rfl⟩
theorem o_clearSyncs_2 : InsA md_clearSyncs 2 (.putfield 66) 3 5 := ⟨by decide +kernel, rfl⟩
theorem o_clearSyncs_5 : InsA md_clearSyncs 5 (.aload_n 0) 1 6 := ⟨by decide +kernel, rfl⟩
theorem o_clearSyncs_6 : InsA md_clearSyncs 6 (.iconst 0) 1 7 := ⟨by decide +kernel, rfl⟩
theorem o_clearSyncs_7 : InsA md_clearSyncs 7 (.putfield 69) 3 10 := ⟨by decide +kernel, rfl⟩
theorem o_clearSyncs_10 : InsA md_clearSyncs 10 (.aload_n 0) 1 11 := ⟨by decide +kernel, rfl⟩
theorem o_clearSyncs_11 : InsA md_clearSyncs 11 (.iconst 0) 1 12 := ⟨by decide +kernel, rfl⟩
theorem o_clearSyncs_12 : InsA md_clearSyncs 12 (.putfield 72) 3 15 := ⟨by decide +kernel, rfl⟩
theorem o_clearSyncs_15 : InsA md_clearSyncs 15 (.aload_n 0) 1 16 := ⟨by decide +kernel, rfl⟩
theorem o_clearSyncs_16 : InsA md_clearSyncs 16 (.iconst 0) 1 17 := ⟨by decide +kernel, rfl⟩
theorem o_clearSyncs_17 : InsA md_clearSyncs 17 (.putfield 75) 3 20 := ⟨by decide +kernel, rfl⟩
theorem o_clearSyncs_20 : InsA md_clearSyncs 20 (.return_) 1 21 := ⟨by decide +kernel, rfl⟩
abbrev md_clearCells : MD := (⟨"CdcFifo", "clearCells", "()V"⟩, prog_1_method_39_code, 2, none, { frames := 0, cells := 0, slots := 0, locals := 0 }, 0)
theorem cv_clearCells {Z : State} {a0 : Array Value} (H : OK Z a0) : CalV Z a0 md_clearCells 0 := ⟨pn_CdcFifo, by decide, pd___V, H.w 65 rfl, H.w 67 rfl, H.w 2 rfl, Or.inr ⟨H.w 66 rfl, 20, H.w 1 rfl⟩⟩
theorem o_clearCells_0 : InsA md_clearCells 0 (.iconst 0) 1 1 := ⟨by decide +kernel, rfl⟩
theorem o_clearCells_1 : InsA md_clearCells 1 (.istore_n 1) 1 2 := ⟨by decide +kernel, rfl⟩
theorem o_clearCells_2 : InsA md_clearCells 2 (.iload_n 1) 1 3 := ⟨by decide +kernel, rfl⟩
theorem o_clearCells_3 : InsA md_clearCells 3 (.bipush 16) 2 5 := ⟨by decide +kernel, rfl⟩
theorem o_clearCells_5 : InsB md_clearCells 5 (.if_icmp .ge 16) 3 8 (16) 21 := ⟨by decide +kernel, rfl, by decide, by decide⟩
theorem o_clearCells_8 : InsA md_clearCells 8 (.aload_n 0) 1 9 := ⟨by decide +kernel, rfl⟩
theorem o_clearCells_9 : InsA md_clearCells 9 (.getfield 7) 3 12 := ⟨by decide +kernel, rfl⟩
theorem o_clearCells_12 : InsA md_clearCells 12 (.iload_n 1) 1 13 := ⟨by decide +kernel, rfl⟩
theorem o_clearCells_13 : InsA md_clearCells 13 (.iconst 0) 1 14 := ⟨by decide +kernel, rfl⟩
theorem o_clearCells_14 : InsA md_clearCells 14 (.iastore) 1 15 := ⟨by decide +kernel, rfl⟩
theorem o_clearCells_15 : InsA md_clearCells 15 (.iinc 1 1) 3 18 := ⟨by decide +kernel, rfl⟩
theorem o_clearCells_18 : InsB md_clearCells 18 (.goto (-16)) 3 21 (-16) 2 := ⟨by decide +kernel, rfl, by decide, by decide⟩
theorem o_clearCells_21 : InsA md_clearCells 21 (.return_) 1 22 := ⟨by decide +kernel, rfl⟩
abbrev md_getConfig : MD := (⟨"CdcFifo", "getConfig", "(I)I"⟩, prog_1_method_16_code, 2, some .int, { frames := 0, cells := 0, slots := 0, locals := 0 }, 0)
theorem cv_getConfig {Z : State} {a0 : Array Value} (H : OK Z a0) : CalV Z a0 md_getConfig 1 := ⟨pn_CdcFifo, by decide, pd__I_I, H.w 76 rfl, H.w 78 rfl, H.w 2 rfl, Or.inl ⟨H.w 75 rfl, H.w 77 rfl⟩⟩
theorem o_getConfig_0 : InsA md_getConfig 0 (.iload_n 1) 1 1 := ⟨by decide +kernel, rfl⟩
theorem o_getConfig_1 : InsB md_getConfig 1 (.ifCond .ne 8) 3 4 (8) 9 := ⟨by decide +kernel, rfl, by decide, by decide⟩
theorem o_getConfig_4 : InsA md_getConfig 4 (.aload_n 0) 1 5 := ⟨by decide +kernel, rfl⟩
theorem o_getConfig_5 : InsA md_getConfig 5 (.getfield 17) 3 8 := ⟨by decide +kernel, rfl⟩
theorem o_getConfig_8 : InsA md_getConfig 8 (.ireturn) 1 9 := ⟨by decide +kernel, rfl⟩
theorem o_getConfig_9 : InsA md_getConfig 9 (.iload_n 1) 1 10 := ⟨by decide +kernel, rfl⟩
theorem o_getConfig_10 : InsA md_getConfig 10 (.iconst 1) 1 11 := ⟨by decide +kernel, rfl⟩
theorem o_getConfig_11 : InsB md_getConfig 11 (.if_icmp .ne 8) 3 14 (8) 19 := ⟨by decide +kernel, rfl, by decide, by decide⟩
theorem o_getConfig_14 : InsA md_getConfig 14 (.aload_n 0) 1 15 := ⟨by decide +kernel, rfl⟩
theorem o_getConfig_15 : InsA md_getConfig 15 (.getfield 27) 3 18 := ⟨by decide +kernel, rfl⟩
theorem o_getConfig_18 : InsA md_getConfig 18 (.ireturn) 1 19 := ⟨by decide +kernel, rfl⟩
theorem o_getConfig_19 : InsA md_getConfig 19 (.iload_n 1) 1 20 := ⟨by decide +kernel, rfl⟩
theorem o_getConfig_20 : InsA md_getConfig 20 (.iconst 2) 1 21 := ⟨by decide +kernel, rfl⟩
theorem o_getConfig_21 : InsB md_getConfig 21 (.if_icmp .ne 8) 3 24 (8) 29 := ⟨by decide +kernel, rfl, by decide, by decide⟩
theorem o_getConfig_24 : InsA md_getConfig 24 (.aload_n 0) 1 25 := ⟨by decide +kernel, rfl⟩
theorem o_getConfig_25 : InsA md_getConfig 25 (.getfield 21) 3 28 := ⟨by decide +kernel, rfl⟩
theorem o_getConfig_28 : InsA md_getConfig 28 (.ireturn) 1 29 := ⟨by decide +kernel, rfl⟩
theorem o_getConfig_29 : InsA md_getConfig 29 (.iconst (-1)) 1 30 := ⟨by decide +kernel, rfl⟩
theorem o_getConfig_30 : InsA md_getConfig 30 (.ireturn) 1 31 := ⟨by decide +kernel, rfl⟩
abbrev md_L_check : MD := (⟨"CdcFifoL6", "check", "(LCdcFifo;IIIII)Z"⟩, method_3_code, 12, some .boolean, { frames := 6, cells := 0, slots := 0, locals := 79 }, 0)
theorem al_L_check (x0 : Nat) (x1 : Int32) (x2 : Int32) (x3 : Int32) (x4 : Int32) (x5 : Int32) : (argsToLocals [.ref x0, .int x1, .int x2, .int x3, .int x4, .int x5].toArray (mxOf md_L_check)).toList = [.val (.ref x0), .val (.int x1), .val (.int x2), .val (.int x3), .val (.int x4), .val (.int x5), .unset, .unset, .unset, .unset, .unset, .unset] := (Jvm.Sym.argsToLocals_toList _ _).trans rfl
theorem cv_L_check {Z : State} {a0 : Array Value} (H : OK Z a0) : CalS Z a0 md_L_check 6 := ⟨pn_CdcFifoL6, by decide, pd__LCdcFifo_IIIII_Z, H.w 80 rfl, H.w 82 rfl, H.w 81 rfl⟩
theorem o_L_check_0 : InsA md_L_check 0 (.iconst 2) 1 1 := ⟨by decide +kernel, rfl⟩
theorem o_L_check_1 : InsA md_L_check 1 (.iload 4) 2 3 := ⟨by decide +kernel, rfl⟩
theorem o_L_check_3 : InsA md_L_check 3 (.imul) 1 4 := ⟨by decide +kernel, rfl⟩
theorem o_L_check_4 : InsA md_L_check 4 (.istore 6) 2 6 := ⟨by decide +kernel, rfl⟩
theorem o_L_check_6 : InsA md_L_check 6 (.iload_n 1) 1 7 := ⟨by decide +kernel, rfl⟩
theorem o_L_check_7 : InsA md_L_check 7 (.iload_n 2) 1 8 := ⟨by decide +kernel, rfl⟩
theorem o_L_check_8 : InsA md_L_check 8 (.isub) 1 9 := ⟨by decide +kernel, rfl⟩
theorem o_L_check_9 : InsA md_L_check 9 (.istore 7) 2 11 := ⟨by decide +kernel, rfl⟩
theorem o_L_check_11 : InsA md_L_check 11 (.aload_n 0) 1 12 := ⟨by decide +kernel, rfl⟩
theorem o_L_check_12 : InsA md_L_check 12 (.iconst 0) 1 13 := ⟨by decide +kernel, rfl⟩
theorem o_L_check_13 : InsA md_L_check 13 (.invokevirtual 40) 3 16 := ⟨by decide +kernel, rfl⟩
theorem o_L_check_16 : InsA md_L_check 16 (.iload_n 1) 1 17 := ⟨by decide +kernel, rfl⟩
theorem o_L_check_17 : InsB md_L_check 17 (.if_icmp .ne 12) 3 20 (12) 29 := ⟨by decide +kernel, rfl, by decide, by decide⟩
theorem o_L_check_20 : InsA md_L_check 20 (.aload_n 0) 1 21 := ⟨by decide +kernel, rfl⟩
theorem o_L_check_21 : InsA md_L_check 21 (.iconst 1) 1 22 := ⟨by decide +kernel, rfl⟩
theorem o_L_check_22 : InsA md_L_check 22 (.invokevirtual 40) 3 25 := ⟨by decide +kernel, rfl⟩
theorem o_L_check_25 : InsA md_L_check 25 (.iload_n 2) 1 26 := ⟨by decide +kernel, rfl⟩
theorem o_L_check_26 : InsB md_L_check 26 (.if_icmp .eq 5) 3 29 (5) 31 := ⟨by decide +kernel, rfl, by decide, by decide⟩
theorem o_L_check_29 : InsA md_L_check 29 (.iconst 0) 1 30 := ⟨by decide +kernel, rfl⟩
theorem o_L_check_30 : InsA md_L_check 30 (.ireturn) 1 31 := ⟨by decide +kernel, rfl⟩
theorem o_L_check_31 : InsA md_L_check 31 (.iload 7) 2 33 := ⟨by decide +kernel, rfl⟩
theorem o_L_check_33 : InsB md_L_check 33 (.ifCond .lt 19) 3 36 (19) 52 := ⟨by decide +kernel, rfl, by decide, by decide⟩
theorem o_L_check_36 : InsA md_L_check 36 (.iload 7) 2 38 := ⟨by decide +kernel, rfl⟩
theorem o_L_check_38 : InsA md_L_check 38 (.iload 4) 2 40 := ⟨by decide +kernel, rfl⟩
theorem o_L_check_40 : InsB md_L_check 40 (.if_icmp .gt 12) 3 43 (12) 52 := ⟨by decide +kernel, rfl, by decide, by decide⟩
theorem o_L_check_43 : InsA md_L_check 43 (.aload_n 0) 1 44 := ⟨by decide +kernel, rfl⟩
theorem o_L_check_44 : InsA md_L_check 44 (.invokevirtual 43) 3 47 := ⟨by decide +kernel, rfl⟩
theorem o_L_check_47 : InsA md_L_check 47 (.iload 7) 2 49 := ⟨by decide +kernel, rfl⟩
theorem o_L_check_49 : InsB md_L_check 49 (.if_icmp .eq 5) 3 52 (5) 54 := ⟨by decide +kernel, rfl, by decide, by decide⟩
theorem o_L_check_52 : InsA md_L_check 52 (.iconst 0) 1 53 := ⟨by decide +kernel, rfl⟩
theorem o_L_check_53 : InsA md_L_check 53 (.ireturn) 1 54 := ⟨by decide +kernel, rfl⟩
theorem o_L_check_54 : InsA md_L_check 54 (.aload_n 0) 1 55 := ⟨by decide +kernel, rfl⟩
theorem o_L_check_55 : InsA md_L_check 55 (.invokevirtual 47) 3 58 := ⟨by decide +kernel, rfl⟩
theorem o_L_check_58 : InsA md_L_check 58 (.iload_n 3) 1 59 := ⟨by decide +kernel, rfl⟩
theorem o_L_check_59 : InsB md_L_check 59 (.if_icmp .eq 5) 3 62 (5) 64 := ⟨by decide +kernel, rfl, by decide, by decide⟩
theorem o_L_check_62 : InsA md_L_check 62 (.iconst 0) 1 63 := ⟨by decide +kernel, rfl⟩
theorem o_L_check_63 : InsA md_L_check 63 (.ireturn) 1 64 := ⟨by decide +kernel, rfl⟩
theorem o_L_check_64 : InsA md_L_check 64 (.iload_n 1) 1 65 := ⟨by decide +kernel, rfl⟩
theorem o_L_check_65 : InsA md_L_check 65 (.iload 6) 2 67 := ⟨by decide +kernel, rfl⟩
theorem o_L_check_67 : InsA md_L_check 67 (.iconst 1) 1 68 := ⟨by decide +kernel, rfl⟩
theorem o_L_check_68 : InsA md_L_check 68 (.isub) 1 69 := ⟨by decide +kernel, rfl⟩
theorem o_L_check_69 : InsA md_L_check 69 (.iand) 1 70 := ⟨by decide +kernel, rfl⟩
theorem o_L_check_70 : InsA md_L_check 70 (.istore 8) 2 72 := ⟨by decide +kernel, rfl⟩
theorem o_L_check_72 : InsA md_L_check 72 (.iload_n 2) 1 73 := ⟨by decide +kernel, rfl⟩
theorem o_L_check_73 : InsA md_L_check 73 (.iload 6) 2 75 := ⟨by decide +kernel, rfl⟩
theorem o_L_check_75 : InsA md_L_check 75 (.iconst 1) 1 76 := ⟨by decide +kernel, rfl⟩
theorem o_L_check_76 : InsA md_L_check 76 (.isub) 1 77 := ⟨by decide +kernel, rfl⟩
theorem o_L_check_77 : InsA md_L_check 77 (.iand) 1 78 := ⟨by decide +kernel, rfl⟩
theorem o_L_check_78 : InsA md_L_check 78 (.istore 9) 2 80 := ⟨by decide +kernel, rfl⟩
theorem o_L_check_80 : InsA md_L_check 80 (.aload_n 0) 1 81 := ⟨by decide +kernel, rfl⟩
theorem o_L_check_81 : InsA md_L_check 81 (.iconst 0) 1 82 := ⟨by decide +kernel, rfl⟩
theorem o_L_check_82 : InsA md_L_check 82 (.invokevirtual 50) 3 85 := ⟨by decide +kernel, rfl⟩
theorem o_L_check_85 : InsA md_L_check 85 (.iload 8) 2 87 := ⟨by decide +kernel, rfl⟩
theorem o_L_check_87 : InsA md_L_check 87 (.iload 8) 2 89 := ⟨by decide +kernel, rfl⟩
theorem o_L_check_89 : InsA md_L_check 89 (.iconst 1) 1 90 := ⟨by decide +kernel, rfl⟩
theorem o_L_check_90 : InsA md_L_check 90 (.iushr) 1 91 := ⟨by decide +kernel, rfl⟩
theorem o_L_check_91 : InsA md_L_check 91 (.ixor) 1 92 := ⟨by decide +kernel, rfl⟩
theorem o_L_check_92 : InsB md_L_check 92 (.if_icmp .eq 5) 3 95 (5) 97 := ⟨by decide +kernel, rfl, by decide, by decide⟩
theorem o_L_check_95 : InsA md_L_check 95 (.iconst 0) 1 96 := ⟨by decide +kernel, rfl⟩
theorem o_L_check_96 : InsA md_L_check 96 (.ireturn) 1 97 := ⟨by decide +kernel, rfl⟩
theorem o_L_check_97 : InsA md_L_check 97 (.aload_n 0) 1 98 := ⟨by decide +kernel, rfl⟩
theorem o_L_check_98 : InsA md_L_check 98 (.iconst 1) 1 99 := ⟨by decide +kernel, rfl⟩
theorem o_L_check_99 : InsA md_L_check 99 (.invokevirtual 50) 3 102 := ⟨by decide +kernel, rfl⟩
theorem o_L_check_102 : InsA md_L_check 102 (.iload 9) 2 104 := ⟨by decide +kernel, rfl⟩
theorem o_L_check_104 : InsA md_L_check 104 (.iload 9) 2 106 := ⟨by decide +kernel, rfl⟩
theorem o_L_check_106 : InsA md_L_check 106 (.iconst 1) 1 107 := ⟨by decide +kernel, rfl⟩
theorem o_L_check_107 : InsA md_L_check 107 (.iushr) 1 108 := ⟨by decide +kernel, rfl⟩
theorem o_L_check_108 : InsA md_L_check 108 (.ixor) 1 109 := ⟨by decide +kernel, rfl⟩
theorem o_L_check_109 : InsB md_L_check 109 (.if_icmp .eq 5) 3 112 (5) 114 := ⟨by decide +kernel, rfl, by decide, by decide⟩
theorem o_L_check_112 : InsA md_L_check 112 (.iconst 0) 1 113 := ⟨by decide +kernel, rfl⟩
theorem o_L_check_113 : InsA md_L_check 113 (.ireturn) 1 114 := ⟨by decide +kernel, rfl⟩
theorem o_L_check_114 : InsA md_L_check 114 (.aload_n 0) 1 115 := ⟨by decide +kernel, rfl⟩
theorem o_L_check_115 : InsA md_L_check 115 (.iconst 0) 1 116 := ⟨by decide +kernel, rfl⟩
theorem o_L_check_116 : InsA md_L_check 116 (.invokevirtual 53) 3 119 := ⟨by decide +kernel, rfl⟩
theorem o_L_check_119 : InsA md_L_check 119 (.istore 10) 2 121 := ⟨by decide +kernel, rfl⟩
theorem o_L_check_121 : InsA md_L_check 121 (.aload_n 0) 1 122 := ⟨by decide +kernel, rfl⟩
theorem o_L_check_122 : InsA md_L_check 122 (.iconst 1) 1 123 := ⟨by decide +kernel, rfl⟩
theorem o_L_check_123 : InsA md_L_check 123 (.invokevirtual 53) 3 126 := ⟨by decide +kernel, rfl⟩
theorem o_L_check_126 : InsA md_L_check 126 (.istore 11) 2 128 := ⟨by decide +kernel, rfl⟩
theorem o_L_check_128 : InsA md_L_check 128 (.iload 11) 2 130 := ⟨by decide +kernel, rfl⟩
theorem o_L_check_130 : InsB md_L_check 130 (.ifCond .lt 24) 3 133 (24) 154 := ⟨by decide +kernel, rfl, by decide, by decide⟩
theorem o_L_check_133 : InsA md_L_check 133 (.iload 11) 2 135 := ⟨by decide +kernel, rfl⟩
theorem o_L_check_135 : InsA md_L_check 135 (.iload 7) 2 137 := ⟨by decide +kernel, rfl⟩
theorem o_L_check_137 : InsB md_L_check 137 (.if_icmp .gt 17) 3 140 (17) 154 := ⟨by decide +kernel, rfl, by decide, by decide⟩
theorem o_L_check_140 : InsA md_L_check 140 (.iload 10) 2 142 := ⟨by decide +kernel, rfl⟩
theorem o_L_check_142 : InsA md_L_check 142 (.iload 7) 2 144 := ⟨by decide +kernel, rfl⟩
theorem o_L_check_144 : InsB md_L_check 144 (.if_icmp .lt 10) 3 147 (10) 154 := ⟨by decide +kernel, rfl, by decide, by decide⟩
theorem o_L_check_147 : InsA md_L_check 147 (.iload 10) 2 149 := ⟨by decide +kernel, rfl⟩
theorem o_L_check_149 : InsA md_L_check 149 (.iload 4) 2 151 := ⟨by decide +kernel, rfl⟩
theorem o_L_check_151 : InsB md_L_check 151 (.if_icmp .le 5) 3 154 (5) 156 := ⟨by decide +kernel, rfl, by decide, by decide⟩
theorem o_L_check_154 : InsA md_L_check 154 (.iconst 0) 1 155 := ⟨by decide +kernel, rfl⟩
theorem o_L_check_155 : InsA md_L_check 155 (.ireturn) 1 156 := ⟨by decide +kernel, rfl⟩
theorem o_L_check_156 : InsA md_L_check 156 (.aload_n 0) 1 157 := ⟨by decide +kernel, rfl⟩
theorem o_L_check_157 : InsA md_L_check 157 (.invokevirtual 22) 3 160 := ⟨by decide +kernel, rfl⟩
theorem o_L_check_160 : InsA md_L_check 160 (.iload 10) 2 162 := ⟨by decide +kernel, rfl⟩
theorem o_L_check_162 : InsA md_L_check 162 (.iload 4) 2 164 := ⟨by decide +kernel, rfl⟩
theorem o_L_check_164 : InsB md_L_check 164 (.if_icmp .ne 7) 3 167 (7) 171 := ⟨by decide +kernel, rfl, by decide, by decide⟩
theorem o_L_check_167 : InsA md_L_check 167 (.iconst 1) 1 168 := ⟨by decide +kernel, rfl⟩
theorem o_L_check_168 : InsB md_L_check 168 (.goto 4) 3 171 (4) 172 := ⟨by decide +kernel, rfl, by decide, by decide⟩
theorem o_L_check_171 : InsA md_L_check 171 (.iconst 0) 1 172 := ⟨by decide +kernel, rfl⟩
theorem o_L_check_172 : InsB md_L_check 172 (.if_icmp .ne 39) 3 175 (39) 211 := ⟨by decide +kernel, rfl, by decide, by decide⟩
theorem o_L_check_175 : InsA md_L_check 175 (.aload_n 0) 1 176 := ⟨by decide +kernel, rfl⟩
theorem o_L_check_176 : InsA md_L_check 176 (.invokevirtual 30) 3 179 := ⟨by decide +kernel, rfl⟩
theorem o_L_check_179 : InsA md_L_check 179 (.iload 11) 2 181 := ⟨by decide +kernel, rfl⟩
theorem o_L_check_181 : InsB md_L_check 181 (.ifCond .ne 7) 3 184 (7) 188 := ⟨by decide +kernel, rfl, by decide, by decide⟩
theorem o_L_check_184 : InsA md_L_check 184 (.iconst 1) 1 185 := ⟨by decide +kernel, rfl⟩
theorem o_L_check_185 : InsB md_L_check 185 (.goto 4) 3 188 (4) 189 := ⟨by decide +kernel, rfl, by decide, by decide⟩
theorem o_L_check_188 : InsA md_L_check 188 (.iconst 0) 1 189 := ⟨by decide +kernel, rfl⟩
theorem o_L_check_189 : InsB md_L_check 189 (.if_icmp .ne 22) 3 192 (22) 211 := ⟨by decide +kernel, rfl, by decide, by decide⟩
theorem o_L_check_192 : InsA md_L_check 192 (.aload_n 0) 1 193 := ⟨by decide +kernel, rfl⟩
theorem o_L_check_193 : InsA md_L_check 193 (.invokevirtual 56) 3 196 := ⟨by decide +kernel, rfl⟩
theorem o_L_check_196 : InsA md_L_check 196 (.iload 10) 2 198 := ⟨by decide +kernel, rfl⟩
theorem o_L_check_198 : InsA md_L_check 198 (.iload 5) 2 200 := ⟨by decide +kernel, rfl⟩
theorem o_L_check_200 : InsB md_L_check 200 (.if_icmp .lt 7) 3 203 (7) 207 := ⟨by decide +kernel, rfl, by decide, by decide⟩
theorem o_L_check_203 : InsA md_L_check 203 (.iconst 1) 1 204 := ⟨by decide +kernel, rfl⟩
theorem o_L_check_204 : InsB md_L_check 204 (.goto 4) 3 207 (4) 208 := ⟨by decide +kernel, rfl, by decide, by decide⟩
theorem o_L_check_207 : InsA md_L_check 207 (.iconst 0) 1 208 := ⟨by decide +kernel, rfl⟩
theorem o_L_check_208 : InsB md_L_check 208 (.if_icmp .eq 5) 3 211 (5) 213 := ⟨by decide +kernel, rfl, by decide, by decide⟩
theorem o_L_check_211 : InsA md_L_check 211 (.iconst 0) 1 212 := ⟨by decide +kernel, rfl⟩
theorem o_L_check_212 : InsA md_L_check 212 (.ireturn) 1 213 := ⟨by decide +kernel, rfl⟩
theorem o_L_check_213 : InsA md_L_check 213 (.iload 7) 2 215 := ⟨by decide +kernel, rfl⟩
theorem o_L_check_215 : InsB md_L_check 215 (.ifCond .le 38) 3 218 (38) 253 := ⟨by decide +kernel, rfl, by decide, by decide⟩
theorem o_L_check_218 : InsA md_L_check 218 (.aload_n 0) 1 219 := ⟨by decide +kernel, rfl⟩
theorem o_L_check_219 : InsA md_L_check 219 (.iconst 0) 1 220 := ⟨by decide +kernel, rfl⟩
theorem o_L_check_220 : InsA md_L_check 220 (.invokevirtual 59) 3 223 := ⟨by decide +kernel, rfl⟩
theorem o_L_check_223 : InsA md_L_check 223 (.iload_n 2) 1 224 := ⟨by decide +kernel, rfl⟩
theorem o_L_check_224 : InsA md_L_check 224 (.bipush 7) 2 226 := ⟨by decide +kernel, rfl⟩
theorem o_L_check_226 : InsA md_L_check 226 (.imul) 1 227 := ⟨by decide +kernel, rfl⟩
theorem o_L_check_227 : InsA md_L_check 227 (.iconst 3) 1 228 := ⟨by decide +kernel, rfl⟩
theorem o_L_check_228 : InsA md_L_check 228 (.iadd) 1 229 := ⟨by decide +kernel, rfl⟩
theorem o_L_check_229 : InsB md_L_check 229 (.if_icmp .ne 22) 3 232 (22) 251 := ⟨by decide +kernel, rfl, by decide, by decide⟩
theorem o_L_check_232 : InsA md_L_check 232 (.aload_n 0) 1 233 := ⟨by decide +kernel, rfl⟩
theorem o_L_check_233 : InsA md_L_check 233 (.iload 7) 2 235 := ⟨by decide +kernel, rfl⟩
theorem o_L_check_235 : InsA md_L_check 235 (.iconst 1) 1 236 := ⟨by decide +kernel, rfl⟩
theorem o_L_check_236 : InsA md_L_check 236 (.isub) 1 237 := ⟨by decide +kernel, rfl⟩
theorem o_L_check_237 : InsA md_L_check 237 (.invokevirtual 59) 3 240 := ⟨by decide +kernel, rfl⟩
theorem o_L_check_240 : InsA md_L_check 240 (.iload_n 1) 1 241 := ⟨by decide +kernel, rfl⟩
theorem o_L_check_241 : InsA md_L_check 241 (.iconst 1) 1 242 := ⟨by decide +kernel, rfl⟩
theorem o_L_check_242 : InsA md_L_check 242 (.isub) 1 243 := ⟨by decide +kernel, rfl⟩
theorem o_L_check_243 : InsA md_L_check 243 (.bipush 7) 2 245 := ⟨by decide +kernel, rfl⟩
theorem o_L_check_245 : InsA md_L_check 245 (.imul) 1 246 := ⟨by decide +kernel, rfl⟩
theorem o_L_check_246 : InsA md_L_check 246 (.iconst 3) 1 247 := ⟨by decide +kernel, rfl⟩
theorem o_L_check_247 : InsA md_L_check 247 (.iadd) 1 248 := ⟨by decide +kernel, rfl⟩
theorem o_L_check_248 : InsB md_L_check 248 (.if_icmp .eq 5) 3 251 (5) 253 := ⟨by decide +kernel, rfl, by decide, by decide⟩
theorem o_L_check_251 : InsA md_L_check 251 (.iconst 0) 1 252 := ⟨by decide +kernel, rfl⟩
theorem o_L_check_252 : InsA md_L_check 252 (.ireturn) 1 253 := ⟨by decide +kernel, rfl⟩
theorem o_L_check_253 : InsA md_L_check 253 (.aload_n 0) 1 254 := ⟨by decide +kernel, rfl⟩
theorem o_L_check_254 : InsA md_L_check 254 (.iload 7) 2 256 := ⟨by decide +kernel, rfl⟩
theorem o_L_check_256 : InsA md_L_check 256 (.invokevirtual 59) 3 259 := ⟨by decide +kernel, rfl⟩
theorem o_L_check_259 : InsB md_L_check 259 (.ifCond .ne 11) 3 262 (11) 270 := ⟨by decide +kernel, rfl, by decide, by decide⟩
theorem o_L_check_262 : InsA md_L_check 262 (.aload_n 0) 1 263 := ⟨by decide +kernel, rfl⟩
theorem o_L_check_263 : InsA md_L_check 263 (.iconst (-1)) 1 264 := ⟨by decide +kernel, rfl⟩
theorem o_L_check_264 : InsA md_L_check 264 (.invokevirtual 59) 3 267 := ⟨by decide +kernel, rfl⟩
theorem o_L_check_267 : InsB md_L_check 267 (.ifCond .eq 5) 3 270 (5) 272 := ⟨by decide +kernel, rfl, by decide, by decide⟩
theorem o_L_check_270 : InsA md_L_check 270 (.iconst 0) 1 271 := ⟨by decide +kernel, rfl⟩
theorem o_L_check_271 : InsA md_L_check 271 (.ireturn) 1 272 := ⟨by decide +kernel, rfl⟩
theorem o_L_check_272 : InsA md_L_check 272 (.iconst 1) 1 273 := ⟨by decide +kernel, rfl⟩
theorem o_L_check_273 : InsA md_L_check 273 (.ireturn) 1 274 := ⟨by decide +kernel, rfl⟩
abbrev md_getTotal : MD := (⟨"CdcFifo", "getTotal", "(I)I"⟩, prog_1_method_15_code, 2, some .int, { frames := 0, cells := 0, slots := 0, locals := 0 }, 0)
theorem cv_getTotal {Z : State} {a0 : Array Value} (H : OK Z a0) : CalV Z a0 md_getTotal 1 := ⟨pn_CdcFifo, by decide, pd__I_I, H.w 85 rfl, H.w 87 rfl, H.w 2 rfl, Or.inl ⟨H.w 84 rfl, H.w 86 rfl⟩⟩
theorem o_getTotal_0 : InsA md_getTotal 0 (.iload_n 1) 1 1 := ⟨by decide +kernel, rfl⟩
theorem o_getTotal_1 : InsB md_getTotal 1 (.ifCond .ne 8) 3 4 (8) 9 := ⟨by decide +kernel, rfl, by decide, by decide⟩
theorem o_getTotal_4 : InsA md_getTotal 4 (.aload_n 0) 1 5 := ⟨by decide +kernel, rfl⟩
theorem o_getTotal_5 : InsA md_getTotal 5 (.getfield 98) 3 8 := ⟨by decide +kernel, rfl⟩
theorem o_getTotal_8 : InsA md_getTotal 8 (.ireturn) 1 9 := ⟨by decide +kernel, rfl⟩
theorem o_getTotal_9 : InsA md_getTotal 9 (.iload_n 1) 1 10 := ⟨by decide +kernel, rfl⟩
theorem o_getTotal_10 : InsA md_getTotal 10 (.iconst 1) 1 11 := ⟨by decide +kernel, rfl⟩
theorem o_getTotal_11 : InsB md_getTotal 11 (.if_icmp .ne 8) 3 14 (8) 19 := ⟨by decide +kernel, rfl, by decide, by decide⟩
theorem o_getTotal_14 : InsA md_getTotal 14 (.aload_n 0) 1 15 := ⟨by decide +kernel, rfl⟩
theorem o_getTotal_15 : InsA md_getTotal 15 (.getfield 101) 3 18 := ⟨by decide +kernel, rfl⟩
theorem o_getTotal_18 : InsA md_getTotal 18 (.ireturn) 1 19 := ⟨by decide +kernel, rfl⟩
theorem o_getTotal_19 : InsA md_getTotal 19 (.iconst (-1)) 1 20 := ⟨by decide +kernel, rfl⟩
theorem o_getTotal_20 : InsA md_getTotal 20 (.ireturn) 1 21 := ⟨by decide +kernel, rfl⟩
abbrev md_getCount : MD := (⟨"CdcFifo", "getCount", "()I"⟩, prog_1_method_14_code, 1, some .int, { frames := 3, cells := 0, slots := 0, locals := 38 }, 0)
theorem cv_getCount {Z : State} {a0 : Array Value} (H : OK Z a0) : CalV Z a0 md_getCount 0 := ⟨pn_CdcFifo, by decide, pd___I, H.w 90 rfl, H.w 92 rfl, H.w 2 rfl, Or.inl ⟨H.w 89 rfl, H.w 91 rfl⟩⟩
theorem o_getCount_0 : InsA md_getCount 0 (.aload_n 0) 1 1 := ⟨by decide +kernel, rfl⟩
theorem o_getCount_1 : InsA md_getCount 1 (.invokevirtual 88) 3 4 := ⟨by decide +kernel, rfl⟩
theorem o_getCount_4 : InsA md_getCount 4 (.ireturn) 1 5 := ⟨by decide +kernel, rfl⟩
abbrev md_countValue : MD := (⟨"CdcFifo", "countValue", "()I"⟩, prog_1_method_26_code, 1, some .int, { frames := 2, cells := 0, slots := 0, locals := 26 }, 0)
theorem cv_countValue {Z : State} {a0 : Array Value} (H : OK Z a0) : CalV Z a0 md_countValue 0 := ⟨pn_CdcFifo, by decide, pd___I, H.w 94 rfl, H.w 96 rfl, H.w 2 rfl, Or.inr ⟨H.w 95 rfl, 20, H.w 1 rfl⟩⟩
theorem o_countValue_0 : InsA md_countValue 0 (.aload_n 0) 1 1 := ⟨by decide +kernel, rfl⟩
theorem o_countValue_1 : InsA md_countValue 1 (.aload_n 0) 1 2 := ⟨by decide +kernel, rfl⟩
theorem o_countValue_2 : InsA md_countValue 2 (.getfield 113) 3 5 := ⟨by decide +kernel, rfl⟩
theorem o_countValue_5 : InsA md_countValue 5 (.aload_n 0) 1 6 := ⟨by decide +kernel, rfl⟩
theorem o_countValue_6 : InsA md_countValue 6 (.getfield 91) 3 9 := ⟨by decide +kernel, rfl⟩
theorem o_countValue_9 : InsA md_countValue 9 (.isub) 1 10 := ⟨by decide +kernel, rfl⟩
theorem o_countValue_10 : InsA md_countValue 10 (.invokevirtual 107) 3 13 := ⟨by decide +kernel, rfl⟩
theorem o_countValue_13 : InsA md_countValue 13 (.ireturn) 1 14 := ⟨by decide +kernel, rfl⟩
abbrev md_modPointer : MD := (⟨"CdcFifo", "modPointer", "(I)I"⟩, prog_1_method_19_code, 2, some .int, { frames := 1, cells := 0, slots := 0, locals := 13 }, 0)
theorem cv_modPointer {Z : State} {a0 : Array Value} (H : OK Z a0) : CalV Z a0 md_modPointer 1 := ⟨pn_CdcFifo, by decide, pd__I_I, H.w 98 rfl, H.w 100 rfl, H.w 2 rfl, Or.inr ⟨H.w 99 rfl, 20, H.w 1 rfl⟩⟩
theorem o_modPointer_0 : InsA md_modPointer 0 (.iload_n 1) 1 1 := ⟨by decide +kernel, rfl⟩
theorem o_modPointer_1 : InsA md_modPointer 1 (.aload_n 0) 1 2 := ⟨by decide +kernel, rfl⟩
theorem o_modPointer_2 : InsA md_modPointer 2 (.invokevirtual 104) 3 5 := ⟨by decide +kernel, rfl⟩
theorem o_modPointer_5 : InsA md_modPointer 5 (.iand) 1 6 := ⟨by decide +kernel, rfl⟩
theorem o_modPointer_6 : InsA md_modPointer 6 (.ireturn) 1 7 := ⟨by decide +kernel, rfl⟩
abbrev md_pointerMask : MD := (⟨"CdcFifo", "pointerMask", "()I"⟩, prog_1_method_18_code, 1, some .int, { frames := 0, cells := 0, slots := 0, locals := 0 }, 0)
theorem cv_pointerMask {Z : State} {a0 : Array Value} (H : OK Z a0) : CalV Z a0 md_pointerMask 0 := ⟨pn_CdcFifo, by decide, pd___I, H.w 102 rfl, H.w 104 rfl, H.w 2 rfl, Or.inr ⟨H.w 103 rfl, 20, H.w 1 rfl⟩⟩
theorem o_pointerMask_0 : InsA md_pointerMask 0 (.aload_n 0) 1 1 := ⟨by decide +kernel, rfl⟩
theorem o_pointerMask_1 : InsA md_pointerMask 1 (.getfield 24) 3 4 := ⟨by decide +kernel, rfl⟩
theorem o_pointerMask_4 : InsA md_pointerMask 4 (.iconst 1) 1 5 := ⟨by decide +kernel, rfl⟩
theorem o_pointerMask_5 : InsA md_pointerMask 5 (.isub) 1 6 := ⟨by decide +kernel, rfl⟩
theorem o_pointerMask_6 : InsA md_pointerMask 6 (.ireturn) 1 7 := ⟨by decide +kernel, rfl⟩
abbrev md_getLastRead : MD := (⟨"CdcFifo", "getLastRead", "()I"⟩, prog_1_method_12_code, 1, some .int, { frames := 0, cells := 0, slots := 0, locals := 0 }, 0)
theorem cv_getLastRead {Z : State} {a0 : Array Value} (H : OK Z a0) : CalV Z a0 md_getLastRead 0 := ⟨pn_CdcFifo, by decide, pd___I, H.w 107 rfl, H.w 109 rfl, H.w 2 rfl, Or.inl ⟨H.w 106 rfl, H.w 108 rfl⟩⟩
theorem o_getLastRead_0 : InsA md_getLastRead 0 (.aload_n 0) 1 1 := ⟨by decide +kernel, rfl⟩
theorem o_getLastRead_1 : InsA md_getLastRead 1 (.getfield 85) 3 4 := ⟨by decide +kernel, rfl⟩
theorem o_getLastRead_4 : InsA md_getLastRead 4 (.ireturn) 1 5 := ⟨by decide +kernel, rfl⟩
abbrev md_getPointerGray : MD := (⟨"CdcFifo", "getPointerGray", "(I)I"⟩, prog_1_method_9_code, 2, some .int, { frames := 0, cells := 0, slots := 0, locals := 0 }, 0)
theorem cv_getPointerGray {Z : State} {a0 : Array Value} (H : OK Z a0) : CalV Z a0 md_getPointerGray 1 := ⟨pn_CdcFifo, by decide, pd__I_I, H.w 112 rfl, H.w 114 rfl, H.w 2 rfl, Or.inl ⟨H.w 111 rfl, H.w 113 rfl⟩⟩
theorem o_getPointerGray_0 : InsA md_getPointerGray 0 (.iload_n 1) 1 1 := ⟨by decide +kernel, rfl⟩
theorem o_getPointerGray_1 : InsB md_getPointerGray 1 (.ifCond .ne 8) 3 4 (8) 9 := ⟨by decide +kernel, rfl, by decide, by decide⟩
theorem o_getPointerGray_4 : InsA md_getPointerGray 4 (.aload_n 0) 1 5 := ⟨by decide +kernel, rfl⟩
theorem o_getPointerGray_5 : InsA md_getPointerGray 5 (.getfield 60) 3 8 := ⟨by decide +kernel, rfl⟩
theorem o_getPointerGray_8 : InsA md_getPointerGray 8 (.ireturn) 1 9 := ⟨by decide +kernel, rfl⟩
theorem o_getPointerGray_9 : InsA md_getPointerGray 9 (.iload_n 1) 1 10 := ⟨by decide +kernel, rfl⟩
theorem o_getPointerGray_10 : InsA md_getPointerGray 10 (.iconst 1) 1 11 := ⟨by decide +kernel, rfl⟩
theorem o_getPointerGray_11 : InsB md_getPointerGray 11 (.if_icmp .ne 8) 3 14 (8) 19 := ⟨by decide +kernel, rfl, by decide, by decide⟩
theorem o_getPointerGray_14 : InsA md_getPointerGray 14 (.aload_n 0) 1 15 := ⟨by decide +kernel, rfl⟩
theorem o_getPointerGray_15 : InsA md_getPointerGray 15 (.getfield 63) 3 18 := ⟨by decide +kernel, rfl⟩
theorem o_getPointerGray_18 : InsA md_getPointerGray 18 (.ireturn) 1 19 := ⟨by decide +kernel, rfl⟩
theorem o_getPointerGray_19 : InsA md_getPointerGray 19 (.iconst (-1)) 1 20 := ⟨by decide +kernel, rfl⟩
theorem o_getPointerGray_20 : InsA md_getPointerGray 20 (.ireturn) 1 21 := ⟨by decide +kernel, rfl⟩
abbrev md_getFill : MD := (⟨"CdcFifo", "getFill", "(I)I"⟩, prog_1_method_8_code, 2, some .int, { frames := 4, cells := 0, slots := 0, locals := 55 }, 0)
theorem cv_getFill {Z : State} {a0 : Array Value} (H : OK Z a0) : CalV Z a0 md_getFill 1 := ⟨pn_CdcFifo, by decide, pd__I_I, H.w 117 rfl, H.w 119 rfl, H.w 2 rfl, Or.inl ⟨H.w 116 rfl, H.w 118 rfl⟩⟩
theorem o_getFill_0 : InsA md_getFill 0 (.iload_n 1) 1 1 := ⟨by decide +kernel, rfl⟩
theorem o_getFill_1 : InsB md_getFill 1 (.ifCond .ne 8) 3 4 (8) 9 := ⟨by decide +kernel, rfl, by decide, by decide⟩
theorem o_getFill_4 : InsA md_getFill 4 (.aload_n 0) 1 5 := ⟨by decide +kernel, rfl⟩
theorem o_getFill_5 : InsA md_getFill 5 (.invokevirtual 53) 3 8 := ⟨by decide +kernel, rfl⟩
theorem o_getFill_8 : InsA md_getFill 8 (.ireturn) 1 9 := ⟨by decide +kernel, rfl⟩
theorem o_getFill_9 : InsA md_getFill 9 (.iload_n 1) 1 10 := ⟨by decide +kernel, rfl⟩
theorem o_getFill_10 : InsA md_getFill 10 (.iconst 1) 1 11 := ⟨by decide +kernel, rfl⟩
theorem o_getFill_11 : InsB md_getFill 11 (.if_icmp .ne 8) 3 14 (8) 19 := ⟨by decide +kernel, rfl, by decide, by decide⟩
theorem o_getFill_14 : InsA md_getFill 14 (.aload_n 0) 1 15 := ⟨by decide +kernel, rfl⟩
theorem o_getFill_15 : InsA md_getFill 15 (.invokevirtual 57) 3 18 := ⟨by decide +kernel, rfl⟩
theorem o_getFill_18 : InsA md_getFill 18 (.ireturn) 1 19 := ⟨by decide +kernel, rfl⟩
theorem o_getFill_19 : InsA md_getFill 19 (.iconst (-1)) 1 20 := ⟨by decide +kernel, rfl⟩
theorem o_getFill_20 : InsA md_getFill 20 (.ireturn) 1 21 := ⟨by decide +kernel, rfl⟩
abbrev md_writeFillValue : MD := (⟨"CdcFifo", "writeFillValue", "()I"⟩, prog_1_method_24_code, 2, some .int, { frames := 3, cells := 0, slots := 0, locals := 42 }, 0)
theorem cv_writeFillValue {Z : State} {a0 : Array Value} (H : OK Z a0) : CalV Z a0 md_writeFillValue 0 := ⟨pn_CdcFifo, by decide, pd___I, H.w 121 rfl, H.w 123 rfl, H.w 2 rfl, Or.inr ⟨H.w 122 rfl, 20, H.w 1 rfl⟩⟩
theorem o_writeFillValue_0 : InsA md_writeFillValue 0 (.aload_n 0) 1 1 := ⟨by decide +kernel, rfl⟩
theorem o_writeFillValue_1 : InsA md_writeFillValue 1 (.aload_n 0) 1 2 := ⟨by decide +kernel, rfl⟩
theorem o_writeFillValue_2 : InsA md_writeFillValue 2 (.getfield 69) 3 5 := ⟨by decide +kernel, rfl⟩
theorem o_writeFillValue_5 : InsA md_writeFillValue 5 (.invokevirtual 110) 3 8 := ⟨by decide +kernel, rfl⟩
theorem o_writeFillValue_8 : InsA md_writeFillValue 8 (.istore_n 1) 1 9 := ⟨by decide +kernel, rfl⟩
theorem o_writeFillValue_9 : InsA md_writeFillValue 9 (.aload_n 0) 1 10 := ⟨by decide +kernel, rfl⟩
theorem o_writeFillValue_10 : InsA md_writeFillValue 10 (.aload_n 0) 1 11 := ⟨by decide +kernel, rfl⟩
theorem o_writeFillValue_11 : InsA md_writeFillValue 11 (.getfield 113) 3 14 := ⟨by decide +kernel, rfl⟩
theorem o_writeFillValue_14 : InsA md_writeFillValue 14 (.iload_n 1) 1 15 := ⟨by decide +kernel, rfl⟩
theorem o_writeFillValue_15 : InsA md_writeFillValue 15 (.isub) 1 16 := ⟨by decide +kernel, rfl⟩
theorem o_writeFillValue_16 : InsA md_writeFillValue 16 (.invokevirtual 107) 3 19 := ⟨by decide +kernel, rfl⟩
theorem o_writeFillValue_19 : InsA md_writeFillValue 19 (.ireturn) 1 20 := ⟨by decide +kernel, rfl⟩
abbrev md_decode : MD := (⟨"CdcFifo", "decode", "(I)I"⟩, prog_1_method_22_code, 5, some .int, { frames := 2, cells := 0, slots := 0, locals := 26 }, 0)
theorem cv_decode {Z : State} {a0 : Array Value} (H : OK Z a0) : CalV Z a0 md_decode 1 := ⟨pn_CdcFifo, by decide, pd__I_I, H.w 125 rfl, H.w 127 rfl, H.w 2 rfl, Or.inr ⟨H.w 126 rfl, 20, H.w 1 rfl⟩⟩
theorem o_decode_0 : InsA md_decode 0 (.aload_n 0) 1 1 := ⟨by decide +kernel, rfl⟩
theorem o_decode_1 : InsA md_decode 1 (.iload_n 1) 1 2 := ⟨by decide +kernel, rfl⟩
theorem o_decode_2 : InsA md_decode 2 (.invokevirtual 107) 3 5 := ⟨by decide +kernel, rfl⟩
theorem o_decode_5 : InsA md_decode 5 (.istore_n 2) 1 6 := ⟨by decide +kernel, rfl⟩
theorem o_decode_6 : InsA md_decode 6 (.iload_n 2) 1 7 := ⟨by decide +kernel, rfl⟩
theorem o_decode_7 : InsA md_decode 7 (.iconst 1) 1 8 := ⟨by decide +kernel, rfl⟩
theorem o_decode_8 : InsA md_decode 8 (.iushr) 1 9 := ⟨by decide +kernel, rfl⟩
theorem o_decode_9 : InsA md_decode 9 (.istore_n 3) 1 10 := ⟨by decide +kernel, rfl⟩
theorem o_decode_10 : InsA md_decode 10 (.iconst 0) 1 11 := ⟨by decide +kernel, rfl⟩
theorem o_decode_11 : InsA md_decode 11 (.istore 4) 2 13 := ⟨by decide +kernel, rfl⟩
theorem o_decode_13 : InsA md_decode 13 (.iload 4) 2 15 := ⟨by decide +kernel, rfl⟩
theorem o_decode_15 : InsA md_decode 15 (.aload_n 0) 1 16 := ⟨by decide +kernel, rfl⟩
theorem o_decode_16 : InsA md_decode 16 (.getfield 21) 3 19 := ⟨by decide +kernel, rfl⟩
theorem o_decode_19 : InsB md_decode 19 (.if_icmp .ge 21) 3 22 (21) 40 := ⟨by decide +kernel, rfl, by decide, by decide⟩
theorem o_decode_22 : InsA md_decode 22 (.iload_n 3) 1 23 := ⟨by decide +kernel, rfl⟩
theorem o_decode_23 : InsB md_decode 23 (.ifCond .eq 17) 3 26 (17) 40 := ⟨by decide +kernel, rfl, by decide, by decide⟩
theorem o_decode_26 : InsA md_decode 26 (.iload_n 2) 1 27 := ⟨by decide +kernel, rfl⟩
theorem o_decode_27 : InsA md_decode 27 (.iload_n 3) 1 28 := ⟨by decide +kernel, rfl⟩
theorem o_decode_28 : InsA md_decode 28 (.ixor) 1 29 := ⟨by decide +kernel, rfl⟩
theorem o_decode_29 : InsA md_decode 29 (.istore_n 2) 1 30 := ⟨by decide +kernel, rfl⟩
theorem o_decode_30 : InsA md_decode 30 (.iload_n 3) 1 31 := ⟨by decide +kernel, rfl⟩
theorem o_decode_31 : InsA md_decode 31 (.iconst 1) 1 32 := ⟨by decide +kernel, rfl⟩
theorem o_decode_32 : InsA md_decode 32 (.iushr) 1 33 := ⟨by decide +kernel, rfl⟩
theorem o_decode_33 : InsA md_decode 33 (.istore_n 3) 1 34 := ⟨by decide +kernel, rfl⟩
theorem o_decode_34 : InsA md_decode 34 (.iinc 4 1) 3 37 := ⟨by decide +kernel, rfl⟩
theorem o_decode_37 : InsB md_decode 37 (.goto (-24)) 3 40 (-24) 13 := ⟨by decide +kernel, rfl, by decide, by decide⟩
theorem o_decode_40 : InsA md_decode 40 (.iload_n 2) 1 41 := ⟨by decide +kernel, rfl⟩
theorem o_decode_41 : InsA md_decode 41 (.ireturn) 1 42 := ⟨by decide +kernel, rfl⟩
abbrev md_readFillValue : MD := (⟨"CdcFifo", "readFillValue", "()I"⟩, prog_1_method_25_code, 2, some .int, { frames := 3, cells := 0, slots := 0, locals := 42 }, 0)
theorem cv_readFillValue {Z : State} {a0 : Array Value} (H : OK Z a0) : CalV Z a0 md_readFillValue 0 := ⟨pn_CdcFifo, by decide, pd___I, H.w 129 rfl, H.w 131 rfl, H.w 2 rfl, Or.inr ⟨H.w 130 rfl, 20, H.w 1 rfl⟩⟩
theorem o_readFillValue_0 : InsA md_readFillValue 0 (.aload_n 0) 1 1 := ⟨by decide +kernel, rfl⟩
theorem o_readFillValue_1 : InsA md_readFillValue 1 (.aload_n 0) 1 2 := ⟨by decide +kernel, rfl⟩
theorem o_readFillValue_2 : InsA md_readFillValue 2 (.getfield 75) 3 5 := ⟨by decide +kernel, rfl⟩
theorem o_readFillValue_5 : InsA md_readFillValue 5 (.invokevirtual 110) 3 8 := ⟨by decide +kernel, rfl⟩
theorem o_readFillValue_8 : InsA md_readFillValue 8 (.istore_n 1) 1 9 := ⟨by decide +kernel, rfl⟩
theorem o_readFillValue_9 : InsA md_readFillValue 9 (.aload_n 0) 1 10 := ⟨by decide +kernel, rfl⟩
theorem o_readFillValue_10 : InsA md_readFillValue 10 (.iload_n 1) 1 11 := ⟨by decide +kernel, rfl⟩
theorem o_readFillValue_11 : InsA md_readFillValue 11 (.aload_n 0) 1 12 := ⟨by decide +kernel, rfl⟩
theorem o_readFillValue_12 : InsA md_readFillValue 12 (.getfield 91) 3 15 := ⟨by decide +kernel, rfl⟩
theorem o_readFillValue_15 : InsA md_readFillValue 15 (.isub) 1 16 := ⟨by decide +kernel, rfl⟩
theorem o_readFillValue_16 : InsA md_readFillValue 16 (.invokevirtual 107) 3 19 := ⟨by decide +kernel, rfl⟩
theorem o_readFillValue_19 : InsA md_readFillValue 19 (.ireturn) 1 20 := ⟨by decide +kernel, rfl⟩
abbrev md_isFull : MD := (⟨"CdcFifo", "isFull", "()Z"⟩, prog_1_method_5_code, 1, some .boolean, { frames := 5, cells := 0, slots := 0, locals := 67 }, 0)
theorem cv_isFull {Z : State} {a0 : Array Value} (H : OK Z a0) : CalV Z a0 md_isFull 0 := ⟨pn_CdcFifo, by decide, pd___Z, H.w 134 rfl, H.w 136 rfl, H.w 2 rfl, Or.inl ⟨H.w 133 rfl, H.w 135 rfl⟩⟩
theorem o_isFull_0 : InsA md_isFull 0 (.aload_n 0) 1 1 := ⟨by decide +kernel, rfl⟩
theorem o_isFull_1 : InsA md_isFull 1 (.invokevirtual 33) 3 4 := ⟨by decide +kernel, rfl⟩
theorem o_isFull_4 : InsA md_isFull 4 (.ireturn) 1 5 := ⟨by decide +kernel, rfl⟩
abbrev md_fullNow : MD := (⟨"CdcFifo", "fullNow", "()Z"⟩, prog_1_method_27_code, 1, some .boolean, { frames := 4, cells := 0, slots := 0, locals := 55 }, 0)
theorem cv_fullNow {Z : State} {a0 : Array Value} (H : OK Z a0) : CalV Z a0 md_fullNow 0 := ⟨pn_CdcFifo, by decide, pd___Z, H.w 138 rfl, H.w 140 rfl, H.w 2 rfl, Or.inr ⟨H.w 139 rfl, 20, H.w 1 rfl⟩⟩
theorem o_fullNow_0 : InsA md_fullNow 0 (.aload_n 0) 1 1 := ⟨by decide +kernel, rfl⟩
theorem o_fullNow_1 : InsA md_fullNow 1 (.invokevirtual 53) 3 4 := ⟨by decide +kernel, rfl⟩
theorem o_fullNow_4 : InsA md_fullNow 4 (.aload_n 0) 1 5 := ⟨by decide +kernel, rfl⟩
theorem o_fullNow_5 : InsA md_fullNow 5 (.getfield 17) 3 8 := ⟨by decide +kernel, rfl⟩
theorem o_fullNow_8 : InsB md_fullNow 8 (.if_icmp .ne 7) 3 11 (7) 15 := ⟨by decide +kernel, rfl, by decide, by decide⟩
theorem o_fullNow_11 : InsA md_fullNow 11 (.iconst 1) 1 12 := ⟨by decide +kernel, rfl⟩
theorem o_fullNow_12 : InsB md_fullNow 12 (.goto 4) 3 15 (4) 16 := ⟨by decide +kernel, rfl, by decide, by decide⟩
theorem o_fullNow_15 : InsA md_fullNow 15 (.iconst 0) 1 16 := ⟨by decide +kernel, rfl⟩
theorem o_fullNow_16 : InsA md_fullNow 16 (.ireturn) 1 17 := ⟨by decide +kernel, rfl⟩
abbrev md_isEmpty : MD := (⟨"CdcFifo", "isEmpty", "()Z"⟩, prog_1_method_6_code, 1, some .boolean, { frames := 5, cells := 0, slots := 0, locals := 67 }, 0)
theorem cv_isEmpty {Z : State} {a0 : Array Value} (H : OK Z a0) : CalV Z a0 md_isEmpty 0 := ⟨pn_CdcFifo, by decide, pd___Z, H.w 143 rfl, H.w 145 rfl, H.w 2 rfl, Or.inl ⟨H.w 142 rfl, H.w 144 rfl⟩⟩
theorem o_isEmpty_0 : InsA md_isEmpty 0 (.aload_n 0) 1 1 := ⟨by decide +kernel, rfl⟩
theorem o_isEmpty_1 : InsA md_isEmpty 1 (.invokevirtual 44) 3 4 := ⟨by decide +kernel, rfl⟩
theorem o_isEmpty_4 : InsA md_isEmpty 4 (.ireturn) 1 5 := ⟨by decide +kernel, rfl⟩
abbrev md_emptyNow : MD := (⟨"CdcFifo", "emptyNow", "()Z"⟩, prog_1_method_28_code, 1, some .boolean, { frames := 4, cells := 0, slots := 0, locals := 55 }, 0)
theorem cv_emptyNow {Z : State} {a0 : Array Value} (H : OK Z a0) : CalV Z a0 md_emptyNow 0 := ⟨pn_CdcFifo, by decide, pd___Z, H.w 147 rfl, H.w 149 rfl, H.w 2 rfl, Or.inr ⟨H.w 148 rfl, 20, H.w 1 rfl⟩⟩
theorem o_emptyNow_0 : InsA md_emptyNow 0 (.aload_n 0) 1 1 := ⟨by decide +kernel, rfl⟩
theorem o_emptyNow_1 : InsA md_emptyNow 1 (.invokevirtual 57) 3 4 := ⟨by decide +kernel, rfl⟩
theorem o_emptyNow_4 : InsB md_emptyNow 4 (.ifCond .ne 7) 3 7 (7) 11 := ⟨by decide +kernel, rfl, by decide, by decide⟩
theorem o_emptyNow_7 : InsA md_emptyNow 7 (.iconst 1) 1 8 := ⟨by decide +kernel, rfl⟩
theorem o_emptyNow_8 : InsB md_emptyNow 8 (.goto 4) 3 11 (4) 12 := ⟨by decide +kernel, rfl, by decide, by decide⟩
theorem o_emptyNow_11 : InsA md_emptyNow 11 (.iconst 0) 1 12 := ⟨by decide +kernel, rfl⟩
theorem o_emptyNow_12 : InsA md_emptyNow 12 (.ireturn) 1 13 := ⟨by decide +kernel, rfl⟩
abbrev md_isAlmostFull : MD := (⟨"CdcFifo", "isAlmostFull", "()Z"⟩, prog_1_method_7_code, 1, some .boolean, { frames := 4, cells := 0, slots := 0, locals := 55 }, 0)
theorem cv_isAlmostFull {Z : State} {a0 : Array Value} (H : OK Z a0) : CalV Z a0 md_isAlmostFull 0 := ⟨pn_CdcFifo, by decide, pd___Z, H.w 152 rfl, H.w 154 rfl, H.w 2 rfl, Or.inl ⟨H.w 151 rfl, H.w 153 rfl⟩⟩
theorem o_isAlmostFull_0 : InsA md_isAlmostFull 0 (.aload_n 0) 1 1 := ⟨by decide +kernel, rfl⟩
theorem o_isAlmostFull_1 : InsA md_isAlmostFull 1 (.invokevirtual 53) 3 4 := ⟨by decide +kernel, rfl⟩
theorem o_isAlmostFull_4 : InsA md_isAlmostFull 4 (.aload_n 0) 1 5 := ⟨by decide +kernel, rfl⟩
theorem o_isAlmostFull_5 : InsA md_isAlmostFull 5 (.getfield 27) 3 8 := ⟨by decide +kernel, rfl⟩
theorem o_isAlmostFull_8 : InsB md_isAlmostFull 8 (.if_icmp .lt 7) 3 11 (7) 15 := ⟨by decide +kernel, rfl, by decide, by decide⟩
theorem o_isAlmostFull_11 : InsA md_isAlmostFull 11 (.iconst 1) 1 12 := ⟨by decide +kernel, rfl⟩
theorem o_isAlmostFull_12 : InsB md_isAlmostFull 12 (.goto 4) 3 15 (4) 16 := ⟨by decide +kernel, rfl, by decide, by decide⟩
theorem o_isAlmostFull_15 : InsA md_isAlmostFull 15 (.iconst 0) 1 16 := ⟨by decide +kernel, rfl⟩
theorem o_isAlmostFull_16 : InsA md_isAlmostFull 16 (.ireturn) 1 17 := ⟨by decide +kernel, rfl⟩
abbrev md_getUnread : MD := (⟨"CdcFifo", "getUnread", "(I)I"⟩, prog_1_method_13_code, 2, some .int, { frames := 3, cells := 0, slots := 0, locals := 39 }, 0)
theorem cv_getUnread {Z : State} {a0 : Array Value} (H : OK Z a0) : CalV Z a0 md_getUnread 1 := ⟨pn_CdcFifo, by decide, pd__I_I, H.w 157 rfl, H.w 159 rfl, H.w 2 rfl, Or.inl ⟨H.w 156 rfl, H.w 158 rfl⟩⟩
theorem o_getUnread_0 : InsA md_getUnread 0 (.iload_n 1) 1 1 := ⟨by decide +kernel, rfl⟩
theorem o_getUnread_1 : InsB md_getUnread 1 (.ifCond .ge 5) 3 4 (5) 6 := ⟨by decide +kernel, rfl, by decide, by decide⟩
theorem o_getUnread_4 : InsA md_getUnread 4 (.iconst 0) 1 5 := ⟨by decide +kernel, rfl⟩
theorem o_getUnread_5 : InsA md_getUnread 5 (.ireturn) 1 6 := ⟨by decide +kernel, rfl⟩
theorem o_getUnread_6 : InsA md_getUnread 6 (.iload_n 1) 1 7 := ⟨by decide +kernel, rfl⟩
theorem o_getUnread_7 : InsA md_getUnread 7 (.aload_n 0) 1 8 := ⟨by decide +kernel, rfl⟩
theorem o_getUnread_8 : InsA md_getUnread 8 (.invokevirtual 88) 3 11 := ⟨by decide +kernel, rfl⟩
theorem o_getUnread_11 : InsB md_getUnread 11 (.if_icmp .lt 5) 3 14 (5) 16 := ⟨by decide +kernel, rfl, by decide, by decide⟩
theorem o_getUnread_14 : InsA md_getUnread 14 (.iconst 0) 1 15 := ⟨by decide +kernel, rfl⟩
theorem o_getUnread_15 : InsA md_getUnread 15 (.ireturn) 1 16 := ⟨by decide +kernel, rfl⟩
theorem o_getUnread_16 : InsA md_getUnread 16 (.aload_n 0) 1 17 := ⟨by decide +kernel, rfl⟩
theorem o_getUnread_17 : InsA md_getUnread 17 (.aload_n 0) 1 18 := ⟨by decide +kernel, rfl⟩
theorem o_getUnread_18 : InsA md_getUnread 18 (.getfield 91) 3 21 := ⟨by decide +kernel, rfl⟩
theorem o_getUnread_21 : InsA md_getUnread 21 (.iload_n 1) 1 22 := ⟨by decide +kernel, rfl⟩
theorem o_getUnread_22 : InsA md_getUnread 22 (.iadd) 1 23 := ⟨by decide +kernel, rfl⟩
theorem o_getUnread_23 : InsA md_getUnread 23 (.invokevirtual 94) 3 26 := ⟨by decide +kernel, rfl⟩
theorem o_getUnread_26 : InsA md_getUnread 26 (.ireturn) 1 27 := ⟨by decide +kernel, rfl⟩
abbrev md_writeEdge : MD := (⟨"CdcFifo", "writeEdge", "(ZII)I"⟩, prog_1_method_2_code, 5, some .int, { frames := 5, cells := 0, slots := 0, locals := 67 }, 0)
theorem cv_writeEdge {Z : State} {a0 : Array Value} (H : OK Z a0) : CalV Z a0 md_writeEdge 3 := ⟨pn_CdcFifo, by decide, pd__ZII_I, H.w 162 rfl, H.w 164 rfl, H.w 2 rfl, Or.inl ⟨H.w 161 rfl, H.w 163 rfl⟩⟩
theorem o_writeEdge_0 : InsA md_writeEdge 0 (.aload_n 0) 1 1 := ⟨by decide +kernel, rfl⟩
theorem o_writeEdge_1 : InsA md_writeEdge 1 (.invokevirtual 33) 3 4 := ⟨by decide +kernel, rfl⟩
theorem o_writeEdge_4 : InsA md_writeEdge 4 (.istore 4) 2 6 := ⟨by decide +kernel, rfl⟩
theorem o_writeEdge_6 : InsA md_writeEdge 6 (.aload_n 0) 1 7 := ⟨by decide +kernel, rfl⟩
theorem o_writeEdge_7 : InsA md_writeEdge 7 (.iload_n 3) 1 8 := ⟨by decide +kernel, rfl⟩
theorem o_writeEdge_8 : InsA md_writeEdge 8 (.invokevirtual 37) 3 11 := ⟨by decide +kernel, rfl⟩
theorem o_writeEdge_11 : InsA md_writeEdge 11 (.iload_n 1) 1 12 := ⟨by decide +kernel, rfl⟩
theorem o_writeEdge_12 : InsB md_writeEdge 12 (.ifCond .ne 5) 3 15 (5) 17 := ⟨by decide +kernel, rfl, by decide, by decide⟩
theorem o_writeEdge_15 : InsA md_writeEdge 15 (.iconst 0) 1 16 := ⟨by decide +kernel, rfl⟩
theorem o_writeEdge_16 : InsA md_writeEdge 16 (.ireturn) 1 17 := ⟨by decide +kernel, rfl⟩
theorem o_writeEdge_17 : InsA md_writeEdge 17 (.iload 4) 2 19 := ⟨by decide +kernel, rfl⟩
theorem o_writeEdge_19 : InsB md_writeEdge 19 (.ifCond .eq 5) 3 22 (5) 24 := ⟨by decide +kernel, rfl, by decide, by decide⟩
theorem o_writeEdge_22 : InsA md_writeEdge 22 (.iconst 2) 1 23 := ⟨by decide +kernel, rfl⟩
theorem o_writeEdge_23 : InsA md_writeEdge 23 (.ireturn) 1 24 := ⟨by decide +kernel, rfl⟩
theorem o_writeEdge_24 : InsA md_writeEdge 24 (.aload_n 0) 1 25 := ⟨by decide +kernel, rfl⟩
theorem o_writeEdge_25 : InsA md_writeEdge 25 (.iload_n 2) 1 26 := ⟨by decide +kernel, rfl⟩
theorem o_writeEdge_26 : InsA md_writeEdge 26 (.invokevirtual 41) 3 29 := ⟨by decide +kernel, rfl⟩
theorem o_writeEdge_29 : InsA md_writeEdge 29 (.iconst 1) 1 30 := ⟨by decide +kernel, rfl⟩
theorem o_writeEdge_30 : InsA md_writeEdge 30 (.ireturn) 1 31 := ⟨by decide +kernel, rfl⟩
abbrev md_shiftWriteSync : MD := (⟨"CdcFifo", "shiftWriteSync", "(I)V"⟩, prog_1_method_29_code, 2, none, { frames := 3, cells := 0, slots := 0, locals := 44 }, 0)
theorem cv_shiftWriteSync {Z : State} {a0 : Array Value} (H : OK Z a0) : CalV Z a0 md_shiftWriteSync 1 := ⟨pn_CdcFifo, by decide, pd__I_V, H.w 166 rfl, H.w 168 rfl, H.w 2 rfl, Or.inr ⟨H.w 167 rfl, 20, H.w 1 rfl⟩⟩
theorem o_shiftWriteSync_0 : InsA md_shiftWriteSync 0 (.aload_n 0) 1 1 := ⟨by decide +kernel, rfl⟩
theorem o_shiftWriteSync_1 : InsA md_shiftWriteSync 1 (.aload_n 0) 1 2 := ⟨by decide +kernel, rfl⟩
theorem o_shiftWriteSync_2 : InsA md_shiftWriteSync 2 (.getfield 66) 3 5 := ⟨by decide +kernel, rfl⟩
theorem o_shiftWriteSync_5 : InsA md_shiftWriteSync 5 (.putfield 69) 3 8 := ⟨by decide +kernel, rfl⟩
theorem o_shiftWriteSync_8 : InsA md_shiftWriteSync 8 (.aload_n 0) 1 9 := ⟨by decide +kernel, rfl⟩
theorem o_shiftWriteSync_9 : InsA md_shiftWriteSync 9 (.aload_n 0) 1 10 := ⟨by decide +kernel, rfl⟩
theorem o_shiftWriteSync_10 : InsA md_shiftWriteSync 10 (.aload_n 0) 1 11 := ⟨by decide +kernel, rfl⟩
theorem o_shiftWriteSync_11 : InsA md_shiftWriteSync 11 (.getfield 63) 3 14 := ⟨by decide +kernel, rfl⟩
theorem o_shiftWriteSync_14 : InsA md_shiftWriteSync 14 (.aload_n 0) 1 15 := ⟨by decide +kernel, rfl⟩
theorem o_shiftWriteSync_15 : InsA md_shiftWriteSync 15 (.getfield 116) 3 18 := ⟨by decide +kernel, rfl⟩
theorem o_shiftWriteSync_18 : InsA md_shiftWriteSync 18 (.aload_n 0) 1 19 := ⟨by decide +kernel, rfl⟩
theorem o_shiftWriteSync_19 : InsA md_shiftWriteSync 19 (.getfield 82) 3 22 := ⟨by decide +kernel, rfl⟩
theorem o_shiftWriteSync_22 : InsA md_shiftWriteSync 22 (.iload_n 1) 1 23 := ⟨by decide +kernel, rfl⟩
theorem o_shiftWriteSync_23 : InsA md_shiftWriteSync 23 (.invokevirtual 119) 3 26 := ⟨by decide +kernel, rfl⟩
theorem o_shiftWriteSync_26 : InsA md_shiftWriteSync 26 (.putfield 66) 3 29 := ⟨by decide +kernel, rfl⟩
theorem o_shiftWriteSync_29 : InsA md_shiftWriteSync 29 (.aload_n 0) 1 30 := ⟨by decide +kernel, rfl⟩
theorem o_shiftWriteSync_30 : InsA md_shiftWriteSync 30 (.iconst 0) 1 31 := ⟨by decide +kernel, rfl⟩
theorem o_shiftWriteSync_31 : InsA md_shiftWriteSync 31 (.putfield 82) 3 34 := ⟨by decide +kernel, rfl⟩
theorem o_shiftWriteSync_34 : InsA md_shiftWriteSync 34 (.return_) 1 35 := ⟨by decide +kernel, rfl⟩
abbrev md_sample : MD := (⟨"CdcFifo", "sample", "(IIZI)I"⟩, prog_1_method_23_code, 6, some .int, { frames := 2, cells := 0, slots := 0, locals := 26 }, 0)
theorem al_sample (x0 : Int32) (x1 : Int32) (x2 : Int32) (x3 : Int32) : (argsToLocals [.ref 0, .int x0, .int x1, .int x2, .int x3].toArray (mxOf md_sample)).toList = [.val (.ref 0), .val (.int x0), .val (.int x1), .val (.int x2), .val (.int x3), .unset] := (Jvm.Sym.argsToLocals_toList _ _).trans rfl
theorem cv_sample {Z : State} {a0 : Array Value} (H : OK Z a0) : CalV Z a0 md_sample 4 := ⟨pn_CdcFifo, by decide, pd__IIZI_I, H.w 170 rfl, H.w 172 rfl, H.w 2 rfl, Or.inr ⟨H.w 171 rfl, 20, H.w 1 rfl⟩⟩
theorem o_sample_0 : InsA md_sample 0 (.iload_n 3) 1 1 := ⟨by decide +kernel, rfl⟩
theorem o_sample_1 : InsB md_sample 1 (.ifCond .ne 5) 3 4 (5) 6 := ⟨by decide +kernel, rfl, by decide, by decide⟩
theorem o_sample_4 : InsA md_sample 4 (.iload_n 1) 1 5 := ⟨by decide +kernel, rfl⟩
theorem o_sample_5 : InsA md_sample 5 (.ireturn) 1 6 := ⟨by decide +kernel, rfl⟩
theorem o_sample_6 : InsA md_sample 6 (.iload_n 2) 1 7 := ⟨by decide +kernel, rfl⟩
theorem o_sample_7 : InsA md_sample 7 (.iload_n 1) 1 8 := ⟨by decide +kernel, rfl⟩
theorem o_sample_8 : InsA md_sample 8 (.ixor) 1 9 := ⟨by decide +kernel, rfl⟩
theorem o_sample_9 : InsA md_sample 9 (.iload 4) 2 11 := ⟨by decide +kernel, rfl⟩
theorem o_sample_11 : InsA md_sample 11 (.iand) 1 12 := ⟨by decide +kernel, rfl⟩
theorem o_sample_12 : InsA md_sample 12 (.aload_n 0) 1 13 := ⟨by decide +kernel, rfl⟩
theorem o_sample_13 : InsA md_sample 13 (.invokevirtual 104) 3 16 := ⟨by decide +kernel, rfl⟩
theorem o_sample_16 : InsA md_sample 16 (.iand) 1 17 := ⟨by decide +kernel, rfl⟩
theorem o_sample_17 : InsA md_sample 17 (.istore 5) 2 19 := ⟨by decide +kernel, rfl⟩
theorem o_sample_19 : InsA md_sample 19 (.aload_n 0) 1 20 := ⟨by decide +kernel, rfl⟩
theorem o_sample_20 : InsA md_sample 20 (.iload_n 1) 1 21 := ⟨by decide +kernel, rfl⟩
theorem o_sample_21 : InsA md_sample 21 (.iload 5) 2 23 := ⟨by decide +kernel, rfl⟩
theorem o_sample_23 : InsA md_sample 23 (.ixor) 1 24 := ⟨by decide +kernel, rfl⟩
theorem o_sample_24 : InsA md_sample 24 (.invokevirtual 107) 3 27 := ⟨by decide +kernel, rfl⟩
theorem o_sample_27 : InsA md_sample 27 (.ireturn) 1 28 := ⟨by decide +kernel, rfl⟩
abbrev md_acceptWrite : MD := (⟨"CdcFifo", "acceptWrite", "(I)V"⟩, prog_1_method_31_code, 2, none, { frames := 3, cells := 0, slots := 0, locals := 41 }, 0)
theorem cv_acceptWrite {Z : State} {a0 : Array Value} (H : OK Z a0) : CalV Z a0 md_acceptWrite 1 := ⟨pn_CdcFifo, by decide, pd__I_V, H.w 174 rfl, H.w 176 rfl, H.w 2 rfl, Or.inr ⟨H.w 175 rfl, 20, H.w 1 rfl⟩⟩
theorem o_acceptWrite_0 : InsA md_acceptWrite 0 (.aload_n 0) 1 1 := ⟨by decide +kernel, rfl⟩
theorem o_acceptWrite_1 : InsA md_acceptWrite 1 (.aload_n 0) 1 2 := ⟨by decide +kernel, rfl⟩
theorem o_acceptWrite_2 : InsA md_acceptWrite 2 (.getfield 113) 3 5 := ⟨by decide +kernel, rfl⟩
theorem o_acceptWrite_5 : InsA md_acceptWrite 5 (.iload_n 1) 1 6 := ⟨by decide +kernel, rfl⟩
theorem o_acceptWrite_6 : InsA md_acceptWrite 6 (.invokevirtual 126) 3 9 := ⟨by decide +kernel, rfl⟩
theorem o_acceptWrite_9 : InsA md_acceptWrite 9 (.aload_n 0) 1 10 := ⟨by decide +kernel, rfl⟩
theorem o_acceptWrite_10 : InsA md_acceptWrite 10 (.aload_n 0) 1 11 := ⟨by decide +kernel, rfl⟩
theorem o_acceptWrite_11 : InsA md_acceptWrite 11 (.getfield 60) 3 14 := ⟨by decide +kernel, rfl⟩
theorem o_acceptWrite_14 : InsA md_acceptWrite 14 (.putfield 123) 3 17 := ⟨by decide +kernel, rfl⟩
theorem o_acceptWrite_17 : InsA md_acceptWrite 17 (.aload_n 0) 1 18 := ⟨by decide +kernel, rfl⟩
theorem o_acceptWrite_18 : InsA md_acceptWrite 18 (.aload_n 0) 1 19 := ⟨by decide +kernel, rfl⟩
theorem o_acceptWrite_19 : InsA md_acceptWrite 19 (.aload_n 0) 1 20 := ⟨by decide +kernel, rfl⟩
theorem o_acceptWrite_20 : InsA md_acceptWrite 20 (.getfield 113) 3 23 := ⟨by decide +kernel, rfl⟩
theorem o_acceptWrite_23 : InsA md_acceptWrite 23 (.iconst 1) 1 24 := ⟨by decide +kernel, rfl⟩
theorem o_acceptWrite_24 : InsA md_acceptWrite 24 (.iadd) 1 25 := ⟨by decide +kernel, rfl⟩
theorem o_acceptWrite_25 : InsA md_acceptWrite 25 (.invokevirtual 107) 3 28 := ⟨by decide +kernel, rfl⟩
theorem o_acceptWrite_28 : InsA md_acceptWrite 28 (.putfield 113) 3 31 := ⟨by decide +kernel, rfl⟩
theorem o_acceptWrite_31 : InsA md_acceptWrite 31 (.aload_n 0) 1 32 := ⟨by decide +kernel, rfl⟩
theorem o_acceptWrite_32 : InsA md_acceptWrite 32 (.aload_n 0) 1 33 := ⟨by decide +kernel, rfl⟩
theorem o_acceptWrite_33 : InsA md_acceptWrite 33 (.aload_n 0) 1 34 := ⟨by decide +kernel, rfl⟩
theorem o_acceptWrite_34 : InsA md_acceptWrite 34 (.getfield 113) 3 37 := ⟨by decide +kernel, rfl⟩
theorem o_acceptWrite_37 : InsA md_acceptWrite 37 (.invokevirtual 130) 3 40 := ⟨by decide +kernel, rfl⟩
theorem o_acceptWrite_40 : InsA md_acceptWrite 40 (.putfield 60) 3 43 := ⟨by decide +kernel, rfl⟩
theorem o_acceptWrite_43 : InsA md_acceptWrite 43 (.aload_n 0) 1 44 := ⟨by decide +kernel, rfl⟩
theorem o_acceptWrite_44 : InsA md_acceptWrite 44 (.iconst 1) 1 45 := ⟨by decide +kernel, rfl⟩
theorem o_acceptWrite_45 : InsA md_acceptWrite 45 (.putfield 78) 3 48 := ⟨by decide +kernel, rfl⟩
theorem o_acceptWrite_48 : InsA md_acceptWrite 48 (.aload_n 0) 1 49 := ⟨by decide +kernel, rfl⟩
theorem o_acceptWrite_49 : InsA md_acceptWrite 49 (.aload_n 0) 1 50 := ⟨by decide +kernel, rfl⟩
theorem o_acceptWrite_50 : InsA md_acceptWrite 50 (.getfield 98) 3 53 := ⟨by decide +kernel, rfl⟩
theorem o_acceptWrite_53 : InsA md_acceptWrite 53 (.iconst 1) 1 54 := ⟨by decide +kernel, rfl⟩
theorem o_acceptWrite_54 : InsA md_acceptWrite 54 (.iadd) 1 55 := ⟨by decide +kernel, rfl⟩
theorem o_acceptWrite_55 : InsA md_acceptWrite 55 (.putfield 98) 3 58 := ⟨by decide +kernel, rfl⟩
theorem o_acceptWrite_58 : InsA md_acceptWrite 58 (.return_) 1 59 := ⟨by decide +kernel, rfl⟩
abbrev md_writeCell : MD := (⟨"CdcFifo", "writeCell", "(II)V"⟩, prog_1_method_33_code, 4, none, { frames := 1, cells := 0, slots := 0, locals := 13 }, 0)
theorem cv_writeCell {Z : State} {a0 : Array Value} (H : OK Z a0) : CalV Z a0 md_writeCell 2 := ⟨pn_CdcFifo, by decide, pd__II_V, H.w 178 rfl, H.w 180 rfl, H.w 2 rfl, Or.inr ⟨H.w 179 rfl, 20, H.w 1 rfl⟩⟩
theorem o_writeCell_0 : InsA md_writeCell 0 (.aload_n 0) 1 1 := ⟨by decide +kernel, rfl⟩
theorem o_writeCell_1 : InsA md_writeCell 1 (.iload_n 1) 1 2 := ⟨by decide +kernel, rfl⟩
theorem o_writeCell_2 : InsA md_writeCell 2 (.invokevirtual 133) 3 5 := ⟨by decide +kernel, rfl⟩
theorem o_writeCell_5 : InsA md_writeCell 5 (.istore_n 3) 1 6 := ⟨by decide +kernel, rfl⟩
theorem o_writeCell_6 : InsA md_writeCell 6 (.iload_n 3) 1 7 := ⟨by decide +kernel, rfl⟩
theorem o_writeCell_7 : InsB md_writeCell 7 (.ifCond .lt 16) 3 10 (16) 23 := ⟨by decide +kernel, rfl, by decide, by decide⟩
theorem o_writeCell_10 : InsA md_writeCell 10 (.iload_n 3) 1 11 := ⟨by decide +kernel, rfl⟩
theorem o_writeCell_11 : InsA md_writeCell 11 (.bipush 16) 2 13 := ⟨by decide +kernel, rfl⟩
theorem o_writeCell_13 : InsB md_writeCell 13 (.if_icmp .ge 10) 3 16 (10) 23 := ⟨by decide +kernel, rfl, by decide, by decide⟩
theorem o_writeCell_16 : InsA md_writeCell 16 (.aload_n 0) 1 17 := ⟨by decide +kernel, rfl⟩
theorem o_writeCell_17 : InsA md_writeCell 17 (.getfield 7) 3 20 := ⟨by decide +kernel, rfl⟩
theorem o_writeCell_20 : InsA md_writeCell 20 (.iload_n 3) 1 21 := ⟨by decide +kernel, rfl⟩
theorem o_writeCell_21 : InsA md_writeCell 21 (.iload_n 2) 1 22 := ⟨by decide +kernel, rfl⟩
theorem o_writeCell_22 : InsA md_writeCell 22 (.iastore) 1 23 := ⟨by decide +kernel, rfl⟩
theorem o_writeCell_23 : InsA md_writeCell 23 (.return_) 1 24 := ⟨by decide +kernel, rfl⟩
abbrev md_slotOf : MD := (⟨"CdcFifo", "slotOf", "(I)I"⟩, prog_1_method_20_code, 2, some .int, { frames := 0, cells := 0, slots := 0, locals := 0 }, 0)
theorem cv_slotOf {Z : State} {a0 : Array Value} (H : OK Z a0) : CalV Z a0 md_slotOf 1 := ⟨pn_CdcFifo, by decide, pd__I_I, H.w 182 rfl, H.w 184 rfl, H.w 2 rfl, Or.inr ⟨H.w 183 rfl, 20, H.w 1 rfl⟩⟩
theorem o_slotOf_0 : InsA md_slotOf 0 (.iload_n 1) 1 1 := ⟨by decide +kernel, rfl⟩
theorem o_slotOf_1 : InsA md_slotOf 1 (.aload_n 0) 1 2 := ⟨by decide +kernel, rfl⟩
theorem o_slotOf_2 : InsA md_slotOf 2 (.getfield 17) 3 5 := ⟨by decide +kernel, rfl⟩
theorem o_slotOf_5 : InsA md_slotOf 5 (.iconst 1) 1 6 := ⟨by decide +kernel, rfl⟩
theorem o_slotOf_6 : InsA md_slotOf 6 (.isub) 1 7 := ⟨by decide +kernel, rfl⟩
theorem o_slotOf_7 : InsA md_slotOf 7 (.iand) 1 8 := ⟨by decide +kernel, rfl⟩
theorem o_slotOf_8 : InsA md_slotOf 8 (.ireturn) 1 9 := ⟨by decide +kernel, rfl⟩
abbrev md_gray : MD := (⟨"CdcFifo", "gray", "(I)I"⟩, prog_1_method_21_code, 3, some .int, { frames := 2, cells := 0, slots := 0, locals := 26 }, 0)
theorem cv_gray {Z : State} {a0 : Array Value} (H : OK Z a0) : CalV Z a0 md_gray 1 := ⟨pn_CdcFifo, by decide, pd__I_I, H.w 186 rfl, H.w 188 rfl, H.w 2 rfl, Or.inr ⟨H.w 187 rfl, 20, H.w 1 rfl⟩⟩
theorem o_gray_0 : InsA md_gray 0 (.aload_n 0) 1 1 := ⟨by decide +kernel, rfl⟩
theorem o_gray_1 : InsA md_gray 1 (.iload_n 1) 1 2 := ⟨by decide +kernel, rfl⟩
theorem o_gray_2 : InsA md_gray 2 (.invokevirtual 107) 3 5 := ⟨by decide +kernel, rfl⟩
theorem o_gray_5 : InsA md_gray 5 (.istore_n 2) 1 6 := ⟨by decide +kernel, rfl⟩
theorem o_gray_6 : InsA md_gray 6 (.iload_n 2) 1 7 := ⟨by decide +kernel, rfl⟩
theorem o_gray_7 : InsA md_gray 7 (.iload_n 2) 1 8 := ⟨by decide +kernel, rfl⟩
theorem o_gray_8 : InsA md_gray 8 (.iconst 1) 1 9 := ⟨by decide +kernel, rfl⟩
theorem o_gray_9 : InsA md_gray 9 (.iushr) 1 10 := ⟨by decide +kernel, rfl⟩
theorem o_gray_10 : InsA md_gray 10 (.ixor) 1 11 := ⟨by decide +kernel, rfl⟩
theorem o_gray_11 : InsA md_gray 11 (.ireturn) 1 12 := ⟨by decide +kernel, rfl⟩
abbrev md_readCell : MD := (⟨"CdcFifo", "readCell", "(I)I"⟩, prog_1_method_34_code, 3, some .int, { frames := 1, cells := 0, slots := 0, locals := 13 }, 0)
theorem cv_readCell {Z : State} {a0 : Array Value} (H : OK Z a0) : CalV Z a0 md_readCell 1 := ⟨pn_CdcFifo, by decide, pd__I_I, H.w 190 rfl, H.w 192 rfl, H.w 2 rfl, Or.inr ⟨H.w 191 rfl, 20, H.w 1 rfl⟩⟩
theorem o_readCell_0 : InsA md_readCell 0 (.aload_n 0) 1 1 := ⟨by decide +kernel, rfl⟩
theorem o_readCell_1 : InsA md_readCell 1 (.iload_n 1) 1 2 := ⟨by decide +kernel, rfl⟩
theorem o_readCell_2 : InsA md_readCell 2 (.invokevirtual 133) 3 5 := ⟨by decide +kernel, rfl⟩
theorem o_readCell_5 : InsA md_readCell 5 (.istore_n 2) 1 6 := ⟨by decide +kernel, rfl⟩
theorem o_readCell_6 : InsA md_readCell 6 (.iload_n 2) 1 7 := ⟨by decide +kernel, rfl⟩
theorem o_readCell_7 : InsB md_readCell 7 (.ifCond .lt 16) 3 10 (16) 23 := ⟨by decide +kernel, rfl, by decide, by decide⟩
theorem o_readCell_10 : InsA md_readCell 10 (.iload_n 2) 1 11 := ⟨by decide +kernel, rfl⟩
theorem o_readCell_11 : InsA md_readCell 11 (.bipush 16) 2 13 := ⟨by decide +kernel, rfl⟩
theorem o_readCell_13 : InsB md_readCell 13 (.if_icmp .ge 10) 3 16 (10) 23 := ⟨by decide +kernel, rfl, by decide, by decide⟩
theorem o_readCell_16 : InsA md_readCell 16 (.aload_n 0) 1 17 := ⟨by decide +kernel, rfl⟩
theorem o_readCell_17 : InsA md_readCell 17 (.getfield 7) 3 20 := ⟨by decide +kernel, rfl⟩
theorem o_readCell_20 : InsA md_readCell 20 (.iload_n 2) 1 21 := ⟨by decide +kernel, rfl⟩
theorem o_readCell_21 : InsA md_readCell 21 (.iaload) 1 22 := ⟨by decide +kernel, rfl⟩
theorem o_readCell_22 : InsA md_readCell 22 (.ireturn) 1 23 := ⟨by decide +kernel, rfl⟩
theorem o_readCell_23 : InsA md_readCell 23 (.iconst 0) 1 24 := ⟨by decide +kernel, rfl⟩
theorem o_readCell_24 : InsA md_readCell 24 (.ireturn) 1 25 := ⟨by decide +kernel, rfl⟩
abbrev md_readEdge : MD := (⟨"CdcFifo", "readEdge", "(ZI)I"⟩, prog_1_method_3_code, 4, some .int, { frames := 5, cells := 0, slots := 0, locals := 67 }, 0)
theorem cv_readEdge {Z : State} {a0 : Array Value} (H : OK Z a0) : CalV Z a0 md_readEdge 2 := ⟨pn_CdcFifo, by decide, pd__ZI_I, H.w 195 rfl, H.w 197 rfl, H.w 2 rfl, Or.inl ⟨H.w 194 rfl, H.w 196 rfl⟩⟩
theorem o_readEdge_0 : InsA md_readEdge 0 (.aload_n 0) 1 1 := ⟨by decide +kernel, rfl⟩
theorem o_readEdge_1 : InsA md_readEdge 1 (.invokevirtual 44) 3 4 := ⟨by decide +kernel, rfl⟩
theorem o_readEdge_4 : InsA md_readEdge 4 (.istore_n 3) 1 5 := ⟨by decide +kernel, rfl⟩
theorem o_readEdge_5 : InsA md_readEdge 5 (.aload_n 0) 1 6 := ⟨by decide +kernel, rfl⟩
theorem o_readEdge_6 : InsA md_readEdge 6 (.iload_n 2) 1 7 := ⟨by decide +kernel, rfl⟩
theorem o_readEdge_7 : InsA md_readEdge 7 (.invokevirtual 47) 3 10 := ⟨by decide +kernel, rfl⟩
theorem o_readEdge_10 : InsA md_readEdge 10 (.iload_n 1) 1 11 := ⟨by decide +kernel, rfl⟩
theorem o_readEdge_11 : InsB md_readEdge 11 (.ifCond .ne 5) 3 14 (5) 16 := ⟨by decide +kernel, rfl, by decide, by decide⟩
theorem o_readEdge_14 : InsA md_readEdge 14 (.iconst 0) 1 15 := ⟨by decide +kernel, rfl⟩
theorem o_readEdge_15 : InsA md_readEdge 15 (.ireturn) 1 16 := ⟨by decide +kernel, rfl⟩
theorem o_readEdge_16 : InsA md_readEdge 16 (.iload_n 3) 1 17 := ⟨by decide +kernel, rfl⟩
theorem o_readEdge_17 : InsB md_readEdge 17 (.ifCond .eq 5) 3 20 (5) 22 := ⟨by decide +kernel, rfl, by decide, by decide⟩
theorem o_readEdge_20 : InsA md_readEdge 20 (.iconst 4) 1 21 := ⟨by decide +kernel, rfl⟩
theorem o_readEdge_21 : InsA md_readEdge 21 (.ireturn) 1 22 := ⟨by decide +kernel, rfl⟩
theorem o_readEdge_22 : InsA md_readEdge 22 (.aload_n 0) 1 23 := ⟨by decide +kernel, rfl⟩
theorem o_readEdge_23 : InsA md_readEdge 23 (.invokevirtual 50) 3 26 := ⟨by decide +kernel, rfl⟩
theorem o_readEdge_26 : InsA md_readEdge 26 (.iconst 3) 1 27 := ⟨by decide +kernel, rfl⟩
theorem o_readEdge_27 : InsA md_readEdge 27 (.ireturn) 1 28 := ⟨by decide +kernel, rfl⟩
abbrev md_shiftReadSync : MD := (⟨"CdcFifo", "shiftReadSync", "(I)V"⟩, prog_1_method_30_code, 2, none, { frames := 3, cells := 0, slots := 0, locals := 44 }, 0)
theorem cv_shiftReadSync {Z : State} {a0 : Array Value} (H : OK Z a0) : CalV Z a0 md_shiftReadSync 1 := ⟨pn_CdcFifo, by decide, pd__I_V, H.w 199 rfl, H.w 201 rfl, H.w 2 rfl, Or.inr ⟨H.w 200 rfl, 20, H.w 1 rfl⟩⟩
theorem o_shiftReadSync_0 : InsA md_shiftReadSync 0 (.aload_n 0) 1 1 := ⟨by decide +kernel, rfl⟩
theorem o_shiftReadSync_1 : InsA md_shiftReadSync 1 (.aload_n 0) 1 2 := ⟨by decide +kernel, rfl⟩
theorem o_shiftReadSync_2 : InsA md_shiftReadSync 2 (.getfield 72) 3 5 := ⟨by decide +kernel, rfl⟩
theorem o_shiftReadSync_5 : InsA md_shiftReadSync 5 (.putfield 75) 3 8 := ⟨by decide +kernel, rfl⟩
theorem o_shiftReadSync_8 : InsA md_shiftReadSync 8 (.aload_n 0) 1 9 := ⟨by decide +kernel, rfl⟩
theorem o_shiftReadSync_9 : InsA md_shiftReadSync 9 (.aload_n 0) 1 10 := ⟨by decide +kernel, rfl⟩
theorem o_shiftReadSync_10 : InsA md_shiftReadSync 10 (.aload_n 0) 1 11 := ⟨by decide +kernel, rfl⟩
theorem o_shiftReadSync_11 : InsA md_shiftReadSync 11 (.getfield 60) 3 14 := ⟨by decide +kernel, rfl⟩
theorem o_shiftReadSync_14 : InsA md_shiftReadSync 14 (.aload_n 0) 1 15 := ⟨by decide +kernel, rfl⟩
theorem o_shiftReadSync_15 : InsA md_shiftReadSync 15 (.getfield 123) 3 18 := ⟨by decide +kernel, rfl⟩
theorem o_shiftReadSync_18 : InsA md_shiftReadSync 18 (.aload_n 0) 1 19 := ⟨by decide +kernel, rfl⟩
theorem o_shiftReadSync_19 : InsA md_shiftReadSync 19 (.getfield 78) 3 22 := ⟨by decide +kernel, rfl⟩
theorem o_shiftReadSync_22 : InsA md_shiftReadSync 22 (.iload_n 1) 1 23 := ⟨by decide +kernel, rfl⟩
theorem o_shiftReadSync_23 : InsA md_shiftReadSync 23 (.invokevirtual 119) 3 26 := ⟨by decide +kernel, rfl⟩
theorem o_shiftReadSync_26 : InsA md_shiftReadSync 26 (.putfield 72) 3 29 := ⟨by decide +kernel, rfl⟩
theorem o_shiftReadSync_29 : InsA md_shiftReadSync 29 (.aload_n 0) 1 30 := ⟨by decide +kernel, rfl⟩
theorem o_shiftReadSync_30 : InsA md_shiftReadSync 30 (.iconst 0) 1 31 := ⟨by decide +kernel, rfl⟩
theorem o_shiftReadSync_31 : InsA md_shiftReadSync 31 (.putfield 78) 3 34 := ⟨by decide +kernel, rfl⟩
theorem o_shiftReadSync_34 : InsA md_shiftReadSync 34 (.return_) 1 35 := ⟨by decide +kernel, rfl⟩
abbrev md_popRead : MD := (⟨"CdcFifo", "popRead", "()V"⟩, prog_1_method_32_code, 1, none, { frames := 3, cells := 0, slots := 0, locals := 41 }, 0)
theorem cv_popRead {Z : State} {a0 : Array Value} (H : OK Z a0) : CalV Z a0 md_popRead 0 := ⟨pn_CdcFifo, by decide, pd___V, H.w 203 rfl, H.w 205 rfl, H.w 2 rfl, Or.inr ⟨H.w 204 rfl, 20, H.w 1 rfl⟩⟩
theorem o_popRead_0 : InsA md_popRead 0 (.aload_n 0) 1 1 := ⟨by decide +kernel, rfl⟩
theorem o_popRead_1 : InsA md_popRead 1 (.aload_n 0) 1 2 := ⟨by decide +kernel, rfl⟩
theorem o_popRead_2 : InsA md_popRead 2 (.aload_n 0) 1 3 := ⟨by decide +kernel, rfl⟩
theorem o_popRead_3 : InsA md_popRead 3 (.getfield 91) 3 6 := ⟨by decide +kernel, rfl⟩
theorem o_popRead_6 : InsA md_popRead 6 (.invokevirtual 94) 3 9 := ⟨by decide +kernel, rfl⟩
theorem o_popRead_9 : InsA md_popRead 9 (.putfield 85) 3 12 := ⟨by decide +kernel, rfl⟩
theorem o_popRead_12 : InsA md_popRead 12 (.aload_n 0) 1 13 := ⟨by decide +kernel, rfl⟩
theorem o_popRead_13 : InsA md_popRead 13 (.aload_n 0) 1 14 := ⟨by decide +kernel, rfl⟩
theorem o_popRead_14 : InsA md_popRead 14 (.getfield 63) 3 17 := ⟨by decide +kernel, rfl⟩
theorem o_popRead_17 : InsA md_popRead 17 (.putfield 116) 3 20 := ⟨by decide +kernel, rfl⟩
theorem o_popRead_20 : InsA md_popRead 20 (.aload_n 0) 1 21 := ⟨by decide +kernel, rfl⟩
theorem o_popRead_21 : InsA md_popRead 21 (.aload_n 0) 1 22 := ⟨by decide +kernel, rfl⟩
theorem o_popRead_22 : InsA md_popRead 22 (.aload_n 0) 1 23 := ⟨by decide +kernel, rfl⟩
theorem o_popRead_23 : InsA md_popRead 23 (.getfield 91) 3 26 := ⟨by decide +kernel, rfl⟩
theorem o_popRead_26 : InsA md_popRead 26 (.iconst 1) 1 27 := ⟨by decide +kernel, rfl⟩
theorem o_popRead_27 : InsA md_popRead 27 (.iadd) 1 28 := ⟨by decide +kernel, rfl⟩
theorem o_popRead_28 : InsA md_popRead 28 (.invokevirtual 107) 3 31 := ⟨by decide +kernel, rfl⟩
theorem o_popRead_31 : InsA md_popRead 31 (.putfield 91) 3 34 := ⟨by decide +kernel, rfl⟩
theorem o_popRead_34 : InsA md_popRead 34 (.aload_n 0) 1 35 := ⟨by decide +kernel, rfl⟩
theorem o_popRead_35 : InsA md_popRead 35 (.aload_n 0) 1 36 := ⟨by decide +kernel, rfl⟩
theorem o_popRead_36 : InsA md_popRead 36 (.aload_n 0) 1 37 := ⟨by decide +kernel, rfl⟩
theorem o_popRead_37 : InsA md_popRead 37 (.getfield 91) 3 40 := ⟨by decide +kernel, rfl⟩
theorem o_popRead_40 : InsA md_popRead 40 (.invokevirtual 130) 3 43 := ⟨by decide +kernel, rfl⟩
theorem o_popRead_43 : InsA md_popRead 43 (.putfield 63) 3 46 := ⟨by decide +kernel, rfl⟩
theorem o_popRead_46 : InsA md_popRead 46 (.aload_n 0) 1 47 := ⟨by decide +kernel, rfl⟩
theorem o_popRead_47 : InsA md_popRead 47 (.iconst 1) 1 48 := ⟨by decide +kernel, rfl⟩
theorem o_popRead_48 : InsA md_popRead 48 (.putfield 82) 3 51 := ⟨by decide +kernel, rfl⟩
theorem o_popRead_51 : InsA md_popRead 51 (.aload_n 0) 1 52 := ⟨by decide +kernel, rfl⟩
theorem o_popRead_52 : InsA md_popRead 52 (.aload_n 0) 1 53 := ⟨by decide +kernel, rfl⟩
theorem o_popRead_53 : InsA md_popRead 53 (.getfield 101) 3 56 := ⟨by decide +kernel, rfl⟩
theorem o_popRead_56 : InsA md_popRead 56 (.iconst 1) 1 57 := ⟨by decide +kernel, rfl⟩
theorem o_popRead_57 : InsA md_popRead 57 (.iadd) 1 58 := ⟨by decide +kernel, rfl⟩
theorem o_popRead_58 : InsA md_popRead 58 (.putfield 101) 3 61 := ⟨by decide +kernel, rfl⟩
theorem o_popRead_61 : InsA md_popRead 61 (.return_) 1 62 := ⟨by decide +kernel, rfl⟩
abbrev md_reset : MD := (⟨"CdcFifo", "reset", "()V"⟩, prog_1_method_4_code, 1, none, { frames := 2, cells := 0, slots := 0, locals := 25 }, 0)
theorem cv_reset {Z : State} {a0 : Array Value} (H : OK Z a0) : CalV Z a0 md_reset 0 := ⟨pn_CdcFifo, by decide, pd___V, H.w 208 rfl, H.w 210 rfl, H.w 2 rfl, Or.inl ⟨H.w 207 rfl, H.w 209 rfl⟩⟩
theorem o_reset_0 : InsA md_reset 0 (.aload_n 0) 1 1 := ⟨by decide +kernel, rfl⟩
theorem o_reset_1 : InsA md_reset 1 (.invokevirtual 30) 3 4 := ⟨by decide +kernel, rfl⟩
theorem o_reset_4 : InsA md_reset 4 (.return_) 1 5 := ⟨by decide +kernel, rfl⟩
abbrev md_L_law : MD := (x, code, maxLocals, ret, room_1, 2)
theorem o_L_law_0 : InsA md_L_law 0 (.aload_n 0) 1 1 := ⟨at_0, rfl⟩
theorem o_L_law_1 : InsA md_L_law 1 (.arraylength) 1 2 := ⟨at_1, rfl⟩
theorem o_L_law_2 : InsA md_L_law 2 (.istore_n 1) 1 3 := ⟨at_2, rfl⟩
theorem o_L_law_3 : InsA md_L_law 3 (.iconst 2) 1 4 := ⟨at_3, rfl⟩
theorem o_L_law_4 : InsA md_L_law 4 (.istore_n 2) 1 5 := ⟨at_4, rfl⟩
theorem o_L_law_5 : InsA md_L_law 5 (.iconst 3) 1 6 := ⟨at_5, rfl⟩
theorem o_L_law_6 : InsA md_L_law 6 (.istore_n 3) 1 7 := ⟨at_6, rfl⟩
theorem o_L_law_7 : InsA md_L_law 7 (.iload_n 1) 1 8 := ⟨at_7, rfl⟩
theorem o_L_law_8 : InsB md_L_law 8 (.ifCond .le 9) 3 11 (9) 17 := ⟨at_8, rfl, by decide, by decide⟩
theorem o_L_law_11 : InsA md_L_law 11 (.aload_n 0) 1 12 := ⟨at_11, rfl⟩
theorem o_L_law_12 : InsA md_L_law 12 (.iconst 0) 1 13 := ⟨at_12, rfl⟩
theorem o_L_law_13 : InsA md_L_law 13 (.iaload) 1 14 := ⟨at_13, rfl⟩
theorem o_L_law_14 : InsA md_L_law 14 (.iconst 3) 1 15 := ⟨at_14, rfl⟩
theorem o_L_law_15 : InsA md_L_law 15 (.iand) 1 16 := ⟨at_15, rfl⟩
theorem o_L_law_16 : InsA md_L_law 16 (.istore_n 2) 1 17 := ⟨at_16, rfl⟩
theorem o_L_law_17 : InsA md_L_law 17 (.iload_n 1) 1 18 := ⟨at_17, rfl⟩
theorem o_L_law_18 : InsA md_L_law 18 (.iconst 1) 1 19 := ⟨at_18, rfl⟩
theorem o_L_law_19 : InsB md_L_law 19 (.if_icmp .le 10) 3 22 (10) 29 := ⟨at_19, rfl, by decide, by decide⟩
theorem o_L_law_22 : InsA md_L_law 22 (.aload_n 0) 1 23 := ⟨at_22, rfl⟩
theorem o_L_law_23 : InsA md_L_law 23 (.iconst 1) 1 24 := ⟨at_23, rfl⟩
theorem o_L_law_24 : InsA md_L_law 24 (.iaload) 1 25 := ⟨at_24, rfl⟩
theorem o_L_law_25 : InsA md_L_law 25 (.bipush 15) 2 27 := ⟨at_25, rfl⟩
theorem o_L_law_27 : InsA md_L_law 27 (.iand) 1 28 := ⟨at_27, rfl⟩
theorem o_L_law_28 : InsA md_L_law 28 (.istore_n 3) 1 29 := ⟨at_28, rfl⟩
theorem o_L_law_29 : InsA md_L_law 29 (.new 7) 3 32 := ⟨at_29, rfl⟩
theorem o_L_law_32 : InsA md_L_law 32 (.dup) 1 33 := ⟨at_32, rfl⟩
theorem o_L_law_33 : InsA md_L_law 33 (.iload_n 2) 1 34 := ⟨at_33, rfl⟩
theorem o_L_law_34 : InsA md_L_law 34 (.iload_n 3) 1 35 := ⟨at_34, rfl⟩
theorem o_L_law_35 : InsA md_L_law 35 (.invokespecial 9) 3 38 := ⟨at_35, rfl⟩
theorem o_L_law_38 : InsA md_L_law 38 (.astore 4) 2 40 := ⟨at_38, rfl⟩
theorem o_L_law_40 : InsA md_L_law 40 (.iload_n 2) 1 41 := ⟨at_40, rfl⟩
theorem o_L_law_41 : InsA md_L_law 41 (.iconst 2) 1 42 := ⟨at_41, rfl⟩
theorem o_L_law_42 : InsB md_L_law 42 (.if_icmp .ge 7) 3 45 (7) 49 := ⟨at_42, rfl, by decide, by decide⟩
theorem o_L_law_45 : InsA md_L_law 45 (.iconst 4) 1 46 := ⟨at_45, rfl⟩
theorem o_L_law_46 : InsB md_L_law 46 (.goto 6) 3 49 (6) 52 := ⟨at_46, rfl, by decide, by decide⟩
theorem o_L_law_49 : InsA md_L_law 49 (.iconst 1) 1 50 := ⟨at_49, rfl⟩
theorem o_L_law_50 : InsA md_L_law 50 (.iload_n 2) 1 51 := ⟨at_50, rfl⟩
theorem o_L_law_51 : InsA md_L_law 51 (.ishl) 1 52 := ⟨at_51, rfl⟩
theorem o_L_law_52 : InsA md_L_law 52 (.istore 5) 2 54 := ⟨at_52, rfl⟩
theorem o_L_law_54 : InsA md_L_law 54 (.iload_n 3) 1 55 := ⟨at_54, rfl⟩
theorem o_L_law_55 : InsA md_L_law 55 (.iconst 1) 1 56 := ⟨at_55, rfl⟩
theorem o_L_law_56 : InsB md_L_law 56 (.if_icmp .ge 7) 3 59 (7) 63 := ⟨at_56, rfl, by decide, by decide⟩
theorem o_L_law_59 : InsA md_L_law 59 (.iconst 1) 1 60 := ⟨at_59, rfl⟩
theorem o_L_law_60 : InsB md_L_law 60 (.goto 15) 3 63 (15) 75 := ⟨at_60, rfl, by decide, by decide⟩
theorem o_L_law_63 : InsA md_L_law 63 (.iload_n 3) 1 64 := ⟨at_63, rfl⟩
theorem o_L_law_64 : InsA md_L_law 64 (.iload 5) 2 66 := ⟨at_64, rfl⟩
theorem o_L_law_66 : InsB md_L_law 66 (.if_icmp .le 8) 3 69 (8) 74 := ⟨at_66, rfl, by decide, by decide⟩
theorem o_L_law_69 : InsA md_L_law 69 (.iload 5) 2 71 := ⟨at_69, rfl⟩
theorem o_L_law_71 : InsB md_L_law 71 (.goto 4) 3 74 (4) 75 := ⟨at_71, rfl, by decide, by decide⟩
theorem o_L_law_74 : InsA md_L_law 74 (.iload_n 3) 1 75 := ⟨at_74, rfl⟩
theorem o_L_law_75 : InsA md_L_law 75 (.istore 6) 2 77 := ⟨at_75, rfl⟩
theorem o_L_law_77 : InsA md_L_law 77 (.iload_n 2) 1 78 := ⟨at_77, rfl⟩
theorem o_L_law_78 : InsA md_L_law 78 (.iconst 2) 1 79 := ⟨at_78, rfl⟩
theorem o_L_law_79 : InsB md_L_law 79 (.if_icmp .ge 7) 3 82 (7) 86 := ⟨at_79, rfl, by decide, by decide⟩
theorem o_L_law_82 : InsA md_L_law 82 (.iconst 3) 1 83 := ⟨at_82, rfl⟩
theorem o_L_law_83 : InsB md_L_law 83 (.goto 6) 3 86 (6) 89 := ⟨at_83, rfl, by decide, by decide⟩
theorem o_L_law_86 : InsA md_L_law 86 (.iload_n 2) 1 87 := ⟨at_86, rfl⟩
theorem o_L_law_87 : InsA md_L_law 87 (.iconst 1) 1 88 := ⟨at_87, rfl⟩
theorem o_L_law_88 : InsA md_L_law 88 (.iadd) 1 89 := ⟨at_88, rfl⟩
theorem o_L_law_89 : InsA md_L_law 89 (.istore 7) 2 91 := ⟨at_89, rfl⟩
theorem o_L_law_91 : InsA md_L_law 91 (.aload 4) 2 93 := ⟨at_91, rfl⟩
theorem o_L_law_93 : InsA md_L_law 93 (.iconst 0) 1 94 := ⟨at_93, rfl⟩
theorem o_L_law_94 : InsA md_L_law 94 (.invokevirtual 12) 3 97 := ⟨at_94, rfl⟩
theorem o_L_law_97 : InsA md_L_law 97 (.iload 5) 2 99 := ⟨at_97, rfl⟩
theorem o_L_law_99 : InsB md_L_law 99 (.if_icmp .ne 25) 3 102 (25) 124 := ⟨at_99, rfl, by decide, by decide⟩
theorem o_L_law_102 : InsA md_L_law 102 (.aload 4) 2 104 := ⟨at_102, rfl⟩
theorem o_L_law_104 : InsA md_L_law 104 (.iconst 1) 1 105 := ⟨at_104, rfl⟩
theorem o_L_law_105 : InsA md_L_law 105 (.invokevirtual 12) 3 108 := ⟨at_105, rfl⟩
theorem o_L_law_108 : InsA md_L_law 108 (.iload 6) 2 110 := ⟨at_108, rfl⟩
theorem o_L_law_110 : InsB md_L_law 110 (.if_icmp .ne 14) 3 113 (14) 124 := ⟨at_110, rfl, by decide, by decide⟩
theorem o_L_law_113 : InsA md_L_law 113 (.aload 4) 2 115 := ⟨at_113, rfl⟩
theorem o_L_law_115 : InsA md_L_law 115 (.iconst 2) 1 116 := ⟨at_115, rfl⟩
theorem o_L_law_116 : InsA md_L_law 116 (.invokevirtual 12) 3 119 := ⟨at_116, rfl⟩
theorem o_L_law_119 : InsA md_L_law 119 (.iload 7) 2 121 := ⟨at_119, rfl⟩
theorem o_L_law_121 : InsB md_L_law 121 (.if_icmp .eq 5) 3 124 (5) 126 := ⟨at_121, rfl, by decide, by decide⟩
theorem o_L_law_124 : InsA md_L_law 124 (.iconst 0) 1 125 := ⟨at_124, rfl⟩
theorem o_L_law_125 : InsA md_L_law 125 (.ireturn) 1 126 := ⟨at_125, rfl⟩
theorem o_L_law_126 : InsA md_L_law 126 (.iconst 0) 1 127 := ⟨at_126, rfl⟩
theorem o_L_law_127 : InsA md_L_law 127 (.istore 8) 2 129 := ⟨at_127, rfl⟩
theorem o_L_law_129 : InsA md_L_law 129 (.iconst 0) 1 130 := ⟨at_129, rfl⟩
theorem o_L_law_130 : InsA md_L_law 130 (.istore 9) 2 132 := ⟨at_130, rfl⟩
theorem o_L_law_132 : InsA md_L_law 132 (.iconst 0) 1 133 := ⟨at_132, rfl⟩
theorem o_L_law_133 : InsA md_L_law 133 (.istore 10) 2 135 := ⟨at_133, rfl⟩
theorem o_L_law_135 : InsA md_L_law 135 (.aload 4) 2 137 := ⟨at_135, rfl⟩
theorem o_L_law_137 : InsA md_L_law 137 (.iload 8) 2 139 := ⟨at_137, rfl⟩
theorem o_L_law_139 : InsA md_L_law 139 (.iload 9) 2 141 := ⟨at_139, rfl⟩
theorem o_L_law_141 : InsA md_L_law 141 (.iload 10) 2 143 := ⟨at_141, rfl⟩
theorem o_L_law_143 : InsA md_L_law 143 (.iload 5) 2 145 := ⟨at_143, rfl⟩
theorem o_L_law_145 : InsA md_L_law 145 (.iload 6) 2 147 := ⟨at_145, rfl⟩
theorem o_L_law_147 : InsA md_L_law 147 (.invokestatic 16) 3 150 := ⟨at_147, rfl⟩
theorem o_L_law_150 : InsB md_L_law 150 (.ifCond .ne 5) 3 153 (5) 155 := ⟨at_150, rfl, by decide, by decide⟩
theorem o_L_law_153 : InsA md_L_law 153 (.iconst 0) 1 154 := ⟨at_153, rfl⟩
theorem o_L_law_154 : InsA md_L_law 154 (.ireturn) 1 155 := ⟨at_154, rfl⟩
theorem o_L_law_155 : InsA md_L_law 155 (.iconst 2) 1 156 := ⟨at_155, rfl⟩
theorem o_L_law_156 : InsA md_L_law 156 (.istore 11) 2 158 := ⟨at_156, rfl⟩
theorem o_L_law_158 : InsA md_L_law 158 (.iload 11) 2 160 := ⟨at_158, rfl⟩
theorem o_L_law_160 : InsA md_L_law 160 (.iconst 2) 1 161 := ⟨at_160, rfl⟩
theorem o_L_law_161 : InsA md_L_law 161 (.iadd) 1 162 := ⟨at_161, rfl⟩
theorem o_L_law_162 : InsA md_L_law 162 (.iload_n 1) 1 163 := ⟨at_162, rfl⟩
theorem o_L_law_163 : InsB md_L_law 163 (.if_icmp .ge 258) 3 166 (258) 421 := ⟨at_163, rfl, by decide, by decide⟩
theorem o_L_law_166 : InsA md_L_law 166 (.aload_n 0) 1 167 := ⟨at_166, rfl⟩
theorem o_L_law_167 : InsA md_L_law 167 (.iload 11) 2 169 := ⟨at_167, rfl⟩
theorem o_L_law_169 : InsA md_L_law 169 (.iaload) 1 170 := ⟨at_169, rfl⟩
theorem o_L_law_170 : InsA md_L_law 170 (.bipush 15) 2 172 := ⟨at_170, rfl⟩
theorem o_L_law_172 : InsA md_L_law 172 (.iand) 1 173 := ⟨at_172, rfl⟩
theorem o_L_law_173 : InsA md_L_law 173 (.istore 12) 2 175 := ⟨at_173, rfl⟩
theorem o_L_law_175 : InsA md_L_law 175 (.aload_n 0) 1 176 := ⟨at_175, rfl⟩
theorem o_L_law_176 : InsA md_L_law 176 (.iload 11) 2 178 := ⟨at_176, rfl⟩
theorem o_L_law_178 : InsA md_L_law 178 (.iconst 1) 1 179 := ⟨at_178, rfl⟩
theorem o_L_law_179 : InsA md_L_law 179 (.iadd) 1 180 := ⟨at_179, rfl⟩
theorem o_L_law_180 : InsA md_L_law 180 (.iaload) 1 181 := ⟨at_180, rfl⟩
theorem o_L_law_181 : InsA md_L_law 181 (.bipush 7) 2 183 := ⟨at_181, rfl⟩
theorem o_L_law_183 : InsA md_L_law 183 (.iand) 1 184 := ⟨at_183, rfl⟩
theorem o_L_law_184 : InsB md_L_law 184 (.ifCond .eq 7) 3 187 (7) 191 := ⟨at_184, rfl, by decide, by decide⟩
theorem o_L_law_187 : InsA md_L_law 187 (.iconst 1) 1 188 := ⟨at_187, rfl⟩
theorem o_L_law_188 : InsB md_L_law 188 (.goto 4) 3 191 (4) 192 := ⟨at_188, rfl, by decide, by decide⟩
theorem o_L_law_191 : InsA md_L_law 191 (.iconst 0) 1 192 := ⟨at_191, rfl⟩
theorem o_L_law_192 : InsA md_L_law 192 (.istore 13) 2 194 := ⟨at_192, rfl⟩
theorem o_L_law_194 : InsA md_L_law 194 (.aload_n 0) 1 195 := ⟨at_194, rfl⟩
theorem o_L_law_195 : InsA md_L_law 195 (.iload 11) 2 197 := ⟨at_195, rfl⟩
theorem o_L_law_197 : InsA md_L_law 197 (.iconst 2) 1 198 := ⟨at_197, rfl⟩
theorem o_L_law_198 : InsA md_L_law 198 (.iadd) 1 199 := ⟨at_198, rfl⟩
theorem o_L_law_199 : InsA md_L_law 199 (.iaload) 1 200 := ⟨at_199, rfl⟩
theorem o_L_law_200 : InsA md_L_law 200 (.istore 14) 2 202 := ⟨at_200, rfl⟩
theorem o_L_law_202 : InsA md_L_law 202 (.iload 12) 2 204 := ⟨at_202, rfl⟩
theorem o_L_law_204 : InsA md_L_law 204 (.bipush 7) 2 206 := ⟨at_204, rfl⟩
theorem o_L_law_206 : InsB md_L_law 206 (.if_icmp .ge 67) 3 209 (67) 273 := ⟨at_206, rfl, by decide, by decide⟩
theorem o_L_law_209 : InsA md_L_law 209 (.aload 4) 2 211 := ⟨at_209, rfl⟩
theorem o_L_law_211 : InsA md_L_law 211 (.invokevirtual 22) 3 214 := ⟨at_211, rfl⟩
theorem o_L_law_214 : InsA md_L_law 214 (.istore 15) 2 216 := ⟨at_214, rfl⟩
theorem o_L_law_216 : InsA md_L_law 216 (.aload 4) 2 218 := ⟨at_216, rfl⟩
theorem o_L_law_218 : InsA md_L_law 218 (.iload 13) 2 220 := ⟨at_218, rfl⟩
theorem o_L_law_220 : InsA md_L_law 220 (.iload 8) 2 222 := ⟨at_220, rfl⟩
theorem o_L_law_222 : InsA md_L_law 222 (.bipush 7) 2 224 := ⟨at_222, rfl⟩
theorem o_L_law_224 : InsA md_L_law 224 (.imul) 1 225 := ⟨at_224, rfl⟩
theorem o_L_law_225 : InsA md_L_law 225 (.iconst 3) 1 226 := ⟨at_225, rfl⟩
theorem o_L_law_226 : InsA md_L_law 226 (.iadd) 1 227 := ⟨at_226, rfl⟩
theorem o_L_law_227 : InsA md_L_law 227 (.iload 14) 2 229 := ⟨at_227, rfl⟩
theorem o_L_law_229 : InsA md_L_law 229 (.invokevirtual 26) 3 232 := ⟨at_229, rfl⟩
theorem o_L_law_232 : InsA md_L_law 232 (.istore 16) 2 234 := ⟨at_232, rfl⟩
theorem o_L_law_234 : InsA md_L_law 234 (.iload 13) 2 236 := ⟨at_234, rfl⟩
theorem o_L_law_236 : InsB md_L_law 236 (.ifCond .ne 10) 3 239 (10) 246 := ⟨at_236, rfl, by decide, by decide⟩
theorem o_L_law_239 : InsA md_L_law 239 (.iload 16) 2 241 := ⟨at_239, rfl⟩
theorem o_L_law_241 : InsB md_L_law 241 (.ifCond .eq 29) 3 244 (29) 270 := ⟨at_241, rfl, by decide, by decide⟩
theorem o_L_law_244 : InsA md_L_law 244 (.iconst 0) 1 245 := ⟨at_244, rfl⟩
theorem o_L_law_245 : InsA md_L_law 245 (.ireturn) 1 246 := ⟨at_245, rfl⟩
theorem o_L_law_246 : InsA md_L_law 246 (.iload 15) 2 248 := ⟨at_246, rfl⟩
theorem o_L_law_248 : InsB md_L_law 248 (.ifCond .eq 11) 3 251 (11) 259 := ⟨at_248, rfl, by decide, by decide⟩
theorem o_L_law_251 : InsA md_L_law 251 (.iload 16) 2 253 := ⟨at_251, rfl⟩
theorem o_L_law_253 : InsA md_L_law 253 (.iconst 2) 1 254 := ⟨at_253, rfl⟩
theorem o_L_law_254 : InsB md_L_law 254 (.if_icmp .eq 16) 3 257 (16) 270 := ⟨at_254, rfl, by decide, by decide⟩
theorem o_L_law_257 : InsA md_L_law 257 (.iconst 0) 1 258 := ⟨at_257, rfl⟩
theorem o_L_law_258 : InsA md_L_law 258 (.ireturn) 1 259 := ⟨at_258, rfl⟩
theorem o_L_law_259 : InsA md_L_law 259 (.iload 16) 2 261 := ⟨at_259, rfl⟩
theorem o_L_law_261 : InsA md_L_law 261 (.iconst 1) 1 262 := ⟨at_261, rfl⟩
theorem o_L_law_262 : InsB md_L_law 262 (.if_icmp .eq 5) 3 265 (5) 267 := ⟨at_262, rfl, by decide, by decide⟩
theorem o_L_law_265 : InsA md_L_law 265 (.iconst 0) 1 266 := ⟨at_265, rfl⟩
theorem o_L_law_266 : InsA md_L_law 266 (.ireturn) 1 267 := ⟨at_266, rfl⟩
theorem o_L_law_267 : InsA md_L_law 267 (.iinc 8 1) 3 270 := ⟨at_267, rfl⟩
theorem o_L_law_270 : InsB md_L_law 270 (.goto 125) 3 273 (125) 395 := ⟨at_270, rfl, by decide, by decide⟩
theorem o_L_law_273 : InsA md_L_law 273 (.iload 12) 2 275 := ⟨at_273, rfl⟩
theorem o_L_law_275 : InsA md_L_law 275 (.bipush 14) 2 277 := ⟨at_275, rfl⟩
theorem o_L_law_277 : InsB md_L_law 277 (.if_icmp .ge 69) 3 280 (69) 346 := ⟨at_277, rfl, by decide, by decide⟩
theorem o_L_law_280 : InsA md_L_law 280 (.aload 4) 2 282 := ⟨at_280, rfl⟩
theorem o_L_law_282 : InsA md_L_law 282 (.invokevirtual 30) 3 285 := ⟨at_282, rfl⟩
theorem o_L_law_285 : InsA md_L_law 285 (.istore 15) 2 287 := ⟨at_285, rfl⟩
theorem o_L_law_287 : InsA md_L_law 287 (.aload 4) 2 289 := ⟨at_287, rfl⟩
theorem o_L_law_289 : InsA md_L_law 289 (.iload 13) 2 291 := ⟨at_289, rfl⟩
theorem o_L_law_291 : InsA md_L_law 291 (.iload 14) 2 293 := ⟨at_291, rfl⟩
theorem o_L_law_293 : InsA md_L_law 293 (.invokevirtual 33) 3 296 := ⟨at_293, rfl⟩
theorem o_L_law_296 : InsA md_L_law 296 (.istore 16) 2 298 := ⟨at_296, rfl⟩
theorem o_L_law_298 : InsA md_L_law 298 (.iload 13) 2 300 := ⟨at_298, rfl⟩
theorem o_L_law_300 : InsB md_L_law 300 (.ifCond .ne 10) 3 303 (10) 310 := ⟨at_300, rfl, by decide, by decide⟩
theorem o_L_law_303 : InsA md_L_law 303 (.iload 16) 2 305 := ⟨at_303, rfl⟩
theorem o_L_law_305 : InsB md_L_law 305 (.ifCond .eq 38) 3 308 (38) 343 := ⟨at_305, rfl, by decide, by decide⟩
theorem o_L_law_308 : InsA md_L_law 308 (.iconst 0) 1 309 := ⟨at_308, rfl⟩
theorem o_L_law_309 : InsA md_L_law 309 (.ireturn) 1 310 := ⟨at_309, rfl⟩
theorem o_L_law_310 : InsA md_L_law 310 (.iload 15) 2 312 := ⟨at_310, rfl⟩
theorem o_L_law_312 : InsB md_L_law 312 (.ifCond .eq 11) 3 315 (11) 323 := ⟨at_312, rfl, by decide, by decide⟩
theorem o_L_law_315 : InsA md_L_law 315 (.iload 16) 2 317 := ⟨at_315, rfl⟩
theorem o_L_law_317 : InsA md_L_law 317 (.iconst 4) 1 318 := ⟨at_317, rfl⟩
theorem o_L_law_318 : InsB md_L_law 318 (.if_icmp .eq 25) 3 321 (25) 343 := ⟨at_318, rfl, by decide, by decide⟩
theorem o_L_law_321 : InsA md_L_law 321 (.iconst 0) 1 322 := ⟨at_321, rfl⟩
theorem o_L_law_322 : InsA md_L_law 322 (.ireturn) 1 323 := ⟨at_322, rfl⟩
theorem o_L_law_323 : InsA md_L_law 323 (.iload 16) 2 325 := ⟨at_323, rfl⟩
theorem o_L_law_325 : InsA md_L_law 325 (.iconst 3) 1 326 := ⟨at_325, rfl⟩
theorem o_L_law_326 : InsB md_L_law 326 (.if_icmp .eq 5) 3 329 (5) 331 := ⟨at_326, rfl, by decide, by decide⟩
theorem o_L_law_329 : InsA md_L_law 329 (.iconst 0) 1 330 := ⟨at_329, rfl⟩
theorem o_L_law_330 : InsA md_L_law 330 (.ireturn) 1 331 := ⟨at_330, rfl⟩
theorem o_L_law_331 : InsA md_L_law 331 (.iload 9) 2 333 := ⟨at_331, rfl⟩
theorem o_L_law_333 : InsA md_L_law 333 (.bipush 7) 2 335 := ⟨at_333, rfl⟩
theorem o_L_law_335 : InsA md_L_law 335 (.imul) 1 336 := ⟨at_335, rfl⟩
theorem o_L_law_336 : InsA md_L_law 336 (.iconst 3) 1 337 := ⟨at_336, rfl⟩
theorem o_L_law_337 : InsA md_L_law 337 (.iadd) 1 338 := ⟨at_337, rfl⟩
theorem o_L_law_338 : InsA md_L_law 338 (.istore 10) 2 340 := ⟨at_338, rfl⟩
theorem o_L_law_340 : InsA md_L_law 340 (.iinc 9 1) 3 343 := ⟨at_340, rfl⟩
theorem o_L_law_343 : InsB md_L_law 343 (.goto 52) 3 346 (52) 395 := ⟨at_343, rfl, by decide, by decide⟩
theorem o_L_law_346 : InsA md_L_law 346 (.iload 12) 2 348 := ⟨at_346, rfl⟩
theorem o_L_law_348 : InsA md_L_law 348 (.bipush 14) 2 350 := ⟨at_348, rfl⟩
theorem o_L_law_350 : InsB md_L_law 350 (.if_icmp .ne 31) 3 353 (31) 381 := ⟨at_350, rfl, by decide, by decide⟩
theorem o_L_law_353 : InsA md_L_law 353 (.aload 4) 2 355 := ⟨at_353, rfl⟩
theorem o_L_law_355 : InsA md_L_law 355 (.iconst 0) 1 356 := ⟨at_355, rfl⟩
theorem o_L_law_356 : InsA md_L_law 356 (.bipush 99) 2 358 := ⟨at_356, rfl⟩
theorem o_L_law_358 : InsA md_L_law 358 (.iload 14) 2 360 := ⟨at_358, rfl⟩
theorem o_L_law_360 : InsA md_L_law 360 (.invokevirtual 26) 3 363 := ⟨at_360, rfl⟩
theorem o_L_law_363 : InsB md_L_law 363 (.ifCond .eq 5) 3 366 (5) 368 := ⟨at_363, rfl, by decide, by decide⟩
theorem o_L_law_366 : InsA md_L_law 366 (.iconst 0) 1 367 := ⟨at_366, rfl⟩
theorem o_L_law_367 : InsA md_L_law 367 (.ireturn) 1 368 := ⟨at_367, rfl⟩
theorem o_L_law_368 : InsA md_L_law 368 (.aload 4) 2 370 := ⟨at_368, rfl⟩
theorem o_L_law_370 : InsA md_L_law 370 (.iconst 0) 1 371 := ⟨at_370, rfl⟩
theorem o_L_law_371 : InsA md_L_law 371 (.iload 14) 2 373 := ⟨at_371, rfl⟩
theorem o_L_law_373 : InsA md_L_law 373 (.invokevirtual 33) 3 376 := ⟨at_373, rfl⟩
theorem o_L_law_376 : InsB md_L_law 376 (.ifCond .eq 19) 3 379 (19) 395 := ⟨at_376, rfl, by decide, by decide⟩
theorem o_L_law_379 : InsA md_L_law 379 (.iconst 0) 1 380 := ⟨at_379, rfl⟩
theorem o_L_law_380 : InsA md_L_law 380 (.ireturn) 1 381 := ⟨at_380, rfl⟩
theorem o_L_law_381 : InsA md_L_law 381 (.aload 4) 2 383 := ⟨at_381, rfl⟩
theorem o_L_law_383 : InsA md_L_law 383 (.invokevirtual 37) 3 386 := ⟨at_383, rfl⟩
theorem o_L_law_386 : InsA md_L_law 386 (.iconst 0) 1 387 := ⟨at_386, rfl⟩
theorem o_L_law_387 : InsA md_L_law 387 (.istore 8) 2 389 := ⟨at_387, rfl⟩
theorem o_L_law_389 : InsA md_L_law 389 (.iconst 0) 1 390 := ⟨at_389, rfl⟩
theorem o_L_law_390 : InsA md_L_law 390 (.istore 9) 2 392 := ⟨at_390, rfl⟩
theorem o_L_law_392 : InsA md_L_law 392 (.iconst 0) 1 393 := ⟨at_392, rfl⟩
theorem o_L_law_393 : InsA md_L_law 393 (.istore 10) 2 395 := ⟨at_393, rfl⟩
theorem o_L_law_395 : InsA md_L_law 395 (.aload 4) 2 397 := ⟨at_395, rfl⟩
theorem o_L_law_397 : InsA md_L_law 397 (.iload 8) 2 399 := ⟨at_397, rfl⟩
theorem o_L_law_399 : InsA md_L_law 399 (.iload 9) 2 401 := ⟨at_399, rfl⟩
theorem o_L_law_401 : InsA md_L_law 401 (.iload 10) 2 403 := ⟨at_401, rfl⟩
theorem o_L_law_403 : InsA md_L_law 403 (.iload 5) 2 405 := ⟨at_403, rfl⟩
theorem o_L_law_405 : InsA md_L_law 405 (.iload 6) 2 407 := ⟨at_405, rfl⟩
theorem o_L_law_407 : InsA md_L_law 407 (.invokestatic 16) 3 410 := ⟨at_407, rfl⟩
theorem o_L_law_410 : InsB md_L_law 410 (.ifCond .ne 5) 3 413 (5) 415 := ⟨at_410, rfl, by decide, by decide⟩
theorem o_L_law_413 : InsA md_L_law 413 (.iconst 0) 1 414 := ⟨at_413, rfl⟩
theorem o_L_law_414 : InsA md_L_law 414 (.ireturn) 1 415 := ⟨at_414, rfl⟩
theorem o_L_law_415 : InsA md_L_law 415 (.iinc 11 3) 3 418 := ⟨at_415, rfl⟩
theorem o_L_law_418 : InsB md_L_law 418 (.goto (-260)) 3 421 (-260) 158 := ⟨at_418, rfl, by decide, by decide⟩
theorem o_L_law_421 : InsA md_L_law 421 (.iconst 1) 1 422 := ⟨at_421, rfl⟩
theorem o_L_law_422 : InsA md_L_law 422 (.ireturn) 1 423 := ⟨at_422, rfl⟩
set_option maxRecDepth 65536 in
set_option maxHeartbeats 4000000 in
theorem wp_clampInt {l : Launch} {Z : State} {a0 : Array Value} (H : OK Z a0) (F : Nat → Int32) (G : Nat → Int64) (A : Nat → Int32 → Int32) (B : Nat → Int32 → Int64) (p1 : Int32) (p2 : Int32) (p3 : Int32) {Q : Option Value → WO → Prop} (h3 : ¬ p1 < p2 → ¬ p3 < p1 → Q (some (.int p1)) (1, F, G, A, B)) (h4 : ¬ p1 < p2 → p3 < p1 → Q (some (.int p3)) (1, F, G, A, B)) (h5 : p1 < p2 → Q (some (.int p2)) (1, F, G, A, B)) :
    Wk l Z (MoC Z cdC) md_clampInt 0 [.val (.ref 0), .val (.int p1), .val (.int p2), .val (.int p3)] [] (1, F, G, A, B) 0 0 Q := by
  refine Wk.iloadN o_clampInt_0 rfl ?_
  refine Wk.iloadN o_clampInt_1 rfl ?_
  refine Wk.icmp_ge o_clampInt_2 (fun q1 => ?_) (fun q1 => ?_)
  · refine Wk.iloadN o_clampInt_7 rfl ?_
    refine Wk.iloadN o_clampInt_8 rfl ?_
    refine Wk.icmp_le o_clampInt_9 (fun q2 => ?_) (fun q2 => ?_)
    · refine Wk.iloadN o_clampInt_14 rfl ?_
      exact Wk.ireturn mrC rfl o_clampInt_15 rfl (by decide) (by decide) (h3 q1 q2)
    · refine Wk.iloadN o_clampInt_12 rfl ?_
      exact Wk.ireturn mrC rfl o_clampInt_13 rfl (by decide) (by decide) (h4 q1 q2)
  · refine Wk.iloadN o_clampInt_5 rfl ?_
    exact Wk.ireturn mrC rfl o_clampInt_6 rfl (by decide) (by decide) (h5 q1)

def f_clampInt (p1 : Int32) (p2 : Int32) (p3 : Int32) : Int32 := (if p1 < p2 then p2 else (if p3 < p1 then p3 else p1))
theorem e_clampInt (p1 : Int32) (p2 : Int32) (p3 : Int32) : f_clampInt p1 p2 p3 = (if p1 < p2 then p2 else (if p3 < p1 then p3 else p1)) := Eq.trans rfl rfl
theorem run_clampInt {l : Launch} {Z : State} {a0 : Array Value} (H : OK Z a0) (F : Nat → Int32) (G : Nat → Int64) (A : Nat → Int32 → Int32) (B : Nat → Int32 → Int64) (p1 : Int32) (p2 : Int32) (p3 : Int32) :
    Wk l Z (MoC Z cdC) md_clampInt 0 [.val (.ref 0), .val (.int p1), .val (.int p2), .val (.int p3)] [] (1, F, G, A, B) 0 0 (fun v w' => v = some (.int (f_clampInt p1 p2 p3)) ∧ w' = (1, F, G, A, B)) :=
  wp_clampInt H F G A B p1 p2 p3 (fun q1 q2 => ⟨by simp only [e_clampInt, if_neg q1, if_neg q2], rfl⟩) (fun q1 q2 => ⟨by simp only [e_clampInt, if_neg q1, if_pos q2], rfl⟩) (fun q1 => ⟨by simp only [e_clampInt, if_pos q1], rfl⟩)
set_option maxRecDepth 65536 in
set_option maxHeartbeats 4000000 in
theorem wp_clearWriteSide {l : Launch} {Z : State} {a0 : Array Value} (H : OK Z a0) (F : Nat → Int32) (G : Nat → Int64) (A : Nat → Int32 → Int32) (B : Nat → Int32 → Int64) {Q : Option Value → WO → Prop} (h1 : Q none (1, (ups (ups (ups (ups F 4 (0 : Int32)) 5 (0 : Int32)) 6 (0 : Int32)) 7 (0 : Int32)), G, A, B)) :
    Wk l Z (MoC Z cdC) md_clearWriteSide 0 [.val (.ref 0)] [] (1, F, G, A, B) 0 0 Q := by
  refine Wk.aloadN o_clearWriteSide_0 rfl ?_
  refine Wk.iconst o_clearWriteSide_1 (z := (0 : Int32)) (by decide) ?_
  refine Wk.putI (coC H) (mI_wbin) (wf_wbin H) (Or.inl (wy_wbin H)) o_clearWriteSide_2 ?_
  refine Wk.aloadN o_clearWriteSide_5 rfl ?_
  refine Wk.iconst o_clearWriteSide_6 (z := (0 : Int32)) (by decide) ?_
  refine Wk.putI (coC H) (mI_wgray) (wf_wgray H) (Or.inl (wy_wgray H)) o_clearWriteSide_7 ?_
  refine Wk.aloadN o_clearWriteSide_10 rfl ?_
  refine Wk.iconst o_clearWriteSide_11 (z := (0 : Int32)) (by decide) ?_
  refine Wk.putI (coC H) (mI_wprev) (wf_wprev H) (Or.inl (wy_wprev H)) o_clearWriteSide_12 ?_
  refine Wk.aloadN o_clearWriteSide_15 rfl ?_
  refine Wk.iconst o_clearWriteSide_16 (z := (0 : Int32)) (by decide) ?_
  refine Wk.putZ (coC H) (y := (0 : Int32)) (by decide) (mI_wChanging) (wf_wChanging H) (Or.inl (wy_wChanging H)) o_clearWriteSide_17 ?_
  exact Wk.ret mrC rfl o_clearWriteSide_20 rfl (by decide) (by decide) h1

def F_clearWriteSide (F : Nat → Int32) : Nat → Int32 := (ups (ups (ups (ups F 4 (0 : Int32)) 5 (0 : Int32)) 6 (0 : Int32)) 7 (0 : Int32))
theorem eF_clearWriteSide (F : Nat → Int32) : F_clearWriteSide F = (ups (ups (ups (ups F 4 (0 : Int32)) 5 (0 : Int32)) 6 (0 : Int32)) 7 (0 : Int32)) := Eq.trans rfl rfl
theorem F_clearWriteSide_0 (F : Nat → Int32) : F_clearWriteSide F 0 = (F 0) := by
  exact Eq.trans rfl rfl
theorem F_clearWriteSide_1 (F : Nat → Int32) : F_clearWriteSide F 1 = (F 1) := by
  exact Eq.trans rfl rfl
theorem F_clearWriteSide_2 (F : Nat → Int32) : F_clearWriteSide F 2 = (F 2) := by
  exact Eq.trans rfl rfl
theorem F_clearWriteSide_3 (F : Nat → Int32) : F_clearWriteSide F 3 = (F 3) := by
  exact Eq.trans rfl rfl
theorem F_clearWriteSide_4 (F : Nat → Int32) : F_clearWriteSide F 4 = (0 : Int32) := by
  exact Eq.trans rfl rfl
theorem F_clearWriteSide_5 (F : Nat → Int32) : F_clearWriteSide F 5 = (0 : Int32) := by
  exact Eq.trans rfl rfl
theorem F_clearWriteSide_6 (F : Nat → Int32) : F_clearWriteSide F 6 = (0 : Int32) := by
  exact Eq.trans rfl rfl
theorem F_clearWriteSide_7 (F : Nat → Int32) : F_clearWriteSide F 7 = (0 : Int32) := by
  exact Eq.trans rfl rfl
theorem F_clearWriteSide_8 (F : Nat → Int32) : F_clearWriteSide F 8 = (F 8) := by
  exact Eq.trans rfl rfl
theorem F_clearWriteSide_9 (F : Nat → Int32) : F_clearWriteSide F 9 = (F 9) := by
  exact Eq.trans rfl rfl
theorem F_clearWriteSide_10 (F : Nat → Int32) : F_clearWriteSide F 10 = (F 10) := by
  exact Eq.trans rfl rfl
theorem F_clearWriteSide_11 (F : Nat → Int32) : F_clearWriteSide F 11 = (F 11) := by
  exact Eq.trans rfl rfl
theorem F_clearWriteSide_12 (F : Nat → Int32) : F_clearWriteSide F 12 = (F 12) := by
  exact Eq.trans rfl rfl
theorem F_clearWriteSide_13 (F : Nat → Int32) : F_clearWriteSide F 13 = (F 13) := by
  exact Eq.trans rfl rfl
theorem F_clearWriteSide_14 (F : Nat → Int32) : F_clearWriteSide F 14 = (F 14) := by
  exact Eq.trans rfl rfl
theorem F_clearWriteSide_15 (F : Nat → Int32) : F_clearWriteSide F 15 = (F 15) := by
  exact Eq.trans rfl rfl
theorem F_clearWriteSide_16 (F : Nat → Int32) : F_clearWriteSide F 16 = (F 16) := by
  exact Eq.trans rfl rfl
theorem F_clearWriteSide_17 (F : Nat → Int32) : F_clearWriteSide F 17 = (F 17) := by
  exact Eq.trans rfl rfl
theorem F_clearWriteSide_18 (F : Nat → Int32) : F_clearWriteSide F 18 = (F 18) := by
  exact Eq.trans rfl rfl
theorem run_clearWriteSide {l : Launch} {Z : State} {a0 : Array Value} (H : OK Z a0) (F : Nat → Int32) (G : Nat → Int64) (A : Nat → Int32 → Int32) (B : Nat → Int32 → Int64) :
    Wk l Z (MoC Z cdC) md_clearWriteSide 0 [.val (.ref 0)] [] (1, F, G, A, B) 0 0 (fun v w' => v = none ∧ w' = (1, (F_clearWriteSide F), G, A, B)) :=
  wp_clearWriteSide H F G A B ⟨rfl, rfl⟩
set_option maxRecDepth 65536 in
set_option maxHeartbeats 4000000 in
theorem wp_clearReadSide {l : Launch} {Z : State} {a0 : Array Value} (H : OK Z a0) (F : Nat → Int32) (G : Nat → Int64) (A : Nat → Int32 → Int32) (B : Nat → Int32 → Int64) {Q : Option Value → WO → Prop} (h1 : Q none (1, (ups (ups (ups (ups F 8 (0 : Int32)) 9 (0 : Int32)) 10 (0 : Int32)) 11 (0 : Int32)), G, A, B)) :
    Wk l Z (MoC Z cdC) md_clearReadSide 0 [.val (.ref 0)] [] (1, F, G, A, B) 0 0 Q := by
  refine Wk.aloadN o_clearReadSide_0 rfl ?_
  refine Wk.iconst o_clearReadSide_1 (z := (0 : Int32)) (by decide) ?_
  refine Wk.putI (coC H) (mI_rbin) (wf_rbin H) (Or.inl (wy_rbin H)) o_clearReadSide_2 ?_
  refine Wk.aloadN o_clearReadSide_5 rfl ?_
  refine Wk.iconst o_clearReadSide_6 (z := (0 : Int32)) (by decide) ?_
  refine Wk.putI (coC H) (mI_rgray) (wf_rgray H) (Or.inl (wy_rgray H)) o_clearReadSide_7 ?_
  refine Wk.aloadN o_clearReadSide_10 rfl ?_
  refine Wk.iconst o_clearReadSide_11 (z := (0 : Int32)) (by decide) ?_
  refine Wk.putI (coC H) (mI_rprev) (wf_rprev H) (Or.inl (wy_rprev H)) o_clearReadSide_12 ?_
  refine Wk.aloadN o_clearReadSide_15 rfl ?_
  refine Wk.iconst o_clearReadSide_16 (z := (0 : Int32)) (by decide) ?_
  refine Wk.putZ (coC H) (y := (0 : Int32)) (by decide) (mI_rChanging) (wf_rChanging H) (Or.inl (wy_rChanging H)) o_clearReadSide_17 ?_
  exact Wk.ret mrC rfl o_clearReadSide_20 rfl (by decide) (by decide) h1

def F_clearReadSide (F : Nat → Int32) : Nat → Int32 := (ups (ups (ups (ups F 8 (0 : Int32)) 9 (0 : Int32)) 10 (0 : Int32)) 11 (0 : Int32))
theorem eF_clearReadSide (F : Nat → Int32) : F_clearReadSide F = (ups (ups (ups (ups F 8 (0 : Int32)) 9 (0 : Int32)) 10 (0 : Int32)) 11 (0 : Int32)) := Eq.trans rfl rfl
theorem F_clearReadSide_0 (F : Nat → Int32) : F_clearReadSide F 0 = (F 0) := by
  exact Eq.trans rfl rfl
theorem F_clearReadSide_1 (F : Nat → Int32) : F_clearReadSide F 1 = (F 1) := by
  exact Eq.trans rfl rfl
theorem F_clearReadSide_2 (F : Nat → Int32) : F_clearReadSide F 2 = (F 2) := by
  exact Eq.trans rfl rfl
theorem F_clearReadSide_3 (F : Nat → Int32) : F_clearReadSide F 3 = (F 3) := by
  exact Eq.trans rfl rfl
theorem F_clearReadSide_4 (F : Nat → Int32) : F_clearReadSide F 4 = (F 4) := by
  exact Eq.trans rfl rfl
theorem F_clearReadSide_5 (F : Nat → Int32) : F_clearReadSide F 5 = (F 5) := by
  exact Eq.trans rfl rfl
theorem F_clearReadSide_6 (F : Nat → Int32) : F_clearReadSide F 6 = (F 6) := by
  exact Eq.trans rfl rfl
theorem F_clearReadSide_7 (F : Nat → Int32) : F_clearReadSide F 7 = (F 7) := by
  exact Eq.trans rfl rfl
theorem F_clearReadSide_8 (F : Nat → Int32) : F_clearReadSide F 8 = (0 : Int32) := by
  exact Eq.trans rfl rfl
theorem F_clearReadSide_9 (F : Nat → Int32) : F_clearReadSide F 9 = (0 : Int32) := by
  exact Eq.trans rfl rfl
theorem F_clearReadSide_10 (F : Nat → Int32) : F_clearReadSide F 10 = (0 : Int32) := by
  exact Eq.trans rfl rfl
theorem F_clearReadSide_11 (F : Nat → Int32) : F_clearReadSide F 11 = (0 : Int32) := by
  exact Eq.trans rfl rfl
theorem F_clearReadSide_12 (F : Nat → Int32) : F_clearReadSide F 12 = (F 12) := by
  exact Eq.trans rfl rfl
theorem F_clearReadSide_13 (F : Nat → Int32) : F_clearReadSide F 13 = (F 13) := by
  exact Eq.trans rfl rfl
theorem F_clearReadSide_14 (F : Nat → Int32) : F_clearReadSide F 14 = (F 14) := by
  exact Eq.trans rfl rfl
theorem F_clearReadSide_15 (F : Nat → Int32) : F_clearReadSide F 15 = (F 15) := by
  exact Eq.trans rfl rfl
theorem F_clearReadSide_16 (F : Nat → Int32) : F_clearReadSide F 16 = (F 16) := by
  exact Eq.trans rfl rfl
theorem F_clearReadSide_17 (F : Nat → Int32) : F_clearReadSide F 17 = (F 17) := by
  exact Eq.trans rfl rfl
theorem F_clearReadSide_18 (F : Nat → Int32) : F_clearReadSide F 18 = (F 18) := by
  exact Eq.trans rfl rfl
theorem run_clearReadSide {l : Launch} {Z : State} {a0 : Array Value} (H : OK Z a0) (F : Nat → Int32) (G : Nat → Int64) (A : Nat → Int32 → Int32) (B : Nat → Int32 → Int64) :
    Wk l Z (MoC Z cdC) md_clearReadSide 0 [.val (.ref 0)] [] (1, F, G, A, B) 0 0 (fun v w' => v = none ∧ w' = (1, (F_clearReadSide F), G, A, B)) :=
  wp_clearReadSide H F G A B ⟨rfl, rfl⟩
set_option maxRecDepth 65536 in
set_option maxHeartbeats 4000000 in
theorem wp_clearSyncs {l : Launch} {Z : State} {a0 : Array Value} (H : OK Z a0) (F : Nat → Int32) (G : Nat → Int64) (A : Nat → Int32 → Int32) (B : Nat → Int32 → Int64) {Q : Option Value → WO → Prop} (h1 : Q none (1, (ups (ups (ups (ups F 12 (0 : Int32)) 13 (0 : Int32)) 14 (0 : Int32)) 15 (0 : Int32)), G, A, B)) :
    Wk l Z (MoC Z cdC) md_clearSyncs 0 [.val (.ref 0)] [] (1, F, G, A, B) 0 0 Q := by
  refine Wk.aloadN o_clearSyncs_0 rfl ?_
  refine Wk.iconst o_clearSyncs_1 (z := (0 : Int32)) (by decide) ?_
  refine Wk.putI (coC H) (mI_wq1) (wf_wq1 H) (Or.inl (wy_wq1 H)) o_clearSyncs_2 ?_
  refine Wk.aloadN o_clearSyncs_5 rfl ?_
  refine Wk.iconst o_clearSyncs_6 (z := (0 : Int32)) (by decide) ?_
  refine Wk.putI (coC H) (mI_wq2) (wf_wq2 H) (Or.inl (wy_wq2 H)) o_clearSyncs_7 ?_
  refine Wk.aloadN o_clearSyncs_10 rfl ?_
  refine Wk.iconst o_clearSyncs_11 (z := (0 : Int32)) (by decide) ?_
  refine Wk.putI (coC H) (mI_rq1) (wf_rq1 H) (Or.inl (wy_rq1 H)) o_clearSyncs_12 ?_
  refine Wk.aloadN o_clearSyncs_15 rfl ?_
  refine Wk.iconst o_clearSyncs_16 (z := (0 : Int32)) (by decide) ?_
  refine Wk.putI (coC H) (mI_rq2) (wf_rq2 H) (Or.inl (wy_rq2 H)) o_clearSyncs_17 ?_
  exact Wk.ret mrC rfl o_clearSyncs_20 rfl (by decide) (by decide) h1

def F_clearSyncs (F : Nat → Int32) : Nat → Int32 := (ups (ups (ups (ups F 12 (0 : Int32)) 13 (0 : Int32)) 14 (0 : Int32)) 15 (0 : Int32))
theorem eF_clearSyncs (F : Nat → Int32) : F_clearSyncs F = (ups (ups (ups (ups F 12 (0 : Int32)) 13 (0 : Int32)) 14 (0 : Int32)) 15 (0 : Int32)) := Eq.trans rfl rfl
theorem F_clearSyncs_0 (F : Nat → Int32) : F_clearSyncs F 0 = (F 0) := by
  exact Eq.trans rfl rfl
theorem F_clearSyncs_1 (F : Nat → Int32) : F_clearSyncs F 1 = (F 1) := by
  exact Eq.trans rfl rfl
theorem F_clearSyncs_2 (F : Nat → Int32) : F_clearSyncs F 2 = (F 2) := by
  exact Eq.trans rfl rfl
theorem F_clearSyncs_3 (F : Nat → Int32) : F_clearSyncs F 3 = (F 3) := by
  exact Eq.trans rfl rfl
theorem F_clearSyncs_4 (F : Nat → Int32) : F_clearSyncs F 4 = (F 4) := by
  exact Eq.trans rfl rfl
theorem F_clearSyncs_5 (F : Nat → Int32) : F_clearSyncs F 5 = (F 5) := by
  exact Eq.trans rfl rfl
theorem F_clearSyncs_6 (F : Nat → Int32) : F_clearSyncs F 6 = (F 6) := by
  exact Eq.trans rfl rfl
theorem F_clearSyncs_7 (F : Nat → Int32) : F_clearSyncs F 7 = (F 7) := by
  exact Eq.trans rfl rfl
theorem F_clearSyncs_8 (F : Nat → Int32) : F_clearSyncs F 8 = (F 8) := by
  exact Eq.trans rfl rfl
theorem F_clearSyncs_9 (F : Nat → Int32) : F_clearSyncs F 9 = (F 9) := by
  exact Eq.trans rfl rfl
theorem F_clearSyncs_10 (F : Nat → Int32) : F_clearSyncs F 10 = (F 10) := by
  exact Eq.trans rfl rfl
theorem F_clearSyncs_11 (F : Nat → Int32) : F_clearSyncs F 11 = (F 11) := by
  exact Eq.trans rfl rfl
theorem F_clearSyncs_12 (F : Nat → Int32) : F_clearSyncs F 12 = (0 : Int32) := by
  exact Eq.trans rfl rfl
theorem F_clearSyncs_13 (F : Nat → Int32) : F_clearSyncs F 13 = (0 : Int32) := by
  exact Eq.trans rfl rfl
theorem F_clearSyncs_14 (F : Nat → Int32) : F_clearSyncs F 14 = (0 : Int32) := by
  exact Eq.trans rfl rfl
theorem F_clearSyncs_15 (F : Nat → Int32) : F_clearSyncs F 15 = (0 : Int32) := by
  exact Eq.trans rfl rfl
theorem F_clearSyncs_16 (F : Nat → Int32) : F_clearSyncs F 16 = (F 16) := by
  exact Eq.trans rfl rfl
theorem F_clearSyncs_17 (F : Nat → Int32) : F_clearSyncs F 17 = (F 17) := by
  exact Eq.trans rfl rfl
theorem F_clearSyncs_18 (F : Nat → Int32) : F_clearSyncs F 18 = (F 18) := by
  exact Eq.trans rfl rfl
theorem run_clearSyncs {l : Launch} {Z : State} {a0 : Array Value} (H : OK Z a0) (F : Nat → Int32) (G : Nat → Int64) (A : Nat → Int32 → Int32) (B : Nat → Int32 → Int64) :
    Wk l Z (MoC Z cdC) md_clearSyncs 0 [.val (.ref 0)] [] (1, F, G, A, B) 0 0 (fun v w' => v = none ∧ w' = (1, (F_clearSyncs F), G, A, B)) :=
  wp_clearSyncs H F G A B ⟨rfl, rfl⟩
set_option maxRecDepth 65536 in
set_option maxHeartbeats 4000000 in
theorem wp_clearCells {l : Launch} {Z : State} {a0 : Array Value} (H : OK Z a0) (F : Nat → Int32) (G : Nat → Int64) (A : Nat → Int32 → Int32) (B : Nat → Int32 → Int64) {Q : Option Value → WO → Prop} (h1 : Wk l Z (MoC Z cdC) md_clearCells 2 [.val (.ref 0), .val (.int (0 : Int32))] [] (1, F, G, A, B) 0 0 Q) :
    Wk l Z (MoC Z cdC) md_clearCells 0 [.val (.ref 0), .unset] [] (1, F, G, A, B) 0 0 Q := by
  refine Wk.iconst o_clearCells_0 (z := (0 : Int32)) (by decide) ?_
  refine Wk.istoreN o_clearCells_1 (Or.inl rfl) (L' := [.val (.ref 0), .val (.int (0 : Int32))]) rfl ?_
  exact h1

set_option maxRecDepth 65536 in
set_option maxHeartbeats 4000000 in
theorem wp_clearCells_2 {l : Launch} {Z : State} {a0 : Array Value} (H : OK Z a0) (F : Nat → Int32) (G : Nat → Int64) (A : Nat → Int32 → Int32) (B : Nat → Int32 → Int64) (v1 : Int32) {Q : Option Value → WO → Prop} (h2 : ¬ v1 < (16 : Int32) → Q none (1, F, G, A, B)) (s3 : v1 < (16 : Int32) → ¬ v1 < 0) (h4 : v1 < (16 : Int32) → Wk l Z (MoC Z cdC) md_clearCells 2 [.val (.ref 0), .val (.int (v1 + (1 : Int32)))] [] (1, F, G, (ups A 0 (ups (A 0) v1 (0 : Int32))), B) 0 0 Q) :
    Wk l Z (MoC Z cdC) md_clearCells 2 [.val (.ref 0), .val (.int v1)] [] (1, F, G, A, B) 0 0 Q := by
  refine Wk.iloadN o_clearCells_2 rfl ?_
  refine Wk.bipush o_clearCells_3 (z := (16 : Int32)) (by decide) ?_
  refine Wk.icmp_ge o_clearCells_5 (fun q1 => ?_) (fun q1 => ?_)
  · exact Wk.ret mrC rfl o_clearCells_21 rfl (by decide) (by decide) (h2 q1)
  · refine Wk.aloadN o_clearCells_8 rfl ?_
    refine Wk.getA (mA_cell) (by decide) (i' := 1) rfl (wf_cell H) o_clearCells_9 ?_
    refine Wk.iloadN o_clearCells_12 rfl ?_
    refine Wk.iconst o_clearCells_13 (z := (0 : Int32)) (by decide) ?_
    refine Wk.iastore (coC H) (f := (A 0)) (mA_cell) rfl (by decide) (i' := 1) rfl (s3 q1) q1 o_clearCells_14 ?_
    refine Wk.iinc o_clearCells_15 rfl (z := (v1 + (1 : Int32))) rfl (L' := [.val (.ref 0), .val (.int (v1 + (1 : Int32)))]) rfl ?_
    refine Wk.goto o_clearCells_18 ?_
    exact (h4 q1)

def A_clearCells (A : Nat → Int32 → Int32) : Nat → Int32 → Int32 := (ups A 0 (fill (A 0) 16 (0 : Int32)))
theorem eA_clearCells (A : Nat → Int32 → Int32) : A_clearCells A = (ups A 0 (fill (A 0) 16 (0 : Int32))) := Eq.trans rfl rfl
theorem run_clearCells {l : Launch} {Z : State} {a0 : Array Value} (H : OK Z a0) (F : Nat → Int32) (G : Nat → Int64) (A : Nat → Int32 → Int32) (B : Nat → Int32 → Int64) :
    Wk l Z (MoC Z cdC) md_clearCells 0 [.val (.ref 0), .unset] [] (1, F, G, A, B) 0 0 (fun v w' => v = none ∧ w' = (1, F, G, (A_clearCells A), B)) := by
  refine wp_clearCells H F G A B ?_
  have key := loopUp (n := 16) (P := fun i => Wk l Z (MoC Z cdC) md_clearCells 2 [.val (.ref 0), .val (.int i)] [] (1, F, G, (ups A 0 (fill (A 0) i (0 : Int32))), B) 0 0 (fun v w' => v = none ∧ w' = (1, F, G, (ups A 0 (fill (A 0) 16 (0 : Int32))), B)))
    (wp_clearCells_2 H F G _ B 16 (fun _ => ⟨rfl, rfl⟩) (fun h => absurd h (by decide)) (fun h => absurd h (by decide)))
    (fun i h0 h1 ih => wp_clearCells_2 H F G _ B i (fun h => absurd h1 h) (fun _ => h0) (fun _ => by
      have e : ∀ A' : Nat → Int32 → Int32, A' = (ups A 0 (fill (A 0) (i + 1) (0 : Int32))) → Wk l Z (MoC Z cdC) md_clearCells 2 [.val (.ref 0), .val (.int (i + 1))] [] (1, F, G, A', B) 0 0 (fun v w' => v = none ∧ w' = (1, F, G, (ups A 0 (fill (A 0) 16 (0 : Int32))), B)) := fun A' e => by subst e; exact ih
      apply e
      funext j x
      simp only [ups, ← fill_succ _ _ h0 h1]
      repeat' split
      all_goals first | rfl | simp_all)) 0 (by decide) (by decide)
  simp only [fill_zero, ups_self] at key
  exact key
set_option maxRecDepth 65536 in
set_option maxHeartbeats 4000000 in
theorem wp_clearAll {l : Launch} {Z : State} {a0 : Array Value} (H : OK Z a0) (F : Nat → Int32) (G : Nat → Int64) (A : Nat → Int32 → Int32) (B : Nat → Int32 → Int64) {Q : Option Value → WO → Prop} (h1 : Q none (1, (ups (ups (ups (F_clearSyncs (F_clearReadSide (F_clearWriteSide F))) 16 (0 : Int32)) 17 (0 : Int32)) 18 (0 : Int32)), G, (A_clearCells A), B)) :
    Wk l Z (MoC Z cdC) md_clearAll 0 [.val (.ref 0)] [] (1, F, G, A, B) 0 0 Q := by
  refine Wk.aloadN o_clearAll_0 rfl ?_
  refine Wk.callU [] [] (H.w 28 rfl) (cv_clearWriteSide H) o_clearAll_1 (run_clearWriteSide H F G A B) (wt := 0) (cu' := 0) (su' := 0) (by decide) rfl rfl rfl rfl rfl rfl rfl ?_
  refine Wk.aloadN o_clearAll_4 rfl ?_
  refine Wk.callU [] [] (H.w 40 rfl) (cv_clearReadSide H) o_clearAll_5 (run_clearReadSide H (F_clearWriteSide F) G A B) (wt := 0) (cu' := 0) (su' := 0) (by decide) rfl rfl rfl rfl rfl rfl rfl ?_
  refine Wk.aloadN o_clearAll_8 rfl ?_
  refine Wk.callU [] [] (H.w 52 rfl) (cv_clearSyncs H) o_clearAll_9 (run_clearSyncs H (F_clearReadSide (F_clearWriteSide F)) G A B) (wt := 0) (cu' := 0) (su' := 0) (by decide) rfl rfl rfl rfl rfl rfl rfl ?_
  refine Wk.aloadN o_clearAll_12 rfl ?_
  refine Wk.callU [] [] (H.w 64 rfl) (cv_clearCells H) o_clearAll_13 (run_clearCells H (F_clearSyncs (F_clearReadSide (F_clearWriteSide F))) G A B) (wt := 0) (cu' := 0) (su' := 0) (by decide) rfl rfl rfl rfl rfl rfl rfl ?_
  refine Wk.aloadN o_clearAll_16 rfl ?_
  refine Wk.iconst o_clearAll_17 (z := (0 : Int32)) (by decide) ?_
  refine Wk.putI (coC H) (mI_lastRead) (wf_lastRead H) (Or.inl (wy_lastRead H)) o_clearAll_18 ?_
  refine Wk.aloadN o_clearAll_21 rfl ?_
  refine Wk.iconst o_clearAll_22 (z := (0 : Int32)) (by decide) ?_
  refine Wk.putI (coC H) (mI_totalW) (wf_totalW H) (Or.inl (wy_totalW H)) o_clearAll_23 ?_
  refine Wk.aloadN o_clearAll_26 rfl ?_
  refine Wk.iconst o_clearAll_27 (z := (0 : Int32)) (by decide) ?_
  refine Wk.putI (coC H) (mI_totalR) (wf_totalR H) (Or.inl (wy_totalR H)) o_clearAll_28 ?_
  exact Wk.ret mrC rfl o_clearAll_31 rfl (by decide) (by decide) h1

def F_clearAll (F : Nat → Int32) : Nat → Int32 := (ups (ups (ups (F_clearSyncs (F_clearReadSide (F_clearWriteSide F))) 16 (0 : Int32)) 17 (0 : Int32)) 18 (0 : Int32))
theorem eF_clearAll (F : Nat → Int32) : F_clearAll F = (ups (ups (ups (F_clearSyncs (F_clearReadSide (F_clearWriteSide F))) 16 (0 : Int32)) 17 (0 : Int32)) 18 (0 : Int32)) := Eq.trans rfl rfl
def A_clearAll (A : Nat → Int32 → Int32) : Nat → Int32 → Int32 := (A_clearCells A)
theorem eA_clearAll (A : Nat → Int32 → Int32) : A_clearAll A = (A_clearCells A) := Eq.trans rfl rfl
theorem F_clearAll_0 (F : Nat → Int32) : F_clearAll F 0 = (F 0) := by
  exact Eq.trans rfl (Eq.trans (F_clearSyncs_0 (F_clearReadSide (F_clearWriteSide F))) (Eq.trans (F_clearReadSide_0 (F_clearWriteSide F)) (F_clearWriteSide_0 F)))
theorem F_clearAll_1 (F : Nat → Int32) : F_clearAll F 1 = (F 1) := by
  exact Eq.trans rfl (Eq.trans (F_clearSyncs_1 (F_clearReadSide (F_clearWriteSide F))) (Eq.trans (F_clearReadSide_1 (F_clearWriteSide F)) (F_clearWriteSide_1 F)))
theorem F_clearAll_2 (F : Nat → Int32) : F_clearAll F 2 = (F 2) := by
  exact Eq.trans rfl (Eq.trans (F_clearSyncs_2 (F_clearReadSide (F_clearWriteSide F))) (Eq.trans (F_clearReadSide_2 (F_clearWriteSide F)) (F_clearWriteSide_2 F)))
theorem F_clearAll_3 (F : Nat → Int32) : F_clearAll F 3 = (F 3) := by
  exact Eq.trans rfl (Eq.trans (F_clearSyncs_3 (F_clearReadSide (F_clearWriteSide F))) (Eq.trans (F_clearReadSide_3 (F_clearWriteSide F)) (F_clearWriteSide_3 F)))
theorem F_clearAll_4 (F : Nat → Int32) : F_clearAll F 4 = (0 : Int32) := by
  exact Eq.trans rfl (Eq.trans (F_clearSyncs_4 (F_clearReadSide (F_clearWriteSide F))) (Eq.trans (F_clearReadSide_4 (F_clearWriteSide F)) (F_clearWriteSide_4 F)))
theorem F_clearAll_5 (F : Nat → Int32) : F_clearAll F 5 = (0 : Int32) := by
  exact Eq.trans rfl (Eq.trans (F_clearSyncs_5 (F_clearReadSide (F_clearWriteSide F))) (Eq.trans (F_clearReadSide_5 (F_clearWriteSide F)) (F_clearWriteSide_5 F)))
theorem F_clearAll_6 (F : Nat → Int32) : F_clearAll F 6 = (0 : Int32) := by
  exact Eq.trans rfl (Eq.trans (F_clearSyncs_6 (F_clearReadSide (F_clearWriteSide F))) (Eq.trans (F_clearReadSide_6 (F_clearWriteSide F)) (F_clearWriteSide_6 F)))
theorem F_clearAll_7 (F : Nat → Int32) : F_clearAll F 7 = (0 : Int32) := by
  exact Eq.trans rfl (Eq.trans (F_clearSyncs_7 (F_clearReadSide (F_clearWriteSide F))) (Eq.trans (F_clearReadSide_7 (F_clearWriteSide F)) (F_clearWriteSide_7 F)))
theorem F_clearAll_8 (F : Nat → Int32) : F_clearAll F 8 = (0 : Int32) := by
  exact Eq.trans rfl (Eq.trans (F_clearSyncs_8 (F_clearReadSide (F_clearWriteSide F))) (F_clearReadSide_8 (F_clearWriteSide F)))
theorem F_clearAll_9 (F : Nat → Int32) : F_clearAll F 9 = (0 : Int32) := by
  exact Eq.trans rfl (Eq.trans (F_clearSyncs_9 (F_clearReadSide (F_clearWriteSide F))) (F_clearReadSide_9 (F_clearWriteSide F)))
theorem F_clearAll_10 (F : Nat → Int32) : F_clearAll F 10 = (0 : Int32) := by
  exact Eq.trans rfl (Eq.trans (F_clearSyncs_10 (F_clearReadSide (F_clearWriteSide F))) (F_clearReadSide_10 (F_clearWriteSide F)))
theorem F_clearAll_11 (F : Nat → Int32) : F_clearAll F 11 = (0 : Int32) := by
  exact Eq.trans rfl (Eq.trans (F_clearSyncs_11 (F_clearReadSide (F_clearWriteSide F))) (F_clearReadSide_11 (F_clearWriteSide F)))
theorem F_clearAll_12 (F : Nat → Int32) : F_clearAll F 12 = (0 : Int32) := by
  exact Eq.trans rfl (F_clearSyncs_12 (F_clearReadSide (F_clearWriteSide F)))
theorem F_clearAll_13 (F : Nat → Int32) : F_clearAll F 13 = (0 : Int32) := by
  exact Eq.trans rfl (F_clearSyncs_13 (F_clearReadSide (F_clearWriteSide F)))
theorem F_clearAll_14 (F : Nat → Int32) : F_clearAll F 14 = (0 : Int32) := by
  exact Eq.trans rfl (F_clearSyncs_14 (F_clearReadSide (F_clearWriteSide F)))
theorem F_clearAll_15 (F : Nat → Int32) : F_clearAll F 15 = (0 : Int32) := by
  exact Eq.trans rfl (F_clearSyncs_15 (F_clearReadSide (F_clearWriteSide F)))
theorem F_clearAll_16 (F : Nat → Int32) : F_clearAll F 16 = (0 : Int32) := by
  exact Eq.trans rfl rfl
theorem F_clearAll_17 (F : Nat → Int32) : F_clearAll F 17 = (0 : Int32) := by
  exact Eq.trans rfl rfl
theorem F_clearAll_18 (F : Nat → Int32) : F_clearAll F 18 = (0 : Int32) := by
  exact Eq.trans rfl rfl
theorem run_clearAll {l : Launch} {Z : State} {a0 : Array Value} (H : OK Z a0) (F : Nat → Int32) (G : Nat → Int64) (A : Nat → Int32 → Int32) (B : Nat → Int32 → Int64) :
    Wk l Z (MoC Z cdC) md_clearAll 0 [.val (.ref 0)] [] (1, F, G, A, B) 0 0 (fun v w' => v = none ∧ w' = (1, (F_clearAll F), G, (A_clearAll A), B)) :=
  wp_clearAll H F G A B ⟨rfl, rfl⟩
set_option maxRecDepth 65536 in
set_option maxHeartbeats 4000000 in
theorem wp_init {l : Launch} {Z : State} {a0 : Array Value} (H : OK Z a0) (p1 : Int32) (p2 : Int32) {Q : Option Value → WO → Prop} (h1 : Q none (1, (F_clearAll (ups (ups (ups (ups (fun _ => 0) 0 ((1 : Int32) <<< ((f_clampInt p1 (2 : Int32) (4 : Int32)) &&& 31))) 2 ((f_clampInt p1 (2 : Int32) (4 : Int32)) + (1 : Int32))) 3 (((1 : Int32) <<< ((f_clampInt p1 (2 : Int32) (4 : Int32)) &&& 31)) <<< ((1 : Int32) &&& 31))) 1 (f_clampInt p2 (1 : Int32) ((1 : Int32) <<< ((f_clampInt p1 (2 : Int32) (4 : Int32)) &&& 31))))), (fun _ => 0), (A_clearAll (fun _ _ => 0)), (fun _ _ => 0))) :
    Wk l Z (MoC Z cdC) md_init 0 [.val (.ref 0), .val (.int p1), .val (.int p2), .unset] [] (0, (fun _ => 0), (fun _ => 0), (fun _ _ => 0), (fun _ _ => 0)) 0 0 Q := by
  refine Wk.aloadN o_init_0 rfl ?_
  refine Wk.initO (H.w 6 rfl) (H.w 7 rfl) (H.w 8 rfl) o_init_1 rfl (by decide) (by decide) ?_
  refine Wk.aloadN o_init_4 rfl ?_
  refine Wk.bipush o_init_5 (z := (16 : Int32)) (by decide) ?_
  refine Wk.newA (coC H) (aty := .int) rfl (wa_int H) (mA_cell) (wf_cell H) (Or.inl (wy_cell H)) o_init_7 o_init_9 rfl rfl (k' := 1) rfl (cu' := 1) rfl (su' := 16) rfl (by decide) (by decide) (by decide) ?_
  refine Wk.aloadN o_init_12 rfl ?_
  refine Wk.iloadN o_init_13 rfl ?_
  refine Wk.iconst o_init_14 (z := (2 : Int32)) (by decide) ?_
  refine Wk.iconst o_init_15 (z := (4 : Int32)) (by decide) ?_
  refine Wk.callF [.int p1, .int (2 : Int32), .int (4 : Int32)] [] (H.w 12 rfl) (cv_clampInt H) o_init_16 (run_clampInt H (fun _ => 0) (fun _ => 0) (fun _ _ => 0) (fun _ _ => 0) p1 (2 : Int32) (4 : Int32)) (wt := 0) (cu' := 1) (su' := 16) (by decide) rfl rfl rfl rfl rfl rfl rfl ?_
  refine Wk.istoreN o_init_19 (Or.inl rfl) (L' := [.val (.ref 0), .val (.int p1), .val (.int p2), .val (.int (f_clampInt p1 (2 : Int32) (4 : Int32)))]) rfl ?_
  refine Wk.aloadN o_init_20 rfl ?_
  refine Wk.iconst o_init_21 (z := (1 : Int32)) (by decide) ?_
  refine Wk.iloadN o_init_22 rfl ?_
  refine Wk.ishl o_init_23 ?_
  refine Wk.putI (coC H) (mI_depth) (wf_depth H) (Or.inl (wy_depth H)) o_init_24 ?_
  refine Wk.aloadN o_init_27 rfl ?_
  refine Wk.iloadN o_init_28 rfl ?_
  refine Wk.iconst o_init_29 (z := (1 : Int32)) (by decide) ?_
  refine Wk.iadd o_init_30 ?_
  refine Wk.putI (coC H) (mI_width) (wf_width H) (Or.inl (wy_width H)) o_init_31 ?_
  refine Wk.aloadN o_init_34 rfl ?_
  refine Wk.aloadN o_init_35 rfl ?_
  refine Wk.getI (mI_depth) (wf_depth H) o_init_36 (x := ((1 : Int32) <<< ((f_clampInt p1 (2 : Int32) (4 : Int32)) &&& 31))) rfl ?_
  refine Wk.iconst o_init_39 (z := (1 : Int32)) (by decide) ?_
  refine Wk.ishl o_init_40 ?_
  refine Wk.putI (coC H) (mI_modulus) (wf_modulus H) (Or.inl (wy_modulus H)) o_init_41 ?_
  refine Wk.aloadN o_init_44 rfl ?_
  refine Wk.aloadN o_init_45 rfl ?_
  refine Wk.iloadN o_init_46 rfl ?_
  refine Wk.iconst o_init_47 (z := (1 : Int32)) (by decide) ?_
  refine Wk.aloadN o_init_48 rfl ?_
  refine Wk.getI (mI_depth) (wf_depth H) o_init_49 (x := ((1 : Int32) <<< ((f_clampInt p1 (2 : Int32) (4 : Int32)) &&& 31))) rfl ?_
  refine Wk.callF [.int p2, .int (1 : Int32), .int ((1 : Int32) <<< ((f_clampInt p1 (2 : Int32) (4 : Int32)) &&& 31))] [.ref 0] (H.w 12 rfl) (cv_clampInt H) o_init_52 (run_clampInt H (ups (ups (ups (fun _ => 0) 0 ((1 : Int32) <<< ((f_clampInt p1 (2 : Int32) (4 : Int32)) &&& 31))) 2 ((f_clampInt p1 (2 : Int32) (4 : Int32)) + (1 : Int32))) 3 (((1 : Int32) <<< ((f_clampInt p1 (2 : Int32) (4 : Int32)) &&& 31)) <<< ((1 : Int32) &&& 31))) (fun _ => 0) (fun _ _ => 0) (fun _ _ => 0) p2 (1 : Int32) ((1 : Int32) <<< ((f_clampInt p1 (2 : Int32) (4 : Int32)) &&& 31))) (wt := 1) (cu' := 1) (su' := 16) (by decide) rfl rfl rfl rfl rfl rfl rfl ?_
  refine Wk.putI (coC H) (mI_almost) (wf_almost H) (Or.inl (wy_almost H)) o_init_55 ?_
  refine Wk.aloadN o_init_58 rfl ?_
  refine Wk.callU [] [] (H.w 24 rfl) (cv_clearAll H) o_init_59 (run_clearAll H (ups (ups (ups (ups (fun _ => 0) 0 ((1 : Int32) <<< ((f_clampInt p1 (2 : Int32) (4 : Int32)) &&& 31))) 2 ((f_clampInt p1 (2 : Int32) (4 : Int32)) + (1 : Int32))) 3 (((1 : Int32) <<< ((f_clampInt p1 (2 : Int32) (4 : Int32)) &&& 31)) <<< ((1 : Int32) &&& 31))) 1 (f_clampInt p2 (1 : Int32) ((1 : Int32) <<< ((f_clampInt p1 (2 : Int32) (4 : Int32)) &&& 31)))) (fun _ => 0) (fun _ _ => 0) (fun _ _ => 0)) (wt := 0) (cu' := 1) (su' := 16) (by decide) rfl rfl rfl rfl rfl rfl rfl ?_
  exact Wk.ret mrC rfl o_init_62 rfl (by decide) (by decide) h1

def F_init (p1 : Int32) (p2 : Int32) : Nat → Int32 := (F_clearAll (ups (ups (ups (ups (fun _ => 0) 0 ((1 : Int32) <<< ((f_clampInt p1 (2 : Int32) (4 : Int32)) &&& 31))) 2 ((f_clampInt p1 (2 : Int32) (4 : Int32)) + (1 : Int32))) 3 (((1 : Int32) <<< ((f_clampInt p1 (2 : Int32) (4 : Int32)) &&& 31)) <<< ((1 : Int32) &&& 31))) 1 (f_clampInt p2 (1 : Int32) ((1 : Int32) <<< ((f_clampInt p1 (2 : Int32) (4 : Int32)) &&& 31)))))
theorem eF_init (p1 : Int32) (p2 : Int32) : F_init p1 p2 = (F_clearAll (ups (ups (ups (ups (fun _ => 0) 0 ((1 : Int32) <<< ((f_clampInt p1 (2 : Int32) (4 : Int32)) &&& 31))) 2 ((f_clampInt p1 (2 : Int32) (4 : Int32)) + (1 : Int32))) 3 (((1 : Int32) <<< ((f_clampInt p1 (2 : Int32) (4 : Int32)) &&& 31)) <<< ((1 : Int32) &&& 31))) 1 (f_clampInt p2 (1 : Int32) ((1 : Int32) <<< ((f_clampInt p1 (2 : Int32) (4 : Int32)) &&& 31))))) := Eq.trans rfl rfl
def A_init (p1 : Int32) (p2 : Int32) : Nat → Int32 → Int32 := (A_clearAll (fun _ _ => 0))
theorem eA_init (p1 : Int32) (p2 : Int32) : A_init p1 p2 = (A_clearAll (fun _ _ => 0)) := Eq.trans rfl rfl
theorem F_init_0 (p1 : Int32) (p2 : Int32) : F_init p1 p2 0 = ((1 : Int32) <<< ((f_clampInt p1 (2 : Int32) (4 : Int32)) &&& 31)) := by
  exact Eq.trans rfl (F_clearAll_0 (ups (ups (ups (ups (fun _ => 0) 0 ((1 : Int32) <<< ((f_clampInt p1 (2 : Int32) (4 : Int32)) &&& 31))) 2 ((f_clampInt p1 (2 : Int32) (4 : Int32)) + (1 : Int32))) 3 (((1 : Int32) <<< ((f_clampInt p1 (2 : Int32) (4 : Int32)) &&& 31)) <<< ((1 : Int32) &&& 31))) 1 (f_clampInt p2 (1 : Int32) ((1 : Int32) <<< ((f_clampInt p1 (2 : Int32) (4 : Int32)) &&& 31)))))
theorem F_init_1 (p1 : Int32) (p2 : Int32) : F_init p1 p2 1 = (f_clampInt p2 (1 : Int32) ((1 : Int32) <<< ((f_clampInt p1 (2 : Int32) (4 : Int32)) &&& 31))) := by
  exact Eq.trans rfl (F_clearAll_1 (ups (ups (ups (ups (fun _ => 0) 0 ((1 : Int32) <<< ((f_clampInt p1 (2 : Int32) (4 : Int32)) &&& 31))) 2 ((f_clampInt p1 (2 : Int32) (4 : Int32)) + (1 : Int32))) 3 (((1 : Int32) <<< ((f_clampInt p1 (2 : Int32) (4 : Int32)) &&& 31)) <<< ((1 : Int32) &&& 31))) 1 (f_clampInt p2 (1 : Int32) ((1 : Int32) <<< ((f_clampInt p1 (2 : Int32) (4 : Int32)) &&& 31)))))
theorem F_init_2 (p1 : Int32) (p2 : Int32) : F_init p1 p2 2 = ((f_clampInt p1 (2 : Int32) (4 : Int32)) + (1 : Int32)) := by
  exact Eq.trans rfl (F_clearAll_2 (ups (ups (ups (ups (fun _ => 0) 0 ((1 : Int32) <<< ((f_clampInt p1 (2 : Int32) (4 : Int32)) &&& 31))) 2 ((f_clampInt p1 (2 : Int32) (4 : Int32)) + (1 : Int32))) 3 (((1 : Int32) <<< ((f_clampInt p1 (2 : Int32) (4 : Int32)) &&& 31)) <<< ((1 : Int32) &&& 31))) 1 (f_clampInt p2 (1 : Int32) ((1 : Int32) <<< ((f_clampInt p1 (2 : Int32) (4 : Int32)) &&& 31)))))
theorem F_init_3 (p1 : Int32) (p2 : Int32) : F_init p1 p2 3 = (((1 : Int32) <<< ((f_clampInt p1 (2 : Int32) (4 : Int32)) &&& 31)) <<< ((1 : Int32) &&& 31)) := by
  exact Eq.trans rfl (F_clearAll_3 (ups (ups (ups (ups (fun _ => 0) 0 ((1 : Int32) <<< ((f_clampInt p1 (2 : Int32) (4 : Int32)) &&& 31))) 2 ((f_clampInt p1 (2 : Int32) (4 : Int32)) + (1 : Int32))) 3 (((1 : Int32) <<< ((f_clampInt p1 (2 : Int32) (4 : Int32)) &&& 31)) <<< ((1 : Int32) &&& 31))) 1 (f_clampInt p2 (1 : Int32) ((1 : Int32) <<< ((f_clampInt p1 (2 : Int32) (4 : Int32)) &&& 31)))))
theorem F_init_4 (p1 : Int32) (p2 : Int32) : F_init p1 p2 4 = (0 : Int32) := by
  exact Eq.trans rfl (F_clearAll_4 (ups (ups (ups (ups (fun _ => 0) 0 ((1 : Int32) <<< ((f_clampInt p1 (2 : Int32) (4 : Int32)) &&& 31))) 2 ((f_clampInt p1 (2 : Int32) (4 : Int32)) + (1 : Int32))) 3 (((1 : Int32) <<< ((f_clampInt p1 (2 : Int32) (4 : Int32)) &&& 31)) <<< ((1 : Int32) &&& 31))) 1 (f_clampInt p2 (1 : Int32) ((1 : Int32) <<< ((f_clampInt p1 (2 : Int32) (4 : Int32)) &&& 31)))))
theorem F_init_5 (p1 : Int32) (p2 : Int32) : F_init p1 p2 5 = (0 : Int32) := by
  exact Eq.trans rfl (F_clearAll_5 (ups (ups (ups (ups (fun _ => 0) 0 ((1 : Int32) <<< ((f_clampInt p1 (2 : Int32) (4 : Int32)) &&& 31))) 2 ((f_clampInt p1 (2 : Int32) (4 : Int32)) + (1 : Int32))) 3 (((1 : Int32) <<< ((f_clampInt p1 (2 : Int32) (4 : Int32)) &&& 31)) <<< ((1 : Int32) &&& 31))) 1 (f_clampInt p2 (1 : Int32) ((1 : Int32) <<< ((f_clampInt p1 (2 : Int32) (4 : Int32)) &&& 31)))))
theorem F_init_6 (p1 : Int32) (p2 : Int32) : F_init p1 p2 6 = (0 : Int32) := by
  exact Eq.trans rfl (F_clearAll_6 (ups (ups (ups (ups (fun _ => 0) 0 ((1 : Int32) <<< ((f_clampInt p1 (2 : Int32) (4 : Int32)) &&& 31))) 2 ((f_clampInt p1 (2 : Int32) (4 : Int32)) + (1 : Int32))) 3 (((1 : Int32) <<< ((f_clampInt p1 (2 : Int32) (4 : Int32)) &&& 31)) <<< ((1 : Int32) &&& 31))) 1 (f_clampInt p2 (1 : Int32) ((1 : Int32) <<< ((f_clampInt p1 (2 : Int32) (4 : Int32)) &&& 31)))))
theorem F_init_7 (p1 : Int32) (p2 : Int32) : F_init p1 p2 7 = (0 : Int32) := by
  exact Eq.trans rfl (F_clearAll_7 (ups (ups (ups (ups (fun _ => 0) 0 ((1 : Int32) <<< ((f_clampInt p1 (2 : Int32) (4 : Int32)) &&& 31))) 2 ((f_clampInt p1 (2 : Int32) (4 : Int32)) + (1 : Int32))) 3 (((1 : Int32) <<< ((f_clampInt p1 (2 : Int32) (4 : Int32)) &&& 31)) <<< ((1 : Int32) &&& 31))) 1 (f_clampInt p2 (1 : Int32) ((1 : Int32) <<< ((f_clampInt p1 (2 : Int32) (4 : Int32)) &&& 31)))))
theorem F_init_8 (p1 : Int32) (p2 : Int32) : F_init p1 p2 8 = (0 : Int32) := by
  exact Eq.trans rfl (F_clearAll_8 (ups (ups (ups (ups (fun _ => 0) 0 ((1 : Int32) <<< ((f_clampInt p1 (2 : Int32) (4 : Int32)) &&& 31))) 2 ((f_clampInt p1 (2 : Int32) (4 : Int32)) + (1 : Int32))) 3 (((1 : Int32) <<< ((f_clampInt p1 (2 : Int32) (4 : Int32)) &&& 31)) <<< ((1 : Int32) &&& 31))) 1 (f_clampInt p2 (1 : Int32) ((1 : Int32) <<< ((f_clampInt p1 (2 : Int32) (4 : Int32)) &&& 31)))))
theorem F_init_9 (p1 : Int32) (p2 : Int32) : F_init p1 p2 9 = (0 : Int32) := by
  exact Eq.trans rfl (F_clearAll_9 (ups (ups (ups (ups (fun _ => 0) 0 ((1 : Int32) <<< ((f_clampInt p1 (2 : Int32) (4 : Int32)) &&& 31))) 2 ((f_clampInt p1 (2 : Int32) (4 : Int32)) + (1 : Int32))) 3 (((1 : Int32) <<< ((f_clampInt p1 (2 : Int32) (4 : Int32)) &&& 31)) <<< ((1 : Int32) &&& 31))) 1 (f_clampInt p2 (1 : Int32) ((1 : Int32) <<< ((f_clampInt p1 (2 : Int32) (4 : Int32)) &&& 31)))))
theorem F_init_10 (p1 : Int32) (p2 : Int32) : F_init p1 p2 10 = (0 : Int32) := by
  exact Eq.trans rfl (F_clearAll_10 (ups (ups (ups (ups (fun _ => 0) 0 ((1 : Int32) <<< ((f_clampInt p1 (2 : Int32) (4 : Int32)) &&& 31))) 2 ((f_clampInt p1 (2 : Int32) (4 : Int32)) + (1 : Int32))) 3 (((1 : Int32) <<< ((f_clampInt p1 (2 : Int32) (4 : Int32)) &&& 31)) <<< ((1 : Int32) &&& 31))) 1 (f_clampInt p2 (1 : Int32) ((1 : Int32) <<< ((f_clampInt p1 (2 : Int32) (4 : Int32)) &&& 31)))))
theorem F_init_11 (p1 : Int32) (p2 : Int32) : F_init p1 p2 11 = (0 : Int32) := by
  exact Eq.trans rfl (F_clearAll_11 (ups (ups (ups (ups (fun _ => 0) 0 ((1 : Int32) <<< ((f_clampInt p1 (2 : Int32) (4 : Int32)) &&& 31))) 2 ((f_clampInt p1 (2 : Int32) (4 : Int32)) + (1 : Int32))) 3 (((1 : Int32) <<< ((f_clampInt p1 (2 : Int32) (4 : Int32)) &&& 31)) <<< ((1 : Int32) &&& 31))) 1 (f_clampInt p2 (1 : Int32) ((1 : Int32) <<< ((f_clampInt p1 (2 : Int32) (4 : Int32)) &&& 31)))))
theorem F_init_12 (p1 : Int32) (p2 : Int32) : F_init p1 p2 12 = (0 : Int32) := by
  exact Eq.trans rfl (F_clearAll_12 (ups (ups (ups (ups (fun _ => 0) 0 ((1 : Int32) <<< ((f_clampInt p1 (2 : Int32) (4 : Int32)) &&& 31))) 2 ((f_clampInt p1 (2 : Int32) (4 : Int32)) + (1 : Int32))) 3 (((1 : Int32) <<< ((f_clampInt p1 (2 : Int32) (4 : Int32)) &&& 31)) <<< ((1 : Int32) &&& 31))) 1 (f_clampInt p2 (1 : Int32) ((1 : Int32) <<< ((f_clampInt p1 (2 : Int32) (4 : Int32)) &&& 31)))))
theorem F_init_13 (p1 : Int32) (p2 : Int32) : F_init p1 p2 13 = (0 : Int32) := by
  exact Eq.trans rfl (F_clearAll_13 (ups (ups (ups (ups (fun _ => 0) 0 ((1 : Int32) <<< ((f_clampInt p1 (2 : Int32) (4 : Int32)) &&& 31))) 2 ((f_clampInt p1 (2 : Int32) (4 : Int32)) + (1 : Int32))) 3 (((1 : Int32) <<< ((f_clampInt p1 (2 : Int32) (4 : Int32)) &&& 31)) <<< ((1 : Int32) &&& 31))) 1 (f_clampInt p2 (1 : Int32) ((1 : Int32) <<< ((f_clampInt p1 (2 : Int32) (4 : Int32)) &&& 31)))))
theorem F_init_14 (p1 : Int32) (p2 : Int32) : F_init p1 p2 14 = (0 : Int32) := by
  exact Eq.trans rfl (F_clearAll_14 (ups (ups (ups (ups (fun _ => 0) 0 ((1 : Int32) <<< ((f_clampInt p1 (2 : Int32) (4 : Int32)) &&& 31))) 2 ((f_clampInt p1 (2 : Int32) (4 : Int32)) + (1 : Int32))) 3 (((1 : Int32) <<< ((f_clampInt p1 (2 : Int32) (4 : Int32)) &&& 31)) <<< ((1 : Int32) &&& 31))) 1 (f_clampInt p2 (1 : Int32) ((1 : Int32) <<< ((f_clampInt p1 (2 : Int32) (4 : Int32)) &&& 31)))))
theorem F_init_15 (p1 : Int32) (p2 : Int32) : F_init p1 p2 15 = (0 : Int32) := by
  exact Eq.trans rfl (F_clearAll_15 (ups (ups (ups (ups (fun _ => 0) 0 ((1 : Int32) <<< ((f_clampInt p1 (2 : Int32) (4 : Int32)) &&& 31))) 2 ((f_clampInt p1 (2 : Int32) (4 : Int32)) + (1 : Int32))) 3 (((1 : Int32) <<< ((f_clampInt p1 (2 : Int32) (4 : Int32)) &&& 31)) <<< ((1 : Int32) &&& 31))) 1 (f_clampInt p2 (1 : Int32) ((1 : Int32) <<< ((f_clampInt p1 (2 : Int32) (4 : Int32)) &&& 31)))))
theorem F_init_16 (p1 : Int32) (p2 : Int32) : F_init p1 p2 16 = (0 : Int32) := by
  exact Eq.trans rfl (F_clearAll_16 (ups (ups (ups (ups (fun _ => 0) 0 ((1 : Int32) <<< ((f_clampInt p1 (2 : Int32) (4 : Int32)) &&& 31))) 2 ((f_clampInt p1 (2 : Int32) (4 : Int32)) + (1 : Int32))) 3 (((1 : Int32) <<< ((f_clampInt p1 (2 : Int32) (4 : Int32)) &&& 31)) <<< ((1 : Int32) &&& 31))) 1 (f_clampInt p2 (1 : Int32) ((1 : Int32) <<< ((f_clampInt p1 (2 : Int32) (4 : Int32)) &&& 31)))))
theorem F_init_17 (p1 : Int32) (p2 : Int32) : F_init p1 p2 17 = (0 : Int32) := by
  exact Eq.trans rfl (F_clearAll_17 (ups (ups (ups (ups (fun _ => 0) 0 ((1 : Int32) <<< ((f_clampInt p1 (2 : Int32) (4 : Int32)) &&& 31))) 2 ((f_clampInt p1 (2 : Int32) (4 : Int32)) + (1 : Int32))) 3 (((1 : Int32) <<< ((f_clampInt p1 (2 : Int32) (4 : Int32)) &&& 31)) <<< ((1 : Int32) &&& 31))) 1 (f_clampInt p2 (1 : Int32) ((1 : Int32) <<< ((f_clampInt p1 (2 : Int32) (4 : Int32)) &&& 31)))))
theorem F_init_18 (p1 : Int32) (p2 : Int32) : F_init p1 p2 18 = (0 : Int32) := by
  exact Eq.trans rfl (F_clearAll_18 (ups (ups (ups (ups (fun _ => 0) 0 ((1 : Int32) <<< ((f_clampInt p1 (2 : Int32) (4 : Int32)) &&& 31))) 2 ((f_clampInt p1 (2 : Int32) (4 : Int32)) + (1 : Int32))) 3 (((1 : Int32) <<< ((f_clampInt p1 (2 : Int32) (4 : Int32)) &&& 31)) <<< ((1 : Int32) &&& 31))) 1 (f_clampInt p2 (1 : Int32) ((1 : Int32) <<< ((f_clampInt p1 (2 : Int32) (4 : Int32)) &&& 31)))))
theorem run_init {l : Launch} {Z : State} {a0 : Array Value} (H : OK Z a0)  (p1 : Int32) (p2 : Int32) :
    Wk l Z (MoC Z cdC) md_init 0 [.val (.ref 0), .val (.int p1), .val (.int p2), .unset] [] (0, (fun _ => 0), (fun _ => 0), (fun _ _ => 0), (fun _ _ => 0)) 0 0 (fun v w' => v = none ∧ w' = (1, (F_init p1 p2), (fun _ => 0), (A_init p1 p2), (fun _ _ => 0))) :=
  wp_init H p1 p2 ⟨rfl, rfl⟩
set_option maxRecDepth 65536 in
set_option maxHeartbeats 4000000 in
theorem wp_getConfig {l : Launch} {Z : State} {a0 : Array Value} (H : OK Z a0) (F : Nat → Int32) (G : Nat → Int64) (A : Nat → Int32 → Int32) (B : Nat → Int32 → Int64) (p1 : Int32) {Q : Option Value → WO → Prop} (h4 : ¬ p1 = 0 → ¬ p1 = (1 : Int32) → ¬ p1 = (2 : Int32) → Q (some (.int (-1 : Int32))) (1, F, G, A, B)) (h5 : ¬ p1 = 0 → ¬ p1 = (1 : Int32) → p1 = (2 : Int32) → Q (some (.int (F 2))) (1, F, G, A, B)) (h6 : ¬ p1 = 0 → p1 = (1 : Int32) → Q (some (.int (F 1))) (1, F, G, A, B)) (h7 : p1 = 0 → Q (some (.int (F 0))) (1, F, G, A, B)) :
    Wk l Z (MoC Z cdC) md_getConfig 0 [.val (.ref 0), .val (.int p1)] [] (1, F, G, A, B) 0 0 Q := by
  refine Wk.iloadN o_getConfig_0 rfl ?_
  refine Wk.if_ne o_getConfig_1 (fun q1 => ?_) (fun q1 => ?_)
  · refine Wk.iloadN o_getConfig_9 rfl ?_
    refine Wk.iconst o_getConfig_10 (z := (1 : Int32)) (by decide) ?_
    refine Wk.icmp_ne o_getConfig_11 (fun q2 => ?_) (fun q2 => ?_)
    · refine Wk.iloadN o_getConfig_19 rfl ?_
      refine Wk.iconst o_getConfig_20 (z := (2 : Int32)) (by decide) ?_
      refine Wk.icmp_ne o_getConfig_21 (fun q3 => ?_) (fun q3 => ?_)
      · refine Wk.iconst o_getConfig_29 (z := (-1 : Int32)) (by decide) ?_
        exact Wk.ireturn mrC rfl o_getConfig_30 rfl (by decide) (by decide) (h4 q1 q2 q3)
      · refine Wk.aloadN o_getConfig_24 rfl ?_
        refine Wk.getI (mI_width) (wf_width H) o_getConfig_25 (x := (F 2)) rfl ?_
        exact Wk.ireturn mrC rfl o_getConfig_28 rfl (by decide) (by decide) (h5 q1 q2 q3)
    · refine Wk.aloadN o_getConfig_14 rfl ?_
      refine Wk.getI (mI_almost) (wf_almost H) o_getConfig_15 (x := (F 1)) rfl ?_
      exact Wk.ireturn mrC rfl o_getConfig_18 rfl (by decide) (by decide) (h6 q1 q2)
  · refine Wk.aloadN o_getConfig_4 rfl ?_
    refine Wk.getI (mI_depth) (wf_depth H) o_getConfig_5 (x := (F 0)) rfl ?_
    exact Wk.ireturn mrC rfl o_getConfig_8 rfl (by decide) (by decide) (h7 q1)

def f_getConfig (F : Nat → Int32) (p1 : Int32) : Int32 := (if p1 = 0 then (F 0) else (if p1 = (1 : Int32) then (F 1) else (if p1 = (2 : Int32) then (F 2) else (-1 : Int32))))
theorem e_getConfig (F : Nat → Int32) (p1 : Int32) : f_getConfig F p1 = (if p1 = 0 then (F 0) else (if p1 = (1 : Int32) then (F 1) else (if p1 = (2 : Int32) then (F 2) else (-1 : Int32)))) := Eq.trans rfl rfl
theorem run_getConfig {l : Launch} {Z : State} {a0 : Array Value} (H : OK Z a0) (F : Nat → Int32) (G : Nat → Int64) (A : Nat → Int32 → Int32) (B : Nat → Int32 → Int64) (p1 : Int32) :
    Wk l Z (MoC Z cdC) md_getConfig 0 [.val (.ref 0), .val (.int p1)] [] (1, F, G, A, B) 0 0 (fun v w' => v = some (.int (f_getConfig F p1)) ∧ w' = (1, F, G, A, B)) :=
  wp_getConfig H F G A B p1 (fun q1 q2 q3 => ⟨by simp only [e_getConfig, if_neg q1, if_neg q2, if_neg q3], rfl⟩) (fun q1 q2 q3 => ⟨by simp only [e_getConfig, if_neg q1, if_neg q2, if_pos q3], rfl⟩) (fun q1 q2 => ⟨by simp only [e_getConfig, if_neg q1, if_pos q2], rfl⟩) (fun q1 => ⟨by simp only [e_getConfig, if_pos q1], rfl⟩)
set_option maxRecDepth 65536 in
set_option maxHeartbeats 4000000 in
theorem wp_getTotal {l : Launch} {Z : State} {a0 : Array Value} (H : OK Z a0) (F : Nat → Int32) (G : Nat → Int64) (A : Nat → Int32 → Int32) (B : Nat → Int32 → Int64) (p1 : Int32) {Q : Option Value → WO → Prop} (h3 : ¬ p1 = 0 → ¬ p1 = (1 : Int32) → Q (some (.int (-1 : Int32))) (1, F, G, A, B)) (h4 : ¬ p1 = 0 → p1 = (1 : Int32) → Q (some (.int (F 18))) (1, F, G, A, B)) (h5 : p1 = 0 → Q (some (.int (F 17))) (1, F, G, A, B)) :
    Wk l Z (MoC Z cdC) md_getTotal 0 [.val (.ref 0), .val (.int p1)] [] (1, F, G, A, B) 0 0 Q := by
  refine Wk.iloadN o_getTotal_0 rfl ?_
  refine Wk.if_ne o_getTotal_1 (fun q1 => ?_) (fun q1 => ?_)
  · refine Wk.iloadN o_getTotal_9 rfl ?_
    refine Wk.iconst o_getTotal_10 (z := (1 : Int32)) (by decide) ?_
    refine Wk.icmp_ne o_getTotal_11 (fun q2 => ?_) (fun q2 => ?_)
    · refine Wk.iconst o_getTotal_19 (z := (-1 : Int32)) (by decide) ?_
      exact Wk.ireturn mrC rfl o_getTotal_20 rfl (by decide) (by decide) (h3 q1 q2)
    · refine Wk.aloadN o_getTotal_14 rfl ?_
      refine Wk.getI (mI_totalR) (wf_totalR H) o_getTotal_15 (x := (F 18)) rfl ?_
      exact Wk.ireturn mrC rfl o_getTotal_18 rfl (by decide) (by decide) (h4 q1 q2)
  · refine Wk.aloadN o_getTotal_4 rfl ?_
    refine Wk.getI (mI_totalW) (wf_totalW H) o_getTotal_5 (x := (F 17)) rfl ?_
    exact Wk.ireturn mrC rfl o_getTotal_8 rfl (by decide) (by decide) (h5 q1)

def f_getTotal (F : Nat → Int32) (p1 : Int32) : Int32 := (if p1 = 0 then (F 17) else (if p1 = (1 : Int32) then (F 18) else (-1 : Int32)))
theorem e_getTotal (F : Nat → Int32) (p1 : Int32) : f_getTotal F p1 = (if p1 = 0 then (F 17) else (if p1 = (1 : Int32) then (F 18) else (-1 : Int32))) := Eq.trans rfl rfl
theorem run_getTotal {l : Launch} {Z : State} {a0 : Array Value} (H : OK Z a0) (F : Nat → Int32) (G : Nat → Int64) (A : Nat → Int32 → Int32) (B : Nat → Int32 → Int64) (p1 : Int32) :
    Wk l Z (MoC Z cdC) md_getTotal 0 [.val (.ref 0), .val (.int p1)] [] (1, F, G, A, B) 0 0 (fun v w' => v = some (.int (f_getTotal F p1)) ∧ w' = (1, F, G, A, B)) :=
  wp_getTotal H F G A B p1 (fun q1 q2 => ⟨by simp only [e_getTotal, if_neg q1, if_neg q2], rfl⟩) (fun q1 q2 => ⟨by simp only [e_getTotal, if_neg q1, if_pos q2], rfl⟩) (fun q1 => ⟨by simp only [e_getTotal, if_pos q1], rfl⟩)
set_option maxRecDepth 65536 in
set_option maxHeartbeats 4000000 in
theorem wp_pointerMask {l : Launch} {Z : State} {a0 : Array Value} (H : OK Z a0) (F : Nat → Int32) (G : Nat → Int64) (A : Nat → Int32 → Int32) (B : Nat → Int32 → Int64) {Q : Option Value → WO → Prop} (h1 : Q (some (.int ((F 3) - (1 : Int32)))) (1, F, G, A, B)) :
    Wk l Z (MoC Z cdC) md_pointerMask 0 [.val (.ref 0)] [] (1, F, G, A, B) 0 0 Q := by
  refine Wk.aloadN o_pointerMask_0 rfl ?_
  refine Wk.getI (mI_modulus) (wf_modulus H) o_pointerMask_1 (x := (F 3)) rfl ?_
  refine Wk.iconst o_pointerMask_4 (z := (1 : Int32)) (by decide) ?_
  refine Wk.isub o_pointerMask_5 ?_
  exact Wk.ireturn mrC rfl o_pointerMask_6 rfl (by decide) (by decide) h1

def f_pointerMask (F : Nat → Int32) : Int32 := ((F 3) - (1 : Int32))
theorem e_pointerMask (F : Nat → Int32) : f_pointerMask F = ((F 3) - (1 : Int32)) := Eq.trans rfl rfl
theorem run_pointerMask {l : Launch} {Z : State} {a0 : Array Value} (H : OK Z a0) (F : Nat → Int32) (G : Nat → Int64) (A : Nat → Int32 → Int32) (B : Nat → Int32 → Int64) :
    Wk l Z (MoC Z cdC) md_pointerMask 0 [.val (.ref 0)] [] (1, F, G, A, B) 0 0 (fun v w' => v = some (.int (f_pointerMask F)) ∧ w' = (1, F, G, A, B)) :=
  wp_pointerMask H F G A B ⟨rfl, rfl⟩
set_option maxRecDepth 65536 in
set_option maxHeartbeats 4000000 in
theorem wp_modPointer {l : Launch} {Z : State} {a0 : Array Value} (H : OK Z a0) (F : Nat → Int32) (G : Nat → Int64) (A : Nat → Int32 → Int32) (B : Nat → Int32 → Int64) (p1 : Int32) {Q : Option Value → WO → Prop} (h1 : Q (some (.int (p1 &&& (f_pointerMask F)))) (1, F, G, A, B)) :
    Wk l Z (MoC Z cdC) md_modPointer 0 [.val (.ref 0), .val (.int p1)] [] (1, F, G, A, B) 0 0 Q := by
  refine Wk.iloadN o_modPointer_0 rfl ?_
  refine Wk.aloadN o_modPointer_1 rfl ?_
  refine Wk.callF [] [.int p1] (H.w 101 rfl) (cv_pointerMask H) o_modPointer_2 (run_pointerMask H F G A B) (wt := 1) (cu' := 0) (su' := 0) (by decide) rfl rfl rfl rfl rfl rfl rfl ?_
  refine Wk.iand o_modPointer_5 ?_
  exact Wk.ireturn mrC rfl o_modPointer_6 rfl (by decide) (by decide) h1

def f_modPointer (F : Nat → Int32) (p1 : Int32) : Int32 := (p1 &&& (f_pointerMask F))
theorem e_modPointer (F : Nat → Int32) (p1 : Int32) : f_modPointer F p1 = (p1 &&& (f_pointerMask F)) := Eq.trans rfl rfl
theorem run_modPointer {l : Launch} {Z : State} {a0 : Array Value} (H : OK Z a0) (F : Nat → Int32) (G : Nat → Int64) (A : Nat → Int32 → Int32) (B : Nat → Int32 → Int64) (p1 : Int32) :
    Wk l Z (MoC Z cdC) md_modPointer 0 [.val (.ref 0), .val (.int p1)] [] (1, F, G, A, B) 0 0 (fun v w' => v = some (.int (f_modPointer F p1)) ∧ w' = (1, F, G, A, B)) :=
  wp_modPointer H F G A B p1 ⟨rfl, rfl⟩
set_option maxRecDepth 65536 in
set_option maxHeartbeats 4000000 in
theorem wp_countValue {l : Launch} {Z : State} {a0 : Array Value} (H : OK Z a0) (F : Nat → Int32) (G : Nat → Int64) (A : Nat → Int32 → Int32) (B : Nat → Int32 → Int64) {Q : Option Value → WO → Prop} (h1 : Q (some (.int (f_modPointer F ((F 4) - (F 8))))) (1, F, G, A, B)) :
    Wk l Z (MoC Z cdC) md_countValue 0 [.val (.ref 0)] [] (1, F, G, A, B) 0 0 Q := by
  refine Wk.aloadN o_countValue_0 rfl ?_
  refine Wk.aloadN o_countValue_1 rfl ?_
  refine Wk.getI (mI_wbin) (wf_wbin H) o_countValue_2 (x := (F 4)) rfl ?_
  refine Wk.aloadN o_countValue_5 rfl ?_
  refine Wk.getI (mI_rbin) (wf_rbin H) o_countValue_6 (x := (F 8)) rfl ?_
  refine Wk.isub o_countValue_9 ?_
  refine Wk.callF [.int ((F 4) - (F 8))] [] (H.w 97 rfl) (cv_modPointer H) o_countValue_10 (run_modPointer H F G A B ((F 4) - (F 8))) (wt := 0) (cu' := 0) (su' := 0) (by decide) rfl rfl rfl rfl rfl rfl rfl ?_
  exact Wk.ireturn mrC rfl o_countValue_13 rfl (by decide) (by decide) h1

def f_countValue (F : Nat → Int32) : Int32 := (f_modPointer F ((F 4) - (F 8)))
theorem e_countValue (F : Nat → Int32) : f_countValue F = (f_modPointer F ((F 4) - (F 8))) := Eq.trans rfl rfl
theorem run_countValue {l : Launch} {Z : State} {a0 : Array Value} (H : OK Z a0) (F : Nat → Int32) (G : Nat → Int64) (A : Nat → Int32 → Int32) (B : Nat → Int32 → Int64) :
    Wk l Z (MoC Z cdC) md_countValue 0 [.val (.ref 0)] [] (1, F, G, A, B) 0 0 (fun v w' => v = some (.int (f_countValue F)) ∧ w' = (1, F, G, A, B)) :=
  wp_countValue H F G A B ⟨rfl, rfl⟩
set_option maxRecDepth 65536 in
set_option maxHeartbeats 4000000 in
theorem wp_getCount {l : Launch} {Z : State} {a0 : Array Value} (H : OK Z a0) (F : Nat → Int32) (G : Nat → Int64) (A : Nat → Int32 → Int32) (B : Nat → Int32 → Int64) {Q : Option Value → WO → Prop} (h1 : Q (some (.int (f_countValue F))) (1, F, G, A, B)) :
    Wk l Z (MoC Z cdC) md_getCount 0 [.val (.ref 0)] [] (1, F, G, A, B) 0 0 Q := by
  refine Wk.aloadN o_getCount_0 rfl ?_
  refine Wk.callF [] [] (H.w 93 rfl) (cv_countValue H) o_getCount_1 (run_countValue H F G A B) (wt := 0) (cu' := 0) (su' := 0) (by decide) rfl rfl rfl rfl rfl rfl rfl ?_
  exact Wk.ireturn mrC rfl o_getCount_4 rfl (by decide) (by decide) h1

def f_getCount (F : Nat → Int32) : Int32 := (f_countValue F)
theorem e_getCount (F : Nat → Int32) : f_getCount F = (f_countValue F) := Eq.trans rfl rfl
theorem run_getCount {l : Launch} {Z : State} {a0 : Array Value} (H : OK Z a0) (F : Nat → Int32) (G : Nat → Int64) (A : Nat → Int32 → Int32) (B : Nat → Int32 → Int64) :
    Wk l Z (MoC Z cdC) md_getCount 0 [.val (.ref 0)] [] (1, F, G, A, B) 0 0 (fun v w' => v = some (.int (f_getCount F)) ∧ w' = (1, F, G, A, B)) :=
  wp_getCount H F G A B ⟨rfl, rfl⟩
set_option maxRecDepth 65536 in
set_option maxHeartbeats 4000000 in
theorem wp_getLastRead {l : Launch} {Z : State} {a0 : Array Value} (H : OK Z a0) (F : Nat → Int32) (G : Nat → Int64) (A : Nat → Int32 → Int32) (B : Nat → Int32 → Int64) {Q : Option Value → WO → Prop} (h1 : Q (some (.int (F 16))) (1, F, G, A, B)) :
    Wk l Z (MoC Z cdC) md_getLastRead 0 [.val (.ref 0)] [] (1, F, G, A, B) 0 0 Q := by
  refine Wk.aloadN o_getLastRead_0 rfl ?_
  refine Wk.getI (mI_lastRead) (wf_lastRead H) o_getLastRead_1 (x := (F 16)) rfl ?_
  exact Wk.ireturn mrC rfl o_getLastRead_4 rfl (by decide) (by decide) h1

def f_getLastRead (F : Nat → Int32) : Int32 := (F 16)
theorem e_getLastRead (F : Nat → Int32) : f_getLastRead F = (F 16) := Eq.trans rfl rfl
theorem run_getLastRead {l : Launch} {Z : State} {a0 : Array Value} (H : OK Z a0) (F : Nat → Int32) (G : Nat → Int64) (A : Nat → Int32 → Int32) (B : Nat → Int32 → Int64) :
    Wk l Z (MoC Z cdC) md_getLastRead 0 [.val (.ref 0)] [] (1, F, G, A, B) 0 0 (fun v w' => v = some (.int (f_getLastRead F)) ∧ w' = (1, F, G, A, B)) :=
  wp_getLastRead H F G A B ⟨rfl, rfl⟩
set_option maxRecDepth 65536 in
set_option maxHeartbeats 4000000 in
theorem wp_getPointerGray {l : Launch} {Z : State} {a0 : Array Value} (H : OK Z a0) (F : Nat → Int32) (G : Nat → Int64) (A : Nat → Int32 → Int32) (B : Nat → Int32 → Int64) (p1 : Int32) {Q : Option Value → WO → Prop} (h3 : ¬ p1 = 0 → ¬ p1 = (1 : Int32) → Q (some (.int (-1 : Int32))) (1, F, G, A, B)) (h4 : ¬ p1 = 0 → p1 = (1 : Int32) → Q (some (.int (F 9))) (1, F, G, A, B)) (h5 : p1 = 0 → Q (some (.int (F 5))) (1, F, G, A, B)) :
    Wk l Z (MoC Z cdC) md_getPointerGray 0 [.val (.ref 0), .val (.int p1)] [] (1, F, G, A, B) 0 0 Q := by
  refine Wk.iloadN o_getPointerGray_0 rfl ?_
  refine Wk.if_ne o_getPointerGray_1 (fun q1 => ?_) (fun q1 => ?_)
  · refine Wk.iloadN o_getPointerGray_9 rfl ?_
    refine Wk.iconst o_getPointerGray_10 (z := (1 : Int32)) (by decide) ?_
    refine Wk.icmp_ne o_getPointerGray_11 (fun q2 => ?_) (fun q2 => ?_)
    · refine Wk.iconst o_getPointerGray_19 (z := (-1 : Int32)) (by decide) ?_
      exact Wk.ireturn mrC rfl o_getPointerGray_20 rfl (by decide) (by decide) (h3 q1 q2)
    · refine Wk.aloadN o_getPointerGray_14 rfl ?_
      refine Wk.getI (mI_rgray) (wf_rgray H) o_getPointerGray_15 (x := (F 9)) rfl ?_
      exact Wk.ireturn mrC rfl o_getPointerGray_18 rfl (by decide) (by decide) (h4 q1 q2)
  · refine Wk.aloadN o_getPointerGray_4 rfl ?_
    refine Wk.getI (mI_wgray) (wf_wgray H) o_getPointerGray_5 (x := (F 5)) rfl ?_
    exact Wk.ireturn mrC rfl o_getPointerGray_8 rfl (by decide) (by decide) (h5 q1)

def f_getPointerGray (F : Nat → Int32) (p1 : Int32) : Int32 := (if p1 = 0 then (F 5) else (if p1 = (1 : Int32) then (F 9) else (-1 : Int32)))
theorem e_getPointerGray (F : Nat → Int32) (p1 : Int32) : f_getPointerGray F p1 = (if p1 = 0 then (F 5) else (if p1 = (1 : Int32) then (F 9) else (-1 : Int32))) := Eq.trans rfl rfl
theorem run_getPointerGray {l : Launch} {Z : State} {a0 : Array Value} (H : OK Z a0) (F : Nat → Int32) (G : Nat → Int64) (A : Nat → Int32 → Int32) (B : Nat → Int32 → Int64) (p1 : Int32) :
    Wk l Z (MoC Z cdC) md_getPointerGray 0 [.val (.ref 0), .val (.int p1)] [] (1, F, G, A, B) 0 0 (fun v w' => v = some (.int (f_getPointerGray F p1)) ∧ w' = (1, F, G, A, B)) :=
  wp_getPointerGray H F G A B p1 (fun q1 q2 => ⟨by simp only [e_getPointerGray, if_neg q1, if_neg q2], rfl⟩) (fun q1 q2 => ⟨by simp only [e_getPointerGray, if_neg q1, if_pos q2], rfl⟩) (fun q1 => ⟨by simp only [e_getPointerGray, if_pos q1], rfl⟩)
set_option maxRecDepth 65536 in
set_option maxHeartbeats 4000000 in
theorem wp_decode {l : Launch} {Z : State} {a0 : Array Value} (H : OK Z a0) (F : Nat → Int32) (G : Nat → Int64) (A : Nat → Int32 → Int32) (B : Nat → Int32 → Int64) (p1 : Int32) {Q : Option Value → WO → Prop} (h1 : Wk l Z (MoC Z cdC) md_decode 13 [.val (.ref 0), .unset, .val (.int (f_modPointer F p1)), .val (.int (XT.ushr (f_modPointer F p1) (1 : Int32))), .val (.int (0 : Int32))] [] (1, F, G, A, B) 0 0 Q) :
    Wk l Z (MoC Z cdC) md_decode 0 [.val (.ref 0), .val (.int p1), .unset, .unset, .unset] [] (1, F, G, A, B) 0 0 Q := by
  refine Wk.aloadN o_decode_0 rfl ?_
  refine Wk.iloadN o_decode_1 rfl ?_
  refine Wk.callF [.int p1] [] (H.w 97 rfl) (cv_modPointer H) o_decode_2 (run_modPointer H F G A B p1) (wt := 0) (cu' := 0) (su' := 0) (by decide) rfl rfl rfl rfl rfl rfl rfl ?_
  refine Wk.istoreN o_decode_5 (Or.inl rfl) (L' := [.val (.ref 0), .val (.int p1), .val (.int (f_modPointer F p1)), .unset, .unset]) rfl ?_
  refine Wk.iloadN o_decode_6 rfl ?_
  refine Wk.iconst o_decode_7 (z := (1 : Int32)) (by decide) ?_
  refine Wk.iushr o_decode_8 ?_
  refine Wk.istoreN o_decode_9 (Or.inl rfl) (L' := [.val (.ref 0), .val (.int p1), .val (.int (f_modPointer F p1)), .val (.int (XT.ushr (f_modPointer F p1) (1 : Int32))), .unset]) rfl ?_
  refine Wk.iconst o_decode_10 (z := (0 : Int32)) (by decide) ?_
  refine Wk.istore o_decode_11 (Or.inl rfl) (L' := [.val (.ref 0), .val (.int p1), .val (.int (f_modPointer F p1)), .val (.int (XT.ushr (f_modPointer F p1) (1 : Int32))), .val (.int (0 : Int32))]) rfl ?_
  refine Wk.forget [false, true, false, false, false] (L' := [.val (.ref 0), .unset, .val (.int (f_modPointer F p1)), .val (.int (XT.ushr (f_modPointer F p1) (1 : Int32))), .val (.int (0 : Int32))]) rfl rfl ?_
  exact h1

set_option maxRecDepth 65536 in
set_option maxHeartbeats 4000000 in
theorem wp_decode_13 {l : Launch} {Z : State} {a0 : Array Value} (H : OK Z a0) (F : Nat → Int32) (G : Nat → Int64) (A : Nat → Int32 → Int32) (B : Nat → Int32 → Int64) (v2 : Int32) (v3 : Int32) (v4 : Int32) {Q : Option Value → WO → Prop} (h2 : ¬ v4 < (F 2) → Q (some (.int v2)) (1, F, G, A, B)) (h4 : v4 < (F 2) → v3 = 0 → Q (some (.int v2)) (1, F, G, A, B)) (h5 : v4 < (F 2) → ¬ v3 = 0 → Wk l Z (MoC Z cdC) md_decode 13 [.val (.ref 0), .unset, .val (.int (v2 ^^^ v3)), .val (.int (XT.ushr v3 (1 : Int32))), .val (.int (v4 + (1 : Int32)))] [] (1, F, G, A, B) 0 0 Q) :
    Wk l Z (MoC Z cdC) md_decode 13 [.val (.ref 0), .unset, .val (.int v2), .val (.int v3), .val (.int v4)] [] (1, F, G, A, B) 0 0 Q := by
  refine Wk.iload o_decode_13 rfl ?_
  refine Wk.aloadN o_decode_15 rfl ?_
  refine Wk.getI (mI_width) (wf_width H) o_decode_16 (x := (F 2)) rfl ?_
  refine Wk.icmp_ge o_decode_19 (fun q1 => ?_) (fun q1 => ?_)
  · refine Wk.iloadN o_decode_40 rfl ?_
    exact Wk.ireturn mrC rfl o_decode_41 rfl (by decide) (by decide) (h2 q1)
  · refine Wk.iloadN o_decode_22 rfl ?_
    refine Wk.if_eq o_decode_23 (fun q3 => ?_) (fun q3 => ?_)
    · refine Wk.iloadN o_decode_40 rfl ?_
      exact Wk.ireturn mrC rfl o_decode_41 rfl (by decide) (by decide) (h4 q1 q3)
    · refine Wk.iloadN o_decode_26 rfl ?_
      refine Wk.iloadN o_decode_27 rfl ?_
      refine Wk.ixor o_decode_28 ?_
      refine Wk.istoreN o_decode_29 (Or.inr ⟨_, rfl, rfl⟩) (L' := [.val (.ref 0), .unset, .val (.int (v2 ^^^ v3)), .val (.int v3), .val (.int v4)]) rfl ?_
      refine Wk.iloadN o_decode_30 rfl ?_
      refine Wk.iconst o_decode_31 (z := (1 : Int32)) (by decide) ?_
      refine Wk.iushr o_decode_32 ?_
      refine Wk.istoreN o_decode_33 (Or.inr ⟨_, rfl, rfl⟩) (L' := [.val (.ref 0), .unset, .val (.int (v2 ^^^ v3)), .val (.int (XT.ushr v3 (1 : Int32))), .val (.int v4)]) rfl ?_
      refine Wk.iinc o_decode_34 rfl (z := (v4 + (1 : Int32))) rfl (L' := [.val (.ref 0), .unset, .val (.int (v2 ^^^ v3)), .val (.int (XT.ushr v3 (1 : Int32))), .val (.int (v4 + (1 : Int32)))]) rfl ?_
      refine Wk.goto o_decode_37 ?_
      exact (h5 q1 q3)

def decGo : Nat → Int32 → Int32 → Int32
  | 0, x, _ => x
  | n + 1, x, s => if s = 0 then x else decGo n (x ^^^ s) (XT.ushr s 1)
theorem decGo_z (x s : Int32) : decGo 0 x s = x := Eq.trans rfl rfl
theorem decGo_s (n : Nat) (x s : Int32) : decGo (n + 1) x s = if s = 0 then x else decGo n (x ^^^ s) (XT.ushr s 1) := Eq.trans rfl rfl
def f_decode (F : Nat → Int32) (p1 : Int32) : Int32 := decGo (F 2).toInt.toNat (f_modPointer F p1) (XT.ushr (f_modPointer F p1) 1)
theorem e_decode (F : Nat → Int32) (p1 : Int32) : f_decode F p1 = decGo (F 2).toInt.toNat (f_modPointer F p1) (XT.ushr (f_modPointer F p1) 1) := Eq.trans rfl rfl
theorem loop_decode {l : Launch} {Z : State} {a0 : Array Value} (H : OK Z a0) (F : Nat → Int32) (G : Nat → Int64) (A : Nat → Int32 → Int32) (B : Nat → Int32 → Int64) : ∀ (n : Nat) (i x s : Int32), ((F 2).toInt - i.toInt).toNat = n →
    Wk l Z (MoC Z cdC) md_decode 13 [.val (.ref 0), .unset, .val (.int x), .val (.int s), .val (.int i)] [] (1, F, G, A, B) 0 0 (fun v w' => v = some (.int (decGo n x s)) ∧ w' = (1, F, G, A, B)) := by
  intro n
  induction n with
  | zero =>
    intro i x s hn
    have hi : ¬ i < (F 2) := fun q => by have := lt_i.mp q; omega
    exact wp_decode_13 H F G A B x s i (fun _ => ⟨rfl, rfl⟩) (fun q => absurd q hi) (fun q => absurd q hi)
  | succ n ih =>
    intro i x s hn
    have hi : i < (F 2) := lt_i.mpr (by omega)
    refine wp_decode_13 H F G A B x s i (fun q => absurd hi q) (fun _ q => ⟨by rw [decGo_s, if_pos q], rfl⟩) (fun _ q => ?_)
    have := ih (i + 1) (x ^^^ s) (XT.ushr s 1) (by rw [succ_toInt hi]; omega)
    rw [decGo_s, if_neg q]
    exact this
theorem run_decode {l : Launch} {Z : State} {a0 : Array Value} (H : OK Z a0) (F : Nat → Int32) (G : Nat → Int64) (A : Nat → Int32 → Int32) (B : Nat → Int32 → Int64) (p1 : Int32) :
    Wk l Z (MoC Z cdC) md_decode 0 [.val (.ref 0), .val (.int p1), .unset, .unset, .unset] [] (1, F, G, A, B) 0 0 (fun v w' => v = some (.int (f_decode F p1)) ∧ w' = (1, F, G, A, B)) := by
  refine wp_decode H F G A B p1 ?_
  exact loop_decode H F G A B _ 0 _ _ (by show ((F 2).toInt - 0).toNat = _; rw [Int.sub_zero])
set_option maxRecDepth 65536 in
set_option maxHeartbeats 4000000 in
theorem wp_writeFillValue {l : Launch} {Z : State} {a0 : Array Value} (H : OK Z a0) (F : Nat → Int32) (G : Nat → Int64) (A : Nat → Int32 → Int32) (B : Nat → Int32 → Int64) {Q : Option Value → WO → Prop} (h1 : Q (some (.int (f_modPointer F ((F 4) - (f_decode F (F 13)))))) (1, F, G, A, B)) :
    Wk l Z (MoC Z cdC) md_writeFillValue 0 [.val (.ref 0), .unset] [] (1, F, G, A, B) 0 0 Q := by
  refine Wk.aloadN o_writeFillValue_0 rfl ?_
  refine Wk.aloadN o_writeFillValue_1 rfl ?_
  refine Wk.getI (mI_wq2) (wf_wq2 H) o_writeFillValue_2 (x := (F 13)) rfl ?_
  refine Wk.callF [.int (F 13)] [] (H.w 124 rfl) (cv_decode H) o_writeFillValue_5 (run_decode H F G A B (F 13)) (wt := 0) (cu' := 0) (su' := 0) (by decide) rfl rfl rfl rfl rfl rfl rfl ?_
  refine Wk.istoreN o_writeFillValue_8 (Or.inl rfl) (L' := [.val (.ref 0), .val (.int (f_decode F (F 13)))]) rfl ?_
  refine Wk.aloadN o_writeFillValue_9 rfl ?_
  refine Wk.aloadN o_writeFillValue_10 rfl ?_
  refine Wk.getI (mI_wbin) (wf_wbin H) o_writeFillValue_11 (x := (F 4)) rfl ?_
  refine Wk.iloadN o_writeFillValue_14 rfl ?_
  refine Wk.isub o_writeFillValue_15 ?_
  refine Wk.callF [.int ((F 4) - (f_decode F (F 13)))] [] (H.w 97 rfl) (cv_modPointer H) o_writeFillValue_16 (run_modPointer H F G A B ((F 4) - (f_decode F (F 13)))) (wt := 0) (cu' := 0) (su' := 0) (by decide) rfl rfl rfl rfl rfl rfl rfl ?_
  exact Wk.ireturn mrC rfl o_writeFillValue_19 rfl (by decide) (by decide) h1

def f_writeFillValue (F : Nat → Int32) : Int32 := (f_modPointer F ((F 4) - (f_decode F (F 13))))
theorem e_writeFillValue (F : Nat → Int32) : f_writeFillValue F = (f_modPointer F ((F 4) - (f_decode F (F 13)))) := Eq.trans rfl rfl
theorem run_writeFillValue {l : Launch} {Z : State} {a0 : Array Value} (H : OK Z a0) (F : Nat → Int32) (G : Nat → Int64) (A : Nat → Int32 → Int32) (B : Nat → Int32 → Int64) :
    Wk l Z (MoC Z cdC) md_writeFillValue 0 [.val (.ref 0), .unset] [] (1, F, G, A, B) 0 0 (fun v w' => v = some (.int (f_writeFillValue F)) ∧ w' = (1, F, G, A, B)) :=
  wp_writeFillValue H F G A B ⟨rfl, rfl⟩
set_option maxRecDepth 65536 in
set_option maxHeartbeats 4000000 in
theorem wp_readFillValue {l : Launch} {Z : State} {a0 : Array Value} (H : OK Z a0) (F : Nat → Int32) (G : Nat → Int64) (A : Nat → Int32 → Int32) (B : Nat → Int32 → Int64) {Q : Option Value → WO → Prop} (h1 : Q (some (.int (f_modPointer F ((f_decode F (F 15)) - (F 8))))) (1, F, G, A, B)) :
    Wk l Z (MoC Z cdC) md_readFillValue 0 [.val (.ref 0), .unset] [] (1, F, G, A, B) 0 0 Q := by
  refine Wk.aloadN o_readFillValue_0 rfl ?_
  refine Wk.aloadN o_readFillValue_1 rfl ?_
  refine Wk.getI (mI_rq2) (wf_rq2 H) o_readFillValue_2 (x := (F 15)) rfl ?_
  refine Wk.callF [.int (F 15)] [] (H.w 124 rfl) (cv_decode H) o_readFillValue_5 (run_decode H F G A B (F 15)) (wt := 0) (cu' := 0) (su' := 0) (by decide) rfl rfl rfl rfl rfl rfl rfl ?_
  refine Wk.istoreN o_readFillValue_8 (Or.inl rfl) (L' := [.val (.ref 0), .val (.int (f_decode F (F 15)))]) rfl ?_
  refine Wk.aloadN o_readFillValue_9 rfl ?_
  refine Wk.iloadN o_readFillValue_10 rfl ?_
  refine Wk.aloadN o_readFillValue_11 rfl ?_
  refine Wk.getI (mI_rbin) (wf_rbin H) o_readFillValue_12 (x := (F 8)) rfl ?_
  refine Wk.isub o_readFillValue_15 ?_
  refine Wk.callF [.int ((f_decode F (F 15)) - (F 8))] [] (H.w 97 rfl) (cv_modPointer H) o_readFillValue_16 (run_modPointer H F G A B ((f_decode F (F 15)) - (F 8))) (wt := 0) (cu' := 0) (su' := 0) (by decide) rfl rfl rfl rfl rfl rfl rfl ?_
  exact Wk.ireturn mrC rfl o_readFillValue_19 rfl (by decide) (by decide) h1

def f_readFillValue (F : Nat → Int32) : Int32 := (f_modPointer F ((f_decode F (F 15)) - (F 8)))
theorem e_readFillValue (F : Nat → Int32) : f_readFillValue F = (f_modPointer F ((f_decode F (F 15)) - (F 8))) := Eq.trans rfl rfl
theorem run_readFillValue {l : Launch} {Z : State} {a0 : Array Value} (H : OK Z a0) (F : Nat → Int32) (G : Nat → Int64) (A : Nat → Int32 → Int32) (B : Nat → Int32 → Int64) :
    Wk l Z (MoC Z cdC) md_readFillValue 0 [.val (.ref 0), .unset] [] (1, F, G, A, B) 0 0 (fun v w' => v = some (.int (f_readFillValue F)) ∧ w' = (1, F, G, A, B)) :=
  wp_readFillValue H F G A B ⟨rfl, rfl⟩
set_option maxRecDepth 65536 in
set_option maxHeartbeats 4000000 in
theorem wp_getFill {l : Launch} {Z : State} {a0 : Array Value} (H : OK Z a0) (F : Nat → Int32) (G : Nat → Int64) (A : Nat → Int32 → Int32) (B : Nat → Int32 → Int64) (p1 : Int32) {Q : Option Value → WO → Prop} (h3 : ¬ p1 = 0 → ¬ p1 = (1 : Int32) → Q (some (.int (-1 : Int32))) (1, F, G, A, B)) (h4 : ¬ p1 = 0 → p1 = (1 : Int32) → Q (some (.int (f_readFillValue F))) (1, F, G, A, B)) (h5 : p1 = 0 → Q (some (.int (f_writeFillValue F))) (1, F, G, A, B)) :
    Wk l Z (MoC Z cdC) md_getFill 0 [.val (.ref 0), .val (.int p1)] [] (1, F, G, A, B) 0 0 Q := by
  refine Wk.iloadN o_getFill_0 rfl ?_
  refine Wk.if_ne o_getFill_1 (fun q1 => ?_) (fun q1 => ?_)
  · refine Wk.iloadN o_getFill_9 rfl ?_
    refine Wk.iconst o_getFill_10 (z := (1 : Int32)) (by decide) ?_
    refine Wk.icmp_ne o_getFill_11 (fun q2 => ?_) (fun q2 => ?_)
    · refine Wk.iconst o_getFill_19 (z := (-1 : Int32)) (by decide) ?_
      exact Wk.ireturn mrC rfl o_getFill_20 rfl (by decide) (by decide) (h3 q1 q2)
    · refine Wk.aloadN o_getFill_14 rfl ?_
      refine Wk.callF [] [] (H.w 128 rfl) (cv_readFillValue H) o_getFill_15 (run_readFillValue H F G A B) (wt := 0) (cu' := 0) (su' := 0) (by decide) rfl rfl rfl rfl rfl rfl rfl ?_
      exact Wk.ireturn mrC rfl o_getFill_18 rfl (by decide) (by decide) (h4 q1 q2)
  · refine Wk.aloadN o_getFill_4 rfl ?_
    refine Wk.callF [] [] (H.w 120 rfl) (cv_writeFillValue H) o_getFill_5 (run_writeFillValue H F G A B) (wt := 0) (cu' := 0) (su' := 0) (by decide) rfl rfl rfl rfl rfl rfl rfl ?_
    exact Wk.ireturn mrC rfl o_getFill_8 rfl (by decide) (by decide) (h5 q1)

def f_getFill (F : Nat → Int32) (p1 : Int32) : Int32 := (if p1 = 0 then (f_writeFillValue F) else (if p1 = (1 : Int32) then (f_readFillValue F) else (-1 : Int32)))
theorem e_getFill (F : Nat → Int32) (p1 : Int32) : f_getFill F p1 = (if p1 = 0 then (f_writeFillValue F) else (if p1 = (1 : Int32) then (f_readFillValue F) else (-1 : Int32))) := Eq.trans rfl rfl
theorem run_getFill {l : Launch} {Z : State} {a0 : Array Value} (H : OK Z a0) (F : Nat → Int32) (G : Nat → Int64) (A : Nat → Int32 → Int32) (B : Nat → Int32 → Int64) (p1 : Int32) :
    Wk l Z (MoC Z cdC) md_getFill 0 [.val (.ref 0), .val (.int p1)] [] (1, F, G, A, B) 0 0 (fun v w' => v = some (.int (f_getFill F p1)) ∧ w' = (1, F, G, A, B)) :=
  wp_getFill H F G A B p1 (fun q1 q2 => ⟨by simp only [e_getFill, if_neg q1, if_neg q2], rfl⟩) (fun q1 q2 => ⟨by simp only [e_getFill, if_neg q1, if_pos q2], rfl⟩) (fun q1 => ⟨by simp only [e_getFill, if_pos q1], rfl⟩)
set_option maxRecDepth 65536 in
set_option maxHeartbeats 4000000 in
theorem wp_fullNow {l : Launch} {Z : State} {a0 : Array Value} (H : OK Z a0) (F : Nat → Int32) (G : Nat → Int64) (A : Nat → Int32 → Int32) (B : Nat → Int32 → Int64) {Q : Option Value → WO → Prop} (h3 : Q (some (.int (nar .boolean (if (f_writeFillValue F) = (F 0) then (1 : Int32) else (0 : Int32))))) (1, F, G, A, B)) :
    Wk l Z (MoC Z cdC) md_fullNow 0 [.val (.ref 0)] [] (1, F, G, A, B) 0 0 Q := by
  refine Wk.aloadN o_fullNow_0 rfl ?_
  refine Wk.callF [] [] (H.w 120 rfl) (cv_writeFillValue H) o_fullNow_1 (run_writeFillValue H F G A B) (wt := 0) (cu' := 0) (su' := 0) (by decide) rfl rfl rfl rfl rfl rfl rfl ?_
  refine Wk.aloadN o_fullNow_4 rfl ?_
  refine Wk.getI (mI_depth) (wf_depth H) o_fullNow_5 (x := (F 0)) rfl ?_
  have J2 : Wk l Z (MoC Z cdC) md_fullNow 16 [.val (.ref 0)] [.int (if (f_writeFillValue F) = (F 0) then (1 : Int32) else (0 : Int32))] (1, F, G, A, B) 0 0 Q := by
    exact Wk.zreturn mrC rfl o_fullNow_16 rfl (by decide) (by decide) (y := (nar .boolean (if (f_writeFillValue F) = (F 0) then (1 : Int32) else (0 : Int32)))) rfl h3
  refine Wk.icmp_ne o_fullNow_8 (fun q1 => ?_) (fun q1 => ?_)
  · refine Wk.iconst o_fullNow_15 (z := (0 : Int32)) (by decide) ?_
    first | (rw [show ((if (f_writeFillValue F) = (F 0) then (1 : Int32) else (0 : Int32)) : Int32) = (0 : Int32) from if_neg q1] at J2; exact J2) | exact J2 | (simp only [if_neg q1] at J2 ⊢; exact J2)
  · refine Wk.iconst o_fullNow_11 (z := (1 : Int32)) (by decide) ?_
    refine Wk.goto o_fullNow_12 ?_
    first | (rw [show ((if (f_writeFillValue F) = (F 0) then (1 : Int32) else (0 : Int32)) : Int32) = (1 : Int32) from if_pos q1] at J2; exact J2) | exact J2 | (simp only [if_pos q1] at J2 ⊢; exact J2)

def f_fullNow (F : Nat → Int32) : Int32 := (nar .boolean (if (f_writeFillValue F) = (F 0) then (1 : Int32) else (0 : Int32)))
theorem e_fullNow (F : Nat → Int32) : f_fullNow F = (nar .boolean (if (f_writeFillValue F) = (F 0) then (1 : Int32) else (0 : Int32))) := Eq.trans rfl rfl
theorem bz_fullNow (F : Nat → Int32) : nar .boolean (f_fullNow F) = f_fullNow F := by
  unfold f_fullNow
  (repeat' split) <;> first | rfl | exact nar_nar _
theorem run_fullNow {l : Launch} {Z : State} {a0 : Array Value} (H : OK Z a0) (F : Nat → Int32) (G : Nat → Int64) (A : Nat → Int32 → Int32) (B : Nat → Int32 → Int64) :
    Wk l Z (MoC Z cdC) md_fullNow 0 [.val (.ref 0)] [] (1, F, G, A, B) 0 0 (fun v w' => v = some (.int (f_fullNow F)) ∧ w' = (1, F, G, A, B)) :=
  wp_fullNow H F G A B ⟨rfl, rfl⟩
set_option maxRecDepth 65536 in
set_option maxHeartbeats 4000000 in
theorem wp_isFull {l : Launch} {Z : State} {a0 : Array Value} (H : OK Z a0) (F : Nat → Int32) (G : Nat → Int64) (A : Nat → Int32 → Int32) (B : Nat → Int32 → Int64) {Q : Option Value → WO → Prop} (h1 : Q (some (.int (nar .boolean (f_fullNow F)))) (1, F, G, A, B)) :
    Wk l Z (MoC Z cdC) md_isFull 0 [.val (.ref 0)] [] (1, F, G, A, B) 0 0 Q := by
  refine Wk.aloadN o_isFull_0 rfl ?_
  refine Wk.callF [] [] (H.w 137 rfl) (cv_fullNow H) o_isFull_1 (run_fullNow H F G A B) (wt := 0) (cu' := 0) (su' := 0) (by decide) rfl rfl rfl rfl rfl rfl rfl ?_
  exact Wk.zreturn mrC rfl o_isFull_4 rfl (by decide) (by decide) (y := (nar .boolean (f_fullNow F))) rfl h1

def f_isFull (F : Nat → Int32) : Int32 := (nar .boolean (f_fullNow F))
theorem e_isFull (F : Nat → Int32) : f_isFull F = (nar .boolean (f_fullNow F)) := Eq.trans rfl rfl
theorem bz_isFull (F : Nat → Int32) : nar .boolean (f_isFull F) = f_isFull F := by
  unfold f_isFull
  (repeat' split) <;> first | rfl | exact nar_nar _
theorem run_isFull {l : Launch} {Z : State} {a0 : Array Value} (H : OK Z a0) (F : Nat → Int32) (G : Nat → Int64) (A : Nat → Int32 → Int32) (B : Nat → Int32 → Int64) :
    Wk l Z (MoC Z cdC) md_isFull 0 [.val (.ref 0)] [] (1, F, G, A, B) 0 0 (fun v w' => v = some (.int (f_isFull F)) ∧ w' = (1, F, G, A, B)) :=
  wp_isFull H F G A B ⟨rfl, rfl⟩
set_option maxRecDepth 65536 in
set_option maxHeartbeats 4000000 in
theorem wp_emptyNow {l : Launch} {Z : State} {a0 : Array Value} (H : OK Z a0) (F : Nat → Int32) (G : Nat → Int64) (A : Nat → Int32 → Int32) (B : Nat → Int32 → Int64) {Q : Option Value → WO → Prop} (h3 : Q (some (.int (nar .boolean (if (f_readFillValue F) = 0 then (1 : Int32) else (0 : Int32))))) (1, F, G, A, B)) :
    Wk l Z (MoC Z cdC) md_emptyNow 0 [.val (.ref 0)] [] (1, F, G, A, B) 0 0 Q := by
  refine Wk.aloadN o_emptyNow_0 rfl ?_
  refine Wk.callF [] [] (H.w 128 rfl) (cv_readFillValue H) o_emptyNow_1 (run_readFillValue H F G A B) (wt := 0) (cu' := 0) (su' := 0) (by decide) rfl rfl rfl rfl rfl rfl rfl ?_
  have J2 : Wk l Z (MoC Z cdC) md_emptyNow 12 [.val (.ref 0)] [.int (if (f_readFillValue F) = 0 then (1 : Int32) else (0 : Int32))] (1, F, G, A, B) 0 0 Q := by
    exact Wk.zreturn mrC rfl o_emptyNow_12 rfl (by decide) (by decide) (y := (nar .boolean (if (f_readFillValue F) = 0 then (1 : Int32) else (0 : Int32)))) rfl h3
  refine Wk.if_ne o_emptyNow_4 (fun q1 => ?_) (fun q1 => ?_)
  · refine Wk.iconst o_emptyNow_11 (z := (0 : Int32)) (by decide) ?_
    first | (rw [show ((if (f_readFillValue F) = 0 then (1 : Int32) else (0 : Int32)) : Int32) = (0 : Int32) from if_neg q1] at J2; exact J2) | exact J2 | (simp only [if_neg q1] at J2 ⊢; exact J2)
  · refine Wk.iconst o_emptyNow_7 (z := (1 : Int32)) (by decide) ?_
    refine Wk.goto o_emptyNow_8 ?_
    first | (rw [show ((if (f_readFillValue F) = 0 then (1 : Int32) else (0 : Int32)) : Int32) = (1 : Int32) from if_pos q1] at J2; exact J2) | exact J2 | (simp only [if_pos q1] at J2 ⊢; exact J2)

def f_emptyNow (F : Nat → Int32) : Int32 := (nar .boolean (if (f_readFillValue F) = 0 then (1 : Int32) else (0 : Int32)))
theorem e_emptyNow (F : Nat → Int32) : f_emptyNow F = (nar .boolean (if (f_readFillValue F) = 0 then (1 : Int32) else (0 : Int32))) := Eq.trans rfl rfl
theorem bz_emptyNow (F : Nat → Int32) : nar .boolean (f_emptyNow F) = f_emptyNow F := by
  unfold f_emptyNow
  (repeat' split) <;> first | rfl | exact nar_nar _
theorem run_emptyNow {l : Launch} {Z : State} {a0 : Array Value} (H : OK Z a0) (F : Nat → Int32) (G : Nat → Int64) (A : Nat → Int32 → Int32) (B : Nat → Int32 → Int64) :
    Wk l Z (MoC Z cdC) md_emptyNow 0 [.val (.ref 0)] [] (1, F, G, A, B) 0 0 (fun v w' => v = some (.int (f_emptyNow F)) ∧ w' = (1, F, G, A, B)) :=
  wp_emptyNow H F G A B ⟨rfl, rfl⟩
set_option maxRecDepth 65536 in
set_option maxHeartbeats 4000000 in
theorem wp_isEmpty {l : Launch} {Z : State} {a0 : Array Value} (H : OK Z a0) (F : Nat → Int32) (G : Nat → Int64) (A : Nat → Int32 → Int32) (B : Nat → Int32 → Int64) {Q : Option Value → WO → Prop} (h1 : Q (some (.int (nar .boolean (f_emptyNow F)))) (1, F, G, A, B)) :
    Wk l Z (MoC Z cdC) md_isEmpty 0 [.val (.ref 0)] [] (1, F, G, A, B) 0 0 Q := by
  refine Wk.aloadN o_isEmpty_0 rfl ?_
  refine Wk.callF [] [] (H.w 146 rfl) (cv_emptyNow H) o_isEmpty_1 (run_emptyNow H F G A B) (wt := 0) (cu' := 0) (su' := 0) (by decide) rfl rfl rfl rfl rfl rfl rfl ?_
  exact Wk.zreturn mrC rfl o_isEmpty_4 rfl (by decide) (by decide) (y := (nar .boolean (f_emptyNow F))) rfl h1

def f_isEmpty (F : Nat → Int32) : Int32 := (nar .boolean (f_emptyNow F))
theorem e_isEmpty (F : Nat → Int32) : f_isEmpty F = (nar .boolean (f_emptyNow F)) := Eq.trans rfl rfl
theorem bz_isEmpty (F : Nat → Int32) : nar .boolean (f_isEmpty F) = f_isEmpty F := by
  unfold f_isEmpty
  (repeat' split) <;> first | rfl | exact nar_nar _
theorem run_isEmpty {l : Launch} {Z : State} {a0 : Array Value} (H : OK Z a0) (F : Nat → Int32) (G : Nat → Int64) (A : Nat → Int32 → Int32) (B : Nat → Int32 → Int64) :
    Wk l Z (MoC Z cdC) md_isEmpty 0 [.val (.ref 0)] [] (1, F, G, A, B) 0 0 (fun v w' => v = some (.int (f_isEmpty F)) ∧ w' = (1, F, G, A, B)) :=
  wp_isEmpty H F G A B ⟨rfl, rfl⟩
set_option maxRecDepth 65536 in
set_option maxHeartbeats 4000000 in
theorem wp_isAlmostFull {l : Launch} {Z : State} {a0 : Array Value} (H : OK Z a0) (F : Nat → Int32) (G : Nat → Int64) (A : Nat → Int32 → Int32) (B : Nat → Int32 → Int64) {Q : Option Value → WO → Prop} (h3 : Q (some (.int (nar .boolean (if (f_writeFillValue F) < (F 1) then (0 : Int32) else (1 : Int32))))) (1, F, G, A, B)) :
    Wk l Z (MoC Z cdC) md_isAlmostFull 0 [.val (.ref 0)] [] (1, F, G, A, B) 0 0 Q := by
  refine Wk.aloadN o_isAlmostFull_0 rfl ?_
  refine Wk.callF [] [] (H.w 120 rfl) (cv_writeFillValue H) o_isAlmostFull_1 (run_writeFillValue H F G A B) (wt := 0) (cu' := 0) (su' := 0) (by decide) rfl rfl rfl rfl rfl rfl rfl ?_
  refine Wk.aloadN o_isAlmostFull_4 rfl ?_
  refine Wk.getI (mI_almost) (wf_almost H) o_isAlmostFull_5 (x := (F 1)) rfl ?_
  have J2 : Wk l Z (MoC Z cdC) md_isAlmostFull 16 [.val (.ref 0)] [.int (if (f_writeFillValue F) < (F 1) then (0 : Int32) else (1 : Int32))] (1, F, G, A, B) 0 0 Q := by
    exact Wk.zreturn mrC rfl o_isAlmostFull_16 rfl (by decide) (by decide) (y := (nar .boolean (if (f_writeFillValue F) < (F 1) then (0 : Int32) else (1 : Int32)))) rfl h3
  refine Wk.icmp_lt o_isAlmostFull_8 (fun q1 => ?_) (fun q1 => ?_)
  · refine Wk.iconst o_isAlmostFull_15 (z := (0 : Int32)) (by decide) ?_
    first | (rw [show ((if (f_writeFillValue F) < (F 1) then (0 : Int32) else (1 : Int32)) : Int32) = (0 : Int32) from if_pos q1] at J2; exact J2) | exact J2 | (simp only [if_pos q1] at J2 ⊢; exact J2)
  · refine Wk.iconst o_isAlmostFull_11 (z := (1 : Int32)) (by decide) ?_
    refine Wk.goto o_isAlmostFull_12 ?_
    first | (rw [show ((if (f_writeFillValue F) < (F 1) then (0 : Int32) else (1 : Int32)) : Int32) = (1 : Int32) from if_neg q1] at J2; exact J2) | exact J2 | (simp only [if_neg q1] at J2 ⊢; exact J2)

def f_isAlmostFull (F : Nat → Int32) : Int32 := (nar .boolean (if (f_writeFillValue F) < (F 1) then (0 : Int32) else (1 : Int32)))
theorem e_isAlmostFull (F : Nat → Int32) : f_isAlmostFull F = (nar .boolean (if (f_writeFillValue F) < (F 1) then (0 : Int32) else (1 : Int32))) := Eq.trans rfl rfl
theorem bz_isAlmostFull (F : Nat → Int32) : nar .boolean (f_isAlmostFull F) = f_isAlmostFull F := by
  unfold f_isAlmostFull
  (repeat' split) <;> first | rfl | exact nar_nar _
theorem run_isAlmostFull {l : Launch} {Z : State} {a0 : Array Value} (H : OK Z a0) (F : Nat → Int32) (G : Nat → Int64) (A : Nat → Int32 → Int32) (B : Nat → Int32 → Int64) :
    Wk l Z (MoC Z cdC) md_isAlmostFull 0 [.val (.ref 0)] [] (1, F, G, A, B) 0 0 (fun v w' => v = some (.int (f_isAlmostFull F)) ∧ w' = (1, F, G, A, B)) :=
  wp_isAlmostFull H F G A B ⟨rfl, rfl⟩
set_option maxRecDepth 65536 in
set_option maxHeartbeats 4000000 in
theorem wp_slotOf {l : Launch} {Z : State} {a0 : Array Value} (H : OK Z a0) (F : Nat → Int32) (G : Nat → Int64) (A : Nat → Int32 → Int32) (B : Nat → Int32 → Int64) (p1 : Int32) {Q : Option Value → WO → Prop} (h1 : Q (some (.int (p1 &&& ((F 0) - (1 : Int32))))) (1, F, G, A, B)) :
    Wk l Z (MoC Z cdC) md_slotOf 0 [.val (.ref 0), .val (.int p1)] [] (1, F, G, A, B) 0 0 Q := by
  refine Wk.iloadN o_slotOf_0 rfl ?_
  refine Wk.aloadN o_slotOf_1 rfl ?_
  refine Wk.getI (mI_depth) (wf_depth H) o_slotOf_2 (x := (F 0)) rfl ?_
  refine Wk.iconst o_slotOf_5 (z := (1 : Int32)) (by decide) ?_
  refine Wk.isub o_slotOf_6 ?_
  refine Wk.iand o_slotOf_7 ?_
  exact Wk.ireturn mrC rfl o_slotOf_8 rfl (by decide) (by decide) h1

def f_slotOf (F : Nat → Int32) (p1 : Int32) : Int32 := (p1 &&& ((F 0) - (1 : Int32)))
theorem e_slotOf (F : Nat → Int32) (p1 : Int32) : f_slotOf F p1 = (p1 &&& ((F 0) - (1 : Int32))) := Eq.trans rfl rfl
theorem run_slotOf {l : Launch} {Z : State} {a0 : Array Value} (H : OK Z a0) (F : Nat → Int32) (G : Nat → Int64) (A : Nat → Int32 → Int32) (B : Nat → Int32 → Int64) (p1 : Int32) :
    Wk l Z (MoC Z cdC) md_slotOf 0 [.val (.ref 0), .val (.int p1)] [] (1, F, G, A, B) 0 0 (fun v w' => v = some (.int (f_slotOf F p1)) ∧ w' = (1, F, G, A, B)) :=
  wp_slotOf H F G A B p1 ⟨rfl, rfl⟩
set_option maxRecDepth 65536 in
set_option maxHeartbeats 4000000 in
theorem wp_readCell {l : Launch} {Z : State} {a0 : Array Value} (H : OK Z a0) (F : Nat → Int32) (G : Nat → Int64) (A : Nat → Int32 → Int32) (B : Nat → Int32 → Int64) (p1 : Int32) {Q : Option Value → WO → Prop} (h2 : (f_slotOf F p1) < 0 → Q (some (.int (0 : Int32))) (1, F, G, A, B)) (h4 : ¬ (f_slotOf F p1) < 0 → ¬ (f_slotOf F p1) < (16 : Int32) → Q (some (.int (0 : Int32))) (1, F, G, A, B)) (h5 : ¬ (f_slotOf F p1) < 0 → (f_slotOf F p1) < (16 : Int32) → Q (some (.int ((A 0) (f_slotOf F p1)))) (1, F, G, A, B)) :
    Wk l Z (MoC Z cdC) md_readCell 0 [.val (.ref 0), .val (.int p1), .unset] [] (1, F, G, A, B) 0 0 Q := by
  refine Wk.aloadN o_readCell_0 rfl ?_
  refine Wk.iloadN o_readCell_1 rfl ?_
  refine Wk.callF [.int p1] [] (H.w 181 rfl) (cv_slotOf H) o_readCell_2 (run_slotOf H F G A B p1) (wt := 0) (cu' := 0) (su' := 0) (by decide) rfl rfl rfl rfl rfl rfl rfl ?_
  refine Wk.istoreN o_readCell_5 (Or.inl rfl) (L' := [.val (.ref 0), .val (.int p1), .val (.int (f_slotOf F p1))]) rfl ?_
  refine Wk.iloadN o_readCell_6 rfl ?_
  refine Wk.if_lt o_readCell_7 (fun q1 => ?_) (fun q1 => ?_)
  · refine Wk.iconst o_readCell_23 (z := (0 : Int32)) (by decide) ?_
    exact Wk.ireturn mrC rfl o_readCell_24 rfl (by decide) (by decide) (h2 q1)
  · refine Wk.iloadN o_readCell_10 rfl ?_
    refine Wk.bipush o_readCell_11 (z := (16 : Int32)) (by decide) ?_
    refine Wk.icmp_ge o_readCell_13 (fun q3 => ?_) (fun q3 => ?_)
    · refine Wk.iconst o_readCell_23 (z := (0 : Int32)) (by decide) ?_
      exact Wk.ireturn mrC rfl o_readCell_24 rfl (by decide) (by decide) (h4 q1 q3)
    · refine Wk.aloadN o_readCell_16 rfl ?_
      refine Wk.getA (mA_cell) (by decide) (i' := 1) rfl (wf_cell H) o_readCell_17 ?_
      refine Wk.iloadN o_readCell_20 rfl ?_
      refine Wk.iaload (mA_cell) (by decide) (i' := 1) rfl q1 q3 o_readCell_21 (y := ((A 0) (f_slotOf F p1))) rfl ?_
      exact Wk.ireturn mrC rfl o_readCell_22 rfl (by decide) (by decide) (h5 q1 q3)

def f_readCell (F : Nat → Int32) (A : Nat → Int32 → Int32) (p1 : Int32) : Int32 := (if (f_slotOf F p1) < 0 then (0 : Int32) else (if (f_slotOf F p1) < (16 : Int32) then ((A 0) (f_slotOf F p1)) else (0 : Int32)))
theorem e_readCell (F : Nat → Int32) (A : Nat → Int32 → Int32) (p1 : Int32) : f_readCell F A p1 = (if (f_slotOf F p1) < 0 then (0 : Int32) else (if (f_slotOf F p1) < (16 : Int32) then ((A 0) (f_slotOf F p1)) else (0 : Int32))) := Eq.trans rfl rfl
theorem run_readCell {l : Launch} {Z : State} {a0 : Array Value} (H : OK Z a0) (F : Nat → Int32) (G : Nat → Int64) (A : Nat → Int32 → Int32) (B : Nat → Int32 → Int64) (p1 : Int32) :
    Wk l Z (MoC Z cdC) md_readCell 0 [.val (.ref 0), .val (.int p1), .unset] [] (1, F, G, A, B) 0 0 (fun v w' => v = some (.int (f_readCell F A p1)) ∧ w' = (1, F, G, A, B)) :=
  wp_readCell H F G A B p1 (fun q1 => ⟨by simp only [e_readCell, if_pos q1], rfl⟩) (fun q1 q3 => ⟨by simp only [e_readCell, if_neg q1, if_neg q3], rfl⟩) (fun q1 q3 => ⟨by simp only [e_readCell, if_neg q1, if_pos q3], rfl⟩)
set_option maxRecDepth 65536 in
set_option maxHeartbeats 4000000 in
theorem wp_getUnread {l : Launch} {Z : State} {a0 : Array Value} (H : OK Z a0) (F : Nat → Int32) (G : Nat → Int64) (A : Nat → Int32 → Int32) (B : Nat → Int32 → Int64) (p1 : Int32) {Q : Option Value → WO → Prop} (h3 : ¬ p1 < 0 → p1 < (f_countValue F) → Q (some (.int (f_readCell F A ((F 8) + p1)))) (1, F, G, A, B)) (h4 : ¬ p1 < 0 → ¬ p1 < (f_countValue F) → Q (some (.int (0 : Int32))) (1, F, G, A, B)) (h5 : p1 < 0 → Q (some (.int (0 : Int32))) (1, F, G, A, B)) :
    Wk l Z (MoC Z cdC) md_getUnread 0 [.val (.ref 0), .val (.int p1)] [] (1, F, G, A, B) 0 0 Q := by
  refine Wk.iloadN o_getUnread_0 rfl ?_
  refine Wk.if_ge o_getUnread_1 (fun q1 => ?_) (fun q1 => ?_)
  · refine Wk.iloadN o_getUnread_6 rfl ?_
    refine Wk.aloadN o_getUnread_7 rfl ?_
    refine Wk.callF [] [.int p1] (H.w 93 rfl) (cv_countValue H) o_getUnread_8 (run_countValue H F G A B) (wt := 1) (cu' := 0) (su' := 0) (by decide) rfl rfl rfl rfl rfl rfl rfl ?_
    refine Wk.icmp_lt o_getUnread_11 (fun q2 => ?_) (fun q2 => ?_)
    · refine Wk.aloadN o_getUnread_16 rfl ?_
      refine Wk.aloadN o_getUnread_17 rfl ?_
      refine Wk.getI (mI_rbin) (wf_rbin H) o_getUnread_18 (x := (F 8)) rfl ?_
      refine Wk.iloadN o_getUnread_21 rfl ?_
      refine Wk.iadd o_getUnread_22 ?_
      refine Wk.callF [.int ((F 8) + p1)] [] (H.w 189 rfl) (cv_readCell H) o_getUnread_23 (run_readCell H F G A B ((F 8) + p1)) (wt := 0) (cu' := 0) (su' := 0) (by decide) rfl rfl rfl rfl rfl rfl rfl ?_
      exact Wk.ireturn mrC rfl o_getUnread_26 rfl (by decide) (by decide) (h3 q1 q2)
    · refine Wk.iconst o_getUnread_14 (z := (0 : Int32)) (by decide) ?_
      exact Wk.ireturn mrC rfl o_getUnread_15 rfl (by decide) (by decide) (h4 q1 q2)
  · refine Wk.iconst o_getUnread_4 (z := (0 : Int32)) (by decide) ?_
    exact Wk.ireturn mrC rfl o_getUnread_5 rfl (by decide) (by decide) (h5 q1)

def f_getUnread (F : Nat → Int32) (A : Nat → Int32 → Int32) (p1 : Int32) : Int32 := (if p1 < 0 then (0 : Int32) else (if p1 < (f_countValue F) then (f_readCell F A ((F 8) + p1)) else (0 : Int32)))
theorem e_getUnread (F : Nat → Int32) (A : Nat → Int32 → Int32) (p1 : Int32) : f_getUnread F A p1 = (if p1 < 0 then (0 : Int32) else (if p1 < (f_countValue F) then (f_readCell F A ((F 8) + p1)) else (0 : Int32))) := Eq.trans rfl rfl
theorem run_getUnread {l : Launch} {Z : State} {a0 : Array Value} (H : OK Z a0) (F : Nat → Int32) (G : Nat → Int64) (A : Nat → Int32 → Int32) (B : Nat → Int32 → Int64) (p1 : Int32) :
    Wk l Z (MoC Z cdC) md_getUnread 0 [.val (.ref 0), .val (.int p1)] [] (1, F, G, A, B) 0 0 (fun v w' => v = some (.int (f_getUnread F A p1)) ∧ w' = (1, F, G, A, B)) :=
  wp_getUnread H F G A B p1 (fun q1 q2 => ⟨by simp only [e_getUnread, if_neg q1, if_pos q2], rfl⟩) (fun q1 q2 => ⟨by simp only [e_getUnread, if_neg q1, if_neg q2], rfl⟩) (fun q1 => ⟨by simp only [e_getUnread, if_pos q1], rfl⟩)
set_option maxRecDepth 65536 in
set_option maxHeartbeats 4000000 in
theorem wp_sample {l : Launch} {Z : State} {a0 : Array Value} (H : OK Z a0) (F : Nat → Int32) (G : Nat → Int64) (A : Nat → Int32 → Int32) (B : Nat → Int32 → Int64) (p1 : Int32) (p2 : Int32) (p3 : Int32) (p4 : Int32) {Q : Option Value → WO → Prop} (h2 : ¬ p3 = 0 → Q (some (.int (f_modPointer F (p1 ^^^ (((p2 ^^^ p1) &&& p4) &&& (f_pointerMask F)))))) (1, F, G, A, B)) (h3 : p3 = 0 → Q (some (.int p1)) (1, F, G, A, B)) :
    Wk l Z (MoC Z cdC) md_sample 0 [.val (.ref 0), .val (.int p1), .val (.int p2), .val (.int p3), .val (.int p4), .unset] [] (1, F, G, A, B) 0 0 Q := by
  refine Wk.iloadN o_sample_0 rfl ?_
  refine Wk.if_ne o_sample_1 (fun q1 => ?_) (fun q1 => ?_)
  · refine Wk.iloadN o_sample_6 rfl ?_
    refine Wk.iloadN o_sample_7 rfl ?_
    refine Wk.ixor o_sample_8 ?_
    refine Wk.iload o_sample_9 rfl ?_
    refine Wk.iand o_sample_11 ?_
    refine Wk.aloadN o_sample_12 rfl ?_
    refine Wk.callF [] [.int ((p2 ^^^ p1) &&& p4)] (H.w 101 rfl) (cv_pointerMask H) o_sample_13 (run_pointerMask H F G A B) (wt := 1) (cu' := 0) (su' := 0) (by decide) rfl rfl rfl rfl rfl rfl rfl ?_
    refine Wk.iand o_sample_16 ?_
    refine Wk.istore o_sample_17 (Or.inl rfl) (L' := [.val (.ref 0), .val (.int p1), .val (.int p2), .val (.int p3), .val (.int p4), .val (.int (((p2 ^^^ p1) &&& p4) &&& (f_pointerMask F)))]) rfl ?_
    refine Wk.aloadN o_sample_19 rfl ?_
    refine Wk.iloadN o_sample_20 rfl ?_
    refine Wk.iload o_sample_21 rfl ?_
    refine Wk.ixor o_sample_23 ?_
    refine Wk.callF [.int (p1 ^^^ (((p2 ^^^ p1) &&& p4) &&& (f_pointerMask F)))] [] (H.w 97 rfl) (cv_modPointer H) o_sample_24 (run_modPointer H F G A B (p1 ^^^ (((p2 ^^^ p1) &&& p4) &&& (f_pointerMask F)))) (wt := 0) (cu' := 0) (su' := 0) (by decide) rfl rfl rfl rfl rfl rfl rfl ?_
    exact Wk.ireturn mrC rfl o_sample_27 rfl (by decide) (by decide) (h2 q1)
  · refine Wk.iloadN o_sample_4 rfl ?_
    exact Wk.ireturn mrC rfl o_sample_5 rfl (by decide) (by decide) (h3 q1)

def f_sample (F : Nat → Int32) (p1 : Int32) (p2 : Int32) (p3 : Int32) (p4 : Int32) : Int32 := (if p3 = 0 then p1 else (f_modPointer F (p1 ^^^ (((p2 ^^^ p1) &&& p4) &&& (f_pointerMask F)))))
theorem e_sample (F : Nat → Int32) (p1 : Int32) (p2 : Int32) (p3 : Int32) (p4 : Int32) : f_sample F p1 p2 p3 p4 = (if p3 = 0 then p1 else (f_modPointer F (p1 ^^^ (((p2 ^^^ p1) &&& p4) &&& (f_pointerMask F))))) := Eq.trans rfl rfl
theorem run_sample {l : Launch} {Z : State} {a0 : Array Value} (H : OK Z a0) (F : Nat → Int32) (G : Nat → Int64) (A : Nat → Int32 → Int32) (B : Nat → Int32 → Int64) (p1 : Int32) (p2 : Int32) (p3 : Int32) (p4 : Int32) :
    Wk l Z (MoC Z cdC) md_sample 0 [.val (.ref 0), .val (.int p1), .val (.int p2), .val (.int p3), .val (.int p4), .unset] [] (1, F, G, A, B) 0 0 (fun v w' => v = some (.int (f_sample F p1 p2 p3 p4)) ∧ w' = (1, F, G, A, B)) :=
  wp_sample H F G A B p1 p2 p3 p4 (fun q1 => ⟨by simp only [e_sample, if_neg q1], rfl⟩) (fun q1 => ⟨by simp only [e_sample, if_pos q1], rfl⟩)
set_option maxRecDepth 65536 in
set_option maxHeartbeats 4000000 in
theorem wp_shiftWriteSync {l : Launch} {Z : State} {a0 : Array Value} (H : OK Z a0) (F : Nat → Int32) (G : Nat → Int64) (A : Nat → Int32 → Int32) (B : Nat → Int32 → Int64) (p1 : Int32) {Q : Option Value → WO → Prop} (h1 : Q none (1, (ups (ups (ups F 13 (F 12)) 12 (f_sample (ups F 13 (F 12)) (F 9) (F 10) (F 11) p1)) 11 (0 : Int32)), G, A, B)) :
    Wk l Z (MoC Z cdC) md_shiftWriteSync 0 [.val (.ref 0), .val (.int p1)] [] (1, F, G, A, B) 0 0 Q := by
  refine Wk.aloadN o_shiftWriteSync_0 rfl ?_
  refine Wk.aloadN o_shiftWriteSync_1 rfl ?_
  refine Wk.getI (mI_wq1) (wf_wq1 H) o_shiftWriteSync_2 (x := (F 12)) rfl ?_
  refine Wk.putI (coC H) (mI_wq2) (wf_wq2 H) (Or.inl (wy_wq2 H)) o_shiftWriteSync_5 ?_
  refine Wk.aloadN o_shiftWriteSync_8 rfl ?_
  refine Wk.aloadN o_shiftWriteSync_9 rfl ?_
  refine Wk.aloadN o_shiftWriteSync_10 rfl ?_
  refine Wk.getI (mI_rgray) (wf_rgray H) o_shiftWriteSync_11 (x := (F 9)) rfl ?_
  refine Wk.aloadN o_shiftWriteSync_14 rfl ?_
  refine Wk.getI (mI_rprev) (wf_rprev H) o_shiftWriteSync_15 (x := (F 10)) rfl ?_
  refine Wk.aloadN o_shiftWriteSync_18 rfl ?_
  refine Wk.getI (mI_rChanging) (wf_rChanging H) o_shiftWriteSync_19 (x := (F 11)) rfl ?_
  refine Wk.iloadN o_shiftWriteSync_22 rfl ?_
  refine Wk.callF [.int (F 9), .int (F 10), .int (F 11), .int p1] [.ref 0] (H.w 169 rfl) (cv_sample H) o_shiftWriteSync_23 (run_sample H (ups F 13 (F 12)) G A B (F 9) (F 10) (F 11) p1) (wt := 1) (cu' := 0) (su' := 0) (by decide) rfl rfl rfl (al_sample _ _ _ _) rfl rfl rfl ?_
  refine Wk.putI (coC H) (mI_wq1) (wf_wq1 H) (Or.inl (wy_wq1 H)) o_shiftWriteSync_26 ?_
  refine Wk.aloadN o_shiftWriteSync_29 rfl ?_
  refine Wk.iconst o_shiftWriteSync_30 (z := (0 : Int32)) (by decide) ?_
  refine Wk.putZ (coC H) (y := (0 : Int32)) (by decide) (mI_rChanging) (wf_rChanging H) (Or.inl (wy_rChanging H)) o_shiftWriteSync_31 ?_
  exact Wk.ret mrC rfl o_shiftWriteSync_34 rfl (by decide) (by decide) h1

def F_shiftWriteSync (F : Nat → Int32) (p1 : Int32) : Nat → Int32 := (ups (ups (ups F 13 (F 12)) 12 (f_sample (ups F 13 (F 12)) (F 9) (F 10) (F 11) p1)) 11 (0 : Int32))
theorem eF_shiftWriteSync (F : Nat → Int32) (p1 : Int32) : F_shiftWriteSync F p1 = (ups (ups (ups F 13 (F 12)) 12 (f_sample (ups F 13 (F 12)) (F 9) (F 10) (F 11) p1)) 11 (0 : Int32)) := Eq.trans rfl rfl
theorem F_shiftWriteSync_0 (F : Nat → Int32) (p1 : Int32) : F_shiftWriteSync F p1 0 = (F 0) := by
  exact Eq.trans rfl rfl
theorem F_shiftWriteSync_1 (F : Nat → Int32) (p1 : Int32) : F_shiftWriteSync F p1 1 = (F 1) := by
  exact Eq.trans rfl rfl
theorem F_shiftWriteSync_2 (F : Nat → Int32) (p1 : Int32) : F_shiftWriteSync F p1 2 = (F 2) := by
  exact Eq.trans rfl rfl
theorem F_shiftWriteSync_3 (F : Nat → Int32) (p1 : Int32) : F_shiftWriteSync F p1 3 = (F 3) := by
  exact Eq.trans rfl rfl
theorem F_shiftWriteSync_4 (F : Nat → Int32) (p1 : Int32) : F_shiftWriteSync F p1 4 = (F 4) := by
  exact Eq.trans rfl rfl
theorem F_shiftWriteSync_5 (F : Nat → Int32) (p1 : Int32) : F_shiftWriteSync F p1 5 = (F 5) := by
  exact Eq.trans rfl rfl
theorem F_shiftWriteSync_6 (F : Nat → Int32) (p1 : Int32) : F_shiftWriteSync F p1 6 = (F 6) := by
  exact Eq.trans rfl rfl
theorem F_shiftWriteSync_7 (F : Nat → Int32) (p1 : Int32) : F_shiftWriteSync F p1 7 = (F 7) := by
  exact Eq.trans rfl rfl
theorem F_shiftWriteSync_8 (F : Nat → Int32) (p1 : Int32) : F_shiftWriteSync F p1 8 = (F 8) := by
  exact Eq.trans rfl rfl
theorem F_shiftWriteSync_9 (F : Nat → Int32) (p1 : Int32) : F_shiftWriteSync F p1 9 = (F 9) := by
  exact Eq.trans rfl rfl
theorem F_shiftWriteSync_10 (F : Nat → Int32) (p1 : Int32) : F_shiftWriteSync F p1 10 = (F 10) := by
  exact Eq.trans rfl rfl
theorem F_shiftWriteSync_11 (F : Nat → Int32) (p1 : Int32) : F_shiftWriteSync F p1 11 = (0 : Int32) := by
  exact Eq.trans rfl rfl
theorem F_shiftWriteSync_12 (F : Nat → Int32) (p1 : Int32) : F_shiftWriteSync F p1 12 = (f_sample (ups F 13 (F 12)) (F 9) (F 10) (F 11) p1) := by
  exact Eq.trans rfl rfl
theorem F_shiftWriteSync_13 (F : Nat → Int32) (p1 : Int32) : F_shiftWriteSync F p1 13 = (F 12) := by
  exact Eq.trans rfl rfl
theorem F_shiftWriteSync_14 (F : Nat → Int32) (p1 : Int32) : F_shiftWriteSync F p1 14 = (F 14) := by
  exact Eq.trans rfl rfl
theorem F_shiftWriteSync_15 (F : Nat → Int32) (p1 : Int32) : F_shiftWriteSync F p1 15 = (F 15) := by
  exact Eq.trans rfl rfl
theorem F_shiftWriteSync_16 (F : Nat → Int32) (p1 : Int32) : F_shiftWriteSync F p1 16 = (F 16) := by
  exact Eq.trans rfl rfl
theorem F_shiftWriteSync_17 (F : Nat → Int32) (p1 : Int32) : F_shiftWriteSync F p1 17 = (F 17) := by
  exact Eq.trans rfl rfl
theorem F_shiftWriteSync_18 (F : Nat → Int32) (p1 : Int32) : F_shiftWriteSync F p1 18 = (F 18) := by
  exact Eq.trans rfl rfl
theorem run_shiftWriteSync {l : Launch} {Z : State} {a0 : Array Value} (H : OK Z a0) (F : Nat → Int32) (G : Nat → Int64) (A : Nat → Int32 → Int32) (B : Nat → Int32 → Int64) (p1 : Int32) :
    Wk l Z (MoC Z cdC) md_shiftWriteSync 0 [.val (.ref 0), .val (.int p1)] [] (1, F, G, A, B) 0 0 (fun v w' => v = none ∧ w' = (1, (F_shiftWriteSync F p1), G, A, B)) :=
  wp_shiftWriteSync H F G A B p1 ⟨rfl, rfl⟩
set_option maxRecDepth 65536 in
set_option maxHeartbeats 4000000 in
theorem wp_writeCell {l : Launch} {Z : State} {a0 : Array Value} (H : OK Z a0) (F : Nat → Int32) (G : Nat → Int64) (A : Nat → Int32 → Int32) (B : Nat → Int32 → Int64) (p1 : Int32) (p2 : Int32) {Q : Option Value → WO → Prop} (h3 : (f_slotOf F p1) < 0 → Q none (1, F, G, A, B)) (h5 : ¬ (f_slotOf F p1) < 0 → ¬ (f_slotOf F p1) < (16 : Int32) → Q none (1, F, G, A, B)) (h6 : ¬ (f_slotOf F p1) < 0 → (f_slotOf F p1) < (16 : Int32) → Q none (1, F, G, (ups A 0 (ups (A 0) (f_slotOf F p1) p2)), B)) :
    Wk l Z (MoC Z cdC) md_writeCell 0 [.val (.ref 0), .val (.int p1), .val (.int p2), .unset] [] (1, F, G, A, B) 0 0 Q := by
  refine Wk.aloadN o_writeCell_0 rfl ?_
  refine Wk.iloadN o_writeCell_1 rfl ?_
  refine Wk.callF [.int p1] [] (H.w 181 rfl) (cv_slotOf H) o_writeCell_2 (run_slotOf H F G A B p1) (wt := 0) (cu' := 0) (su' := 0) (by decide) rfl rfl rfl rfl rfl rfl rfl ?_
  refine Wk.istoreN o_writeCell_5 (Or.inl rfl) (L' := [.val (.ref 0), .val (.int p1), .val (.int p2), .val (.int (f_slotOf F p1))]) rfl ?_
  refine Wk.iloadN o_writeCell_6 rfl ?_
  refine Wk.if_lt o_writeCell_7 (fun q1 => ?_) (fun q1 => ?_)
  · exact Wk.ret mrC rfl o_writeCell_23 rfl (by decide) (by decide) (h3 q1)
  · refine Wk.iloadN o_writeCell_10 rfl ?_
    refine Wk.bipush o_writeCell_11 (z := (16 : Int32)) (by decide) ?_
    refine Wk.icmp_ge o_writeCell_13 (fun q4 => ?_) (fun q4 => ?_)
    · exact Wk.ret mrC rfl o_writeCell_23 rfl (by decide) (by decide) (h5 q1 q4)
    · refine Wk.aloadN o_writeCell_16 rfl ?_
      refine Wk.getA (mA_cell) (by decide) (i' := 1) rfl (wf_cell H) o_writeCell_17 ?_
      refine Wk.iloadN o_writeCell_20 rfl ?_
      refine Wk.iloadN o_writeCell_21 rfl ?_
      refine Wk.iastore (coC H) (f := (A 0)) (mA_cell) rfl (by decide) (i' := 1) rfl q1 q4 o_writeCell_22 ?_
      exact Wk.ret mrC rfl o_writeCell_23 rfl (by decide) (by decide) (h6 q1 q4)

def A_writeCell (F : Nat → Int32) (A : Nat → Int32 → Int32) (p1 : Int32) (p2 : Int32) : Nat → Int32 → Int32 := (if (f_slotOf F p1) < 0 then A else (if (f_slotOf F p1) < (16 : Int32) then (ups A 0 (ups (A 0) (f_slotOf F p1) p2)) else A))
theorem eA_writeCell (F : Nat → Int32) (A : Nat → Int32 → Int32) (p1 : Int32) (p2 : Int32) : A_writeCell F A p1 p2 = (if (f_slotOf F p1) < 0 then A else (if (f_slotOf F p1) < (16 : Int32) then (ups A 0 (ups (A 0) (f_slotOf F p1) p2)) else A)) := Eq.trans rfl rfl
theorem run_writeCell {l : Launch} {Z : State} {a0 : Array Value} (H : OK Z a0) (F : Nat → Int32) (G : Nat → Int64) (A : Nat → Int32 → Int32) (B : Nat → Int32 → Int64) (p1 : Int32) (p2 : Int32) :
    Wk l Z (MoC Z cdC) md_writeCell 0 [.val (.ref 0), .val (.int p1), .val (.int p2), .unset] [] (1, F, G, A, B) 0 0 (fun v w' => v = none ∧ w' = (1, F, G, (A_writeCell F A p1 p2), B)) :=
  wp_writeCell H F G A B p1 p2 (fun q1 => ⟨rfl, by simp only [eA_writeCell, if_pos q1]⟩) (fun q1 q4 => ⟨rfl, by simp only [eA_writeCell, if_neg q1, if_neg q4]⟩) (fun q1 q4 => ⟨rfl, by simp only [eA_writeCell, if_neg q1, if_pos q4]⟩)
set_option maxRecDepth 65536 in
set_option maxHeartbeats 4000000 in
theorem wp_gray {l : Launch} {Z : State} {a0 : Array Value} (H : OK Z a0) (F : Nat → Int32) (G : Nat → Int64) (A : Nat → Int32 → Int32) (B : Nat → Int32 → Int64) (p1 : Int32) {Q : Option Value → WO → Prop} (h1 : Q (some (.int ((f_modPointer F p1) ^^^ (XT.ushr (f_modPointer F p1) (1 : Int32))))) (1, F, G, A, B)) :
    Wk l Z (MoC Z cdC) md_gray 0 [.val (.ref 0), .val (.int p1), .unset] [] (1, F, G, A, B) 0 0 Q := by
  refine Wk.aloadN o_gray_0 rfl ?_
  refine Wk.iloadN o_gray_1 rfl ?_
  refine Wk.callF [.int p1] [] (H.w 97 rfl) (cv_modPointer H) o_gray_2 (run_modPointer H F G A B p1) (wt := 0) (cu' := 0) (su' := 0) (by decide) rfl rfl rfl rfl rfl rfl rfl ?_
  refine Wk.istoreN o_gray_5 (Or.inl rfl) (L' := [.val (.ref 0), .val (.int p1), .val (.int (f_modPointer F p1))]) rfl ?_
  refine Wk.iloadN o_gray_6 rfl ?_
  refine Wk.iloadN o_gray_7 rfl ?_
  refine Wk.iconst o_gray_8 (z := (1 : Int32)) (by decide) ?_
  refine Wk.iushr o_gray_9 ?_
  refine Wk.ixor o_gray_10 ?_
  exact Wk.ireturn mrC rfl o_gray_11 rfl (by decide) (by decide) h1

def f_gray (F : Nat → Int32) (p1 : Int32) : Int32 := ((f_modPointer F p1) ^^^ (XT.ushr (f_modPointer F p1) (1 : Int32)))
theorem e_gray (F : Nat → Int32) (p1 : Int32) : f_gray F p1 = ((f_modPointer F p1) ^^^ (XT.ushr (f_modPointer F p1) (1 : Int32))) := Eq.trans rfl rfl
theorem run_gray {l : Launch} {Z : State} {a0 : Array Value} (H : OK Z a0) (F : Nat → Int32) (G : Nat → Int64) (A : Nat → Int32 → Int32) (B : Nat → Int32 → Int64) (p1 : Int32) :
    Wk l Z (MoC Z cdC) md_gray 0 [.val (.ref 0), .val (.int p1), .unset] [] (1, F, G, A, B) 0 0 (fun v w' => v = some (.int (f_gray F p1)) ∧ w' = (1, F, G, A, B)) :=
  wp_gray H F G A B p1 ⟨rfl, rfl⟩
set_option maxRecDepth 65536 in
set_option maxHeartbeats 4000000 in
theorem wp_acceptWrite {l : Launch} {Z : State} {a0 : Array Value} (H : OK Z a0) (F : Nat → Int32) (G : Nat → Int64) (A : Nat → Int32 → Int32) (B : Nat → Int32 → Int64) (p1 : Int32) {Q : Option Value → WO → Prop} (h1 : Q none (1, (ups (ups (ups (ups (ups F 6 (F 5)) 4 (f_modPointer (ups F 6 (F 5)) ((F 4) + (1 : Int32)))) 5 (f_gray (ups (ups F 6 (F 5)) 4 (f_modPointer (ups F 6 (F 5)) ((F 4) + (1 : Int32)))) (f_modPointer (ups F 6 (F 5)) ((F 4) + (1 : Int32))))) 7 (1 : Int32)) 17 ((F 17) + (1 : Int32))), G, (A_writeCell F A (F 4) p1), B)) :
    Wk l Z (MoC Z cdC) md_acceptWrite 0 [.val (.ref 0), .val (.int p1)] [] (1, F, G, A, B) 0 0 Q := by
  refine Wk.aloadN o_acceptWrite_0 rfl ?_
  refine Wk.aloadN o_acceptWrite_1 rfl ?_
  refine Wk.getI (mI_wbin) (wf_wbin H) o_acceptWrite_2 (x := (F 4)) rfl ?_
  refine Wk.iloadN o_acceptWrite_5 rfl ?_
  refine Wk.callU [.int (F 4), .int p1] [] (H.w 177 rfl) (cv_writeCell H) o_acceptWrite_6 (run_writeCell H F G A B (F 4) p1) (wt := 0) (cu' := 0) (su' := 0) (by decide) rfl rfl rfl rfl rfl rfl rfl ?_
  refine Wk.aloadN o_acceptWrite_9 rfl ?_
  refine Wk.aloadN o_acceptWrite_10 rfl ?_
  refine Wk.getI (mI_wgray) (wf_wgray H) o_acceptWrite_11 (x := (F 5)) rfl ?_
  refine Wk.putI (coC H) (mI_wprev) (wf_wprev H) (Or.inl (wy_wprev H)) o_acceptWrite_14 ?_
  refine Wk.aloadN o_acceptWrite_17 rfl ?_
  refine Wk.aloadN o_acceptWrite_18 rfl ?_
  refine Wk.aloadN o_acceptWrite_19 rfl ?_
  refine Wk.getI (mI_wbin) (wf_wbin H) o_acceptWrite_20 (x := (F 4)) rfl ?_
  refine Wk.iconst o_acceptWrite_23 (z := (1 : Int32)) (by decide) ?_
  refine Wk.iadd o_acceptWrite_24 ?_
  refine Wk.callF [.int ((F 4) + (1 : Int32))] [.ref 0] (H.w 97 rfl) (cv_modPointer H) o_acceptWrite_25 (run_modPointer H (ups F 6 (F 5)) G (A_writeCell F A (F 4) p1) B ((F 4) + (1 : Int32))) (wt := 1) (cu' := 0) (su' := 0) (by decide) rfl rfl rfl rfl rfl rfl rfl ?_
  refine Wk.putI (coC H) (mI_wbin) (wf_wbin H) (Or.inl (wy_wbin H)) o_acceptWrite_28 ?_
  refine Wk.aloadN o_acceptWrite_31 rfl ?_
  refine Wk.aloadN o_acceptWrite_32 rfl ?_
  refine Wk.aloadN o_acceptWrite_33 rfl ?_
  refine Wk.getI (mI_wbin) (wf_wbin H) o_acceptWrite_34 (x := (f_modPointer (ups F 6 (F 5)) ((F 4) + (1 : Int32)))) rfl ?_
  refine Wk.callF [.int (f_modPointer (ups F 6 (F 5)) ((F 4) + (1 : Int32)))] [.ref 0] (H.w 185 rfl) (cv_gray H) o_acceptWrite_37 (run_gray H (ups (ups F 6 (F 5)) 4 (f_modPointer (ups F 6 (F 5)) ((F 4) + (1 : Int32)))) G (A_writeCell F A (F 4) p1) B (f_modPointer (ups F 6 (F 5)) ((F 4) + (1 : Int32)))) (wt := 1) (cu' := 0) (su' := 0) (by decide) rfl rfl rfl rfl rfl rfl rfl ?_
  refine Wk.putI (coC H) (mI_wgray) (wf_wgray H) (Or.inl (wy_wgray H)) o_acceptWrite_40 ?_
  refine Wk.aloadN o_acceptWrite_43 rfl ?_
  refine Wk.iconst o_acceptWrite_44 (z := (1 : Int32)) (by decide) ?_
  refine Wk.putZ (coC H) (y := (1 : Int32)) (by decide) (mI_wChanging) (wf_wChanging H) (Or.inl (wy_wChanging H)) o_acceptWrite_45 ?_
  refine Wk.aloadN o_acceptWrite_48 rfl ?_
  refine Wk.aloadN o_acceptWrite_49 rfl ?_
  refine Wk.getI (mI_totalW) (wf_totalW H) o_acceptWrite_50 (x := (F 17)) rfl ?_
  refine Wk.iconst o_acceptWrite_53 (z := (1 : Int32)) (by decide) ?_
  refine Wk.iadd o_acceptWrite_54 ?_
  refine Wk.putI (coC H) (mI_totalW) (wf_totalW H) (Or.inl (wy_totalW H)) o_acceptWrite_55 ?_
  exact Wk.ret mrC rfl o_acceptWrite_58 rfl (by decide) (by decide) h1

def F_acceptWrite (F : Nat → Int32) (p1 : Int32) : Nat → Int32 := (ups (ups (ups (ups (ups F 6 (F 5)) 4 (f_modPointer (ups F 6 (F 5)) ((F 4) + (1 : Int32)))) 5 (f_gray (ups (ups F 6 (F 5)) 4 (f_modPointer (ups F 6 (F 5)) ((F 4) + (1 : Int32)))) (f_modPointer (ups F 6 (F 5)) ((F 4) + (1 : Int32))))) 7 (1 : Int32)) 17 ((F 17) + (1 : Int32)))
theorem eF_acceptWrite (F : Nat → Int32) (p1 : Int32) : F_acceptWrite F p1 = (ups (ups (ups (ups (ups F 6 (F 5)) 4 (f_modPointer (ups F 6 (F 5)) ((F 4) + (1 : Int32)))) 5 (f_gray (ups (ups F 6 (F 5)) 4 (f_modPointer (ups F 6 (F 5)) ((F 4) + (1 : Int32)))) (f_modPointer (ups F 6 (F 5)) ((F 4) + (1 : Int32))))) 7 (1 : Int32)) 17 ((F 17) + (1 : Int32))) := Eq.trans rfl rfl
def A_acceptWrite (F : Nat → Int32) (A : Nat → Int32 → Int32) (p1 : Int32) : Nat → Int32 → Int32 := (A_writeCell F A (F 4) p1)
theorem eA_acceptWrite (F : Nat → Int32) (A : Nat → Int32 → Int32) (p1 : Int32) : A_acceptWrite F A p1 = (A_writeCell F A (F 4) p1) := Eq.trans rfl rfl
theorem F_acceptWrite_0 (F : Nat → Int32) (p1 : Int32) : F_acceptWrite F p1 0 = (F 0) := by
  exact Eq.trans rfl rfl
theorem F_acceptWrite_1 (F : Nat → Int32) (p1 : Int32) : F_acceptWrite F p1 1 = (F 1) := by
  exact Eq.trans rfl rfl
theorem F_acceptWrite_2 (F : Nat → Int32) (p1 : Int32) : F_acceptWrite F p1 2 = (F 2) := by
  exact Eq.trans rfl rfl
theorem F_acceptWrite_3 (F : Nat → Int32) (p1 : Int32) : F_acceptWrite F p1 3 = (F 3) := by
  exact Eq.trans rfl rfl
theorem F_acceptWrite_4 (F : Nat → Int32) (p1 : Int32) : F_acceptWrite F p1 4 = (f_modPointer (ups F 6 (F 5)) ((F 4) + (1 : Int32))) := by
  exact Eq.trans rfl rfl
theorem F_acceptWrite_5 (F : Nat → Int32) (p1 : Int32) : F_acceptWrite F p1 5 = (f_gray (ups (ups F 6 (F 5)) 4 (f_modPointer (ups F 6 (F 5)) ((F 4) + (1 : Int32)))) (f_modPointer (ups F 6 (F 5)) ((F 4) + (1 : Int32)))) := by
  exact Eq.trans rfl rfl
theorem F_acceptWrite_6 (F : Nat → Int32) (p1 : Int32) : F_acceptWrite F p1 6 = (F 5) := by
  exact Eq.trans rfl rfl
theorem F_acceptWrite_7 (F : Nat → Int32) (p1 : Int32) : F_acceptWrite F p1 7 = (1 : Int32) := by
  exact Eq.trans rfl rfl
theorem F_acceptWrite_8 (F : Nat → Int32) (p1 : Int32) : F_acceptWrite F p1 8 = (F 8) := by
  exact Eq.trans rfl rfl
theorem F_acceptWrite_9 (F : Nat → Int32) (p1 : Int32) : F_acceptWrite F p1 9 = (F 9) := by
  exact Eq.trans rfl rfl
theorem F_acceptWrite_10 (F : Nat → Int32) (p1 : Int32) : F_acceptWrite F p1 10 = (F 10) := by
  exact Eq.trans rfl rfl
theorem F_acceptWrite_11 (F : Nat → Int32) (p1 : Int32) : F_acceptWrite F p1 11 = (F 11) := by
  exact Eq.trans rfl rfl
theorem F_acceptWrite_12 (F : Nat → Int32) (p1 : Int32) : F_acceptWrite F p1 12 = (F 12) := by
  exact Eq.trans rfl rfl
theorem F_acceptWrite_13 (F : Nat → Int32) (p1 : Int32) : F_acceptWrite F p1 13 = (F 13) := by
  exact Eq.trans rfl rfl
theorem F_acceptWrite_14 (F : Nat → Int32) (p1 : Int32) : F_acceptWrite F p1 14 = (F 14) := by
  exact Eq.trans rfl rfl
theorem F_acceptWrite_15 (F : Nat → Int32) (p1 : Int32) : F_acceptWrite F p1 15 = (F 15) := by
  exact Eq.trans rfl rfl
theorem F_acceptWrite_16 (F : Nat → Int32) (p1 : Int32) : F_acceptWrite F p1 16 = (F 16) := by
  exact Eq.trans rfl rfl
theorem F_acceptWrite_17 (F : Nat → Int32) (p1 : Int32) : F_acceptWrite F p1 17 = ((F 17) + (1 : Int32)) := by
  exact Eq.trans rfl rfl
theorem F_acceptWrite_18 (F : Nat → Int32) (p1 : Int32) : F_acceptWrite F p1 18 = (F 18) := by
  exact Eq.trans rfl rfl
theorem run_acceptWrite {l : Launch} {Z : State} {a0 : Array Value} (H : OK Z a0) (F : Nat → Int32) (G : Nat → Int64) (A : Nat → Int32 → Int32) (B : Nat → Int32 → Int64) (p1 : Int32) :
    Wk l Z (MoC Z cdC) md_acceptWrite 0 [.val (.ref 0), .val (.int p1)] [] (1, F, G, A, B) 0 0 (fun v w' => v = none ∧ w' = (1, (F_acceptWrite F p1), G, (A_acceptWrite F A p1), B)) :=
  wp_acceptWrite H F G A B p1 ⟨rfl, rfl⟩
set_option maxRecDepth 65536 in
set_option maxHeartbeats 4000000 in
theorem wp_writeEdge {l : Launch} {Z : State} {a0 : Array Value} (H : OK Z a0) (F : Nat → Int32) (G : Nat → Int64) (A : Nat → Int32 → Int32) (B : Nat → Int32 → Int64) (p1 : Int32) (p2 : Int32) (p3 : Int32) {Q : Option Value → WO → Prop} (h3 : ¬ p1 = 0 → (f_fullNow F) = 0 → Q (some (.int (1 : Int32))) (1, (F_acceptWrite (F_shiftWriteSync F p3) p2), G, (A_acceptWrite (F_shiftWriteSync F p3) A p2), B)) (h4 : ¬ p1 = 0 → ¬ (f_fullNow F) = 0 → Q (some (.int (2 : Int32))) (1, (F_shiftWriteSync F p3), G, A, B)) (h5 : p1 = 0 → Q (some (.int (0 : Int32))) (1, (F_shiftWriteSync F p3), G, A, B)) :
    Wk l Z (MoC Z cdC) md_writeEdge 0 [.val (.ref 0), .val (.int p1), .val (.int p2), .val (.int p3), .unset] [] (1, F, G, A, B) 0 0 Q := by
  refine Wk.aloadN o_writeEdge_0 rfl ?_
  refine Wk.callF [] [] (H.w 137 rfl) (cv_fullNow H) o_writeEdge_1 (run_fullNow H F G A B) (wt := 0) (cu' := 0) (su' := 0) (by decide) rfl rfl rfl rfl rfl rfl rfl ?_
  refine Wk.istore o_writeEdge_4 (Or.inl rfl) (L' := [.val (.ref 0), .val (.int p1), .val (.int p2), .val (.int p3), .val (.int (f_fullNow F))]) rfl ?_
  refine Wk.aloadN o_writeEdge_6 rfl ?_
  refine Wk.iloadN o_writeEdge_7 rfl ?_
  refine Wk.callU [.int p3] [] (H.w 165 rfl) (cv_shiftWriteSync H) o_writeEdge_8 (run_shiftWriteSync H F G A B p3) (wt := 0) (cu' := 0) (su' := 0) (by decide) rfl rfl rfl rfl rfl rfl rfl ?_
  refine Wk.iloadN o_writeEdge_11 rfl ?_
  refine Wk.if_ne o_writeEdge_12 (fun q1 => ?_) (fun q1 => ?_)
  · refine Wk.iload o_writeEdge_17 rfl ?_
    refine Wk.if_eq o_writeEdge_19 (fun q2 => ?_) (fun q2 => ?_)
    · refine Wk.aloadN o_writeEdge_24 rfl ?_
      refine Wk.iloadN o_writeEdge_25 rfl ?_
      refine Wk.callU [.int p2] [] (H.w 173 rfl) (cv_acceptWrite H) o_writeEdge_26 (run_acceptWrite H (F_shiftWriteSync F p3) G A B p2) (wt := 0) (cu' := 0) (su' := 0) (by decide) rfl rfl rfl rfl rfl rfl rfl ?_
      refine Wk.iconst o_writeEdge_29 (z := (1 : Int32)) (by decide) ?_
      exact Wk.ireturn mrC rfl o_writeEdge_30 rfl (by decide) (by decide) (h3 q1 q2)
    · refine Wk.iconst o_writeEdge_22 (z := (2 : Int32)) (by decide) ?_
      exact Wk.ireturn mrC rfl o_writeEdge_23 rfl (by decide) (by decide) (h4 q1 q2)
  · refine Wk.iconst o_writeEdge_15 (z := (0 : Int32)) (by decide) ?_
    exact Wk.ireturn mrC rfl o_writeEdge_16 rfl (by decide) (by decide) (h5 q1)

def f_writeEdge (F : Nat → Int32) (p1 : Int32) (p2 : Int32) (p3 : Int32) : Int32 := (if p1 = 0 then (0 : Int32) else (if (f_fullNow F) = 0 then (1 : Int32) else (2 : Int32)))
theorem e_writeEdge (F : Nat → Int32) (p1 : Int32) (p2 : Int32) (p3 : Int32) : f_writeEdge F p1 p2 p3 = (if p1 = 0 then (0 : Int32) else (if (f_fullNow F) = 0 then (1 : Int32) else (2 : Int32))) := Eq.trans rfl rfl
def F_writeEdge (F : Nat → Int32) (p1 : Int32) (p2 : Int32) (p3 : Int32) : Nat → Int32 := (if p1 = 0 then (F_shiftWriteSync F p3) else (if (f_fullNow F) = 0 then (F_acceptWrite (F_shiftWriteSync F p3) p2) else (F_shiftWriteSync F p3)))
theorem eF_writeEdge (F : Nat → Int32) (p1 : Int32) (p2 : Int32) (p3 : Int32) : F_writeEdge F p1 p2 p3 = (if p1 = 0 then (F_shiftWriteSync F p3) else (if (f_fullNow F) = 0 then (F_acceptWrite (F_shiftWriteSync F p3) p2) else (F_shiftWriteSync F p3))) := Eq.trans rfl rfl
def A_writeEdge (F : Nat → Int32) (A : Nat → Int32 → Int32) (p1 : Int32) (p2 : Int32) (p3 : Int32) : Nat → Int32 → Int32 := (if p1 = 0 then A else (if (f_fullNow F) = 0 then (A_acceptWrite (F_shiftWriteSync F p3) A p2) else A))
theorem eA_writeEdge (F : Nat → Int32) (A : Nat → Int32 → Int32) (p1 : Int32) (p2 : Int32) (p3 : Int32) : A_writeEdge F A p1 p2 p3 = (if p1 = 0 then A else (if (f_fullNow F) = 0 then (A_acceptWrite (F_shiftWriteSync F p3) A p2) else A)) := Eq.trans rfl rfl
theorem F_writeEdge_0 (F : Nat → Int32) (p1 : Int32) (p2 : Int32) (p3 : Int32) : F_writeEdge F p1 p2 p3 0 = (F 0) := by
  rw [eF_writeEdge]
  by_cases q1 : p1 = 0
  · try simp only [if_pos q1]
    all_goals first | rfl | exact (F_shiftWriteSync_0 F p3)
  · try simp only [if_neg q1]
    by_cases q2 : (f_fullNow F) = 0
    · try simp only [if_pos q2]
      all_goals first | rfl | exact (Eq.trans (F_acceptWrite_0 (F_shiftWriteSync F p3) p2) (F_shiftWriteSync_0 F p3))
    · try simp only [if_neg q2]
      all_goals first | rfl | exact (F_shiftWriteSync_0 F p3)
theorem F_writeEdge_1 (F : Nat → Int32) (p1 : Int32) (p2 : Int32) (p3 : Int32) : F_writeEdge F p1 p2 p3 1 = (F 1) := by
  rw [eF_writeEdge]
  by_cases q1 : p1 = 0
  · try simp only [if_pos q1]
    all_goals first | rfl | exact (F_shiftWriteSync_1 F p3)
  · try simp only [if_neg q1]
    by_cases q2 : (f_fullNow F) = 0
    · try simp only [if_pos q2]
      all_goals first | rfl | exact (Eq.trans (F_acceptWrite_1 (F_shiftWriteSync F p3) p2) (F_shiftWriteSync_1 F p3))
    · try simp only [if_neg q2]
      all_goals first | rfl | exact (F_shiftWriteSync_1 F p3)
theorem F_writeEdge_2 (F : Nat → Int32) (p1 : Int32) (p2 : Int32) (p3 : Int32) : F_writeEdge F p1 p2 p3 2 = (F 2) := by
  rw [eF_writeEdge]
  by_cases q1 : p1 = 0
  · try simp only [if_pos q1]
    all_goals first | rfl | exact (F_shiftWriteSync_2 F p3)
  · try simp only [if_neg q1]
    by_cases q2 : (f_fullNow F) = 0
    · try simp only [if_pos q2]
      all_goals first | rfl | exact (Eq.trans (F_acceptWrite_2 (F_shiftWriteSync F p3) p2) (F_shiftWriteSync_2 F p3))
    · try simp only [if_neg q2]
      all_goals first | rfl | exact (F_shiftWriteSync_2 F p3)
theorem F_writeEdge_3 (F : Nat → Int32) (p1 : Int32) (p2 : Int32) (p3 : Int32) : F_writeEdge F p1 p2 p3 3 = (F 3) := by
  rw [eF_writeEdge]
  by_cases q1 : p1 = 0
  · try simp only [if_pos q1]
    all_goals first | rfl | exact (F_shiftWriteSync_3 F p3)
  · try simp only [if_neg q1]
    by_cases q2 : (f_fullNow F) = 0
    · try simp only [if_pos q2]
      all_goals first | rfl | exact (Eq.trans (F_acceptWrite_3 (F_shiftWriteSync F p3) p2) (F_shiftWriteSync_3 F p3))
    · try simp only [if_neg q2]
      all_goals first | rfl | exact (F_shiftWriteSync_3 F p3)
theorem F_writeEdge_4 (F : Nat → Int32) (p1 : Int32) (p2 : Int32) (p3 : Int32) : F_writeEdge F p1 p2 p3 4 = (if p1 = 0 then (F 4) else (if (f_fullNow F) = 0 then (f_modPointer (ups (F_shiftWriteSync F p3) 6 ((F_shiftWriteSync F p3) 5)) (((F_shiftWriteSync F p3) 4) + (1 : Int32))) else (F 4))) := by
  rw [eF_writeEdge]
  by_cases q1 : p1 = 0
  · try simp only [if_pos q1]
    all_goals first | rfl | exact (F_shiftWriteSync_4 F p3)
  · try simp only [if_neg q1]
    by_cases q2 : (f_fullNow F) = 0
    · try simp only [if_pos q2]
      all_goals first | rfl | exact (F_acceptWrite_4 (F_shiftWriteSync F p3) p2)
    · try simp only [if_neg q2]
      all_goals first | rfl | exact (F_shiftWriteSync_4 F p3)
theorem F_writeEdge_5 (F : Nat → Int32) (p1 : Int32) (p2 : Int32) (p3 : Int32) : F_writeEdge F p1 p2 p3 5 = (if p1 = 0 then (F 5) else (if (f_fullNow F) = 0 then (f_gray (ups (ups (F_shiftWriteSync F p3) 6 ((F_shiftWriteSync F p3) 5)) 4 (f_modPointer (ups (F_shiftWriteSync F p3) 6 ((F_shiftWriteSync F p3) 5)) (((F_shiftWriteSync F p3) 4) + (1 : Int32)))) (f_modPointer (ups (F_shiftWriteSync F p3) 6 ((F_shiftWriteSync F p3) 5)) (((F_shiftWriteSync F p3) 4) + (1 : Int32)))) else (F 5))) := by
  rw [eF_writeEdge]
  by_cases q1 : p1 = 0
  · try simp only [if_pos q1]
    all_goals first | rfl | exact (F_shiftWriteSync_5 F p3)
  · try simp only [if_neg q1]
    by_cases q2 : (f_fullNow F) = 0
    · try simp only [if_pos q2]
      all_goals first | rfl | exact (F_acceptWrite_5 (F_shiftWriteSync F p3) p2)
    · try simp only [if_neg q2]
      all_goals first | rfl | exact (F_shiftWriteSync_5 F p3)
theorem F_writeEdge_6 (F : Nat → Int32) (p1 : Int32) (p2 : Int32) (p3 : Int32) : F_writeEdge F p1 p2 p3 6 = (if p1 = 0 then (F 6) else (if (f_fullNow F) = 0 then ((F_shiftWriteSync F p3) 5) else (F 6))) := by
  rw [eF_writeEdge]
  by_cases q1 : p1 = 0
  · try simp only [if_pos q1]
    all_goals first | rfl | exact (F_shiftWriteSync_6 F p3)
  · try simp only [if_neg q1]
    by_cases q2 : (f_fullNow F) = 0
    · try simp only [if_pos q2]
      all_goals first | rfl | exact (F_acceptWrite_6 (F_shiftWriteSync F p3) p2)
    · try simp only [if_neg q2]
      all_goals first | rfl | exact (F_shiftWriteSync_6 F p3)
theorem F_writeEdge_7 (F : Nat → Int32) (p1 : Int32) (p2 : Int32) (p3 : Int32) : F_writeEdge F p1 p2 p3 7 = (if p1 = 0 then (F 7) else (if (f_fullNow F) = 0 then (1 : Int32) else (F 7))) := by
  rw [eF_writeEdge]
  by_cases q1 : p1 = 0
  · try simp only [if_pos q1]
    all_goals first | rfl | exact (F_shiftWriteSync_7 F p3)
  · try simp only [if_neg q1]
    by_cases q2 : (f_fullNow F) = 0
    · try simp only [if_pos q2]
      all_goals first | rfl | exact (F_acceptWrite_7 (F_shiftWriteSync F p3) p2)
    · try simp only [if_neg q2]
      all_goals first | rfl | exact (F_shiftWriteSync_7 F p3)
theorem F_writeEdge_8 (F : Nat → Int32) (p1 : Int32) (p2 : Int32) (p3 : Int32) : F_writeEdge F p1 p2 p3 8 = (F 8) := by
  rw [eF_writeEdge]
  by_cases q1 : p1 = 0
  · try simp only [if_pos q1]
    all_goals first | rfl | exact (F_shiftWriteSync_8 F p3)
  · try simp only [if_neg q1]
    by_cases q2 : (f_fullNow F) = 0
    · try simp only [if_pos q2]
      all_goals first | rfl | exact (Eq.trans (F_acceptWrite_8 (F_shiftWriteSync F p3) p2) (F_shiftWriteSync_8 F p3))
    · try simp only [if_neg q2]
      all_goals first | rfl | exact (F_shiftWriteSync_8 F p3)
theorem F_writeEdge_9 (F : Nat → Int32) (p1 : Int32) (p2 : Int32) (p3 : Int32) : F_writeEdge F p1 p2 p3 9 = (F 9) := by
  rw [eF_writeEdge]
  by_cases q1 : p1 = 0
  · try simp only [if_pos q1]
    all_goals first | rfl | exact (F_shiftWriteSync_9 F p3)
  · try simp only [if_neg q1]
    by_cases q2 : (f_fullNow F) = 0
    · try simp only [if_pos q2]
      all_goals first | rfl | exact (Eq.trans (F_acceptWrite_9 (F_shiftWriteSync F p3) p2) (F_shiftWriteSync_9 F p3))
    · try simp only [if_neg q2]
      all_goals first | rfl | exact (F_shiftWriteSync_9 F p3)
theorem F_writeEdge_10 (F : Nat → Int32) (p1 : Int32) (p2 : Int32) (p3 : Int32) : F_writeEdge F p1 p2 p3 10 = (F 10) := by
  rw [eF_writeEdge]
  by_cases q1 : p1 = 0
  · try simp only [if_pos q1]
    all_goals first | rfl | exact (F_shiftWriteSync_10 F p3)
  · try simp only [if_neg q1]
    by_cases q2 : (f_fullNow F) = 0
    · try simp only [if_pos q2]
      all_goals first | rfl | exact (Eq.trans (F_acceptWrite_10 (F_shiftWriteSync F p3) p2) (F_shiftWriteSync_10 F p3))
    · try simp only [if_neg q2]
      all_goals first | rfl | exact (F_shiftWriteSync_10 F p3)
theorem F_writeEdge_11 (F : Nat → Int32) (p1 : Int32) (p2 : Int32) (p3 : Int32) : F_writeEdge F p1 p2 p3 11 = (0 : Int32) := by
  rw [eF_writeEdge]
  by_cases q1 : p1 = 0
  · try simp only [if_pos q1]
    all_goals first | rfl | exact (F_shiftWriteSync_11 F p3)
  · try simp only [if_neg q1]
    by_cases q2 : (f_fullNow F) = 0
    · try simp only [if_pos q2]
      all_goals first | rfl | exact (Eq.trans (F_acceptWrite_11 (F_shiftWriteSync F p3) p2) (F_shiftWriteSync_11 F p3))
    · try simp only [if_neg q2]
      all_goals first | rfl | exact (F_shiftWriteSync_11 F p3)
theorem F_writeEdge_12 (F : Nat → Int32) (p1 : Int32) (p2 : Int32) (p3 : Int32) : F_writeEdge F p1 p2 p3 12 = (f_sample (ups F 13 (F 12)) (F 9) (F 10) (F 11) p3) := by
  rw [eF_writeEdge]
  by_cases q1 : p1 = 0
  · try simp only [if_pos q1]
    all_goals first | rfl | exact (F_shiftWriteSync_12 F p3)
  · try simp only [if_neg q1]
    by_cases q2 : (f_fullNow F) = 0
    · try simp only [if_pos q2]
      all_goals first | rfl | exact (Eq.trans (F_acceptWrite_12 (F_shiftWriteSync F p3) p2) (F_shiftWriteSync_12 F p3))
    · try simp only [if_neg q2]
      all_goals first | rfl | exact (F_shiftWriteSync_12 F p3)
theorem F_writeEdge_13 (F : Nat → Int32) (p1 : Int32) (p2 : Int32) (p3 : Int32) : F_writeEdge F p1 p2 p3 13 = (F 12) := by
  rw [eF_writeEdge]
  by_cases q1 : p1 = 0
  · try simp only [if_pos q1]
    all_goals first | rfl | exact (F_shiftWriteSync_13 F p3)
  · try simp only [if_neg q1]
    by_cases q2 : (f_fullNow F) = 0
    · try simp only [if_pos q2]
      all_goals first | rfl | exact (Eq.trans (F_acceptWrite_13 (F_shiftWriteSync F p3) p2) (F_shiftWriteSync_13 F p3))
    · try simp only [if_neg q2]
      all_goals first | rfl | exact (F_shiftWriteSync_13 F p3)
theorem F_writeEdge_14 (F : Nat → Int32) (p1 : Int32) (p2 : Int32) (p3 : Int32) : F_writeEdge F p1 p2 p3 14 = (F 14) := by
  rw [eF_writeEdge]
  by_cases q1 : p1 = 0
  · try simp only [if_pos q1]
    all_goals first | rfl | exact (F_shiftWriteSync_14 F p3)
  · try simp only [if_neg q1]
    by_cases q2 : (f_fullNow F) = 0
    · try simp only [if_pos q2]
      all_goals first | rfl | exact (Eq.trans (F_acceptWrite_14 (F_shiftWriteSync F p3) p2) (F_shiftWriteSync_14 F p3))
    · try simp only [if_neg q2]
      all_goals first | rfl | exact (F_shiftWriteSync_14 F p3)
theorem F_writeEdge_15 (F : Nat → Int32) (p1 : Int32) (p2 : Int32) (p3 : Int32) : F_writeEdge F p1 p2 p3 15 = (F 15) := by
  rw [eF_writeEdge]
  by_cases q1 : p1 = 0
  · try simp only [if_pos q1]
    all_goals first | rfl | exact (F_shiftWriteSync_15 F p3)
  · try simp only [if_neg q1]
    by_cases q2 : (f_fullNow F) = 0
    · try simp only [if_pos q2]
      all_goals first | rfl | exact (Eq.trans (F_acceptWrite_15 (F_shiftWriteSync F p3) p2) (F_shiftWriteSync_15 F p3))
    · try simp only [if_neg q2]
      all_goals first | rfl | exact (F_shiftWriteSync_15 F p3)
theorem F_writeEdge_16 (F : Nat → Int32) (p1 : Int32) (p2 : Int32) (p3 : Int32) : F_writeEdge F p1 p2 p3 16 = (F 16) := by
  rw [eF_writeEdge]
  by_cases q1 : p1 = 0
  · try simp only [if_pos q1]
    all_goals first | rfl | exact (F_shiftWriteSync_16 F p3)
  · try simp only [if_neg q1]
    by_cases q2 : (f_fullNow F) = 0
    · try simp only [if_pos q2]
      all_goals first | rfl | exact (Eq.trans (F_acceptWrite_16 (F_shiftWriteSync F p3) p2) (F_shiftWriteSync_16 F p3))
    · try simp only [if_neg q2]
      all_goals first | rfl | exact (F_shiftWriteSync_16 F p3)
theorem F_writeEdge_17 (F : Nat → Int32) (p1 : Int32) (p2 : Int32) (p3 : Int32) : F_writeEdge F p1 p2 p3 17 = (if p1 = 0 then (F 17) else (if (f_fullNow F) = 0 then (((F_shiftWriteSync F p3) 17) + (1 : Int32)) else (F 17))) := by
  rw [eF_writeEdge]
  by_cases q1 : p1 = 0
  · try simp only [if_pos q1]
    all_goals first | rfl | exact (F_shiftWriteSync_17 F p3)
  · try simp only [if_neg q1]
    by_cases q2 : (f_fullNow F) = 0
    · try simp only [if_pos q2]
      all_goals first | rfl | exact (F_acceptWrite_17 (F_shiftWriteSync F p3) p2)
    · try simp only [if_neg q2]
      all_goals first | rfl | exact (F_shiftWriteSync_17 F p3)
theorem F_writeEdge_18 (F : Nat → Int32) (p1 : Int32) (p2 : Int32) (p3 : Int32) : F_writeEdge F p1 p2 p3 18 = (F 18) := by
  rw [eF_writeEdge]
  by_cases q1 : p1 = 0
  · try simp only [if_pos q1]
    all_goals first | rfl | exact (F_shiftWriteSync_18 F p3)
  · try simp only [if_neg q1]
    by_cases q2 : (f_fullNow F) = 0
    · try simp only [if_pos q2]
      all_goals first | rfl | exact (Eq.trans (F_acceptWrite_18 (F_shiftWriteSync F p3) p2) (F_shiftWriteSync_18 F p3))
    · try simp only [if_neg q2]
      all_goals first | rfl | exact (F_shiftWriteSync_18 F p3)
theorem run_writeEdge {l : Launch} {Z : State} {a0 : Array Value} (H : OK Z a0) (F : Nat → Int32) (G : Nat → Int64) (A : Nat → Int32 → Int32) (B : Nat → Int32 → Int64) (p1 : Int32) (p2 : Int32) (p3 : Int32) :
    Wk l Z (MoC Z cdC) md_writeEdge 0 [.val (.ref 0), .val (.int p1), .val (.int p2), .val (.int p3), .unset] [] (1, F, G, A, B) 0 0 (fun v w' => v = some (.int (f_writeEdge F p1 p2 p3)) ∧ w' = (1, (F_writeEdge F p1 p2 p3), G, (A_writeEdge F A p1 p2 p3), B)) :=
  wp_writeEdge H F G A B p1 p2 p3 (fun q1 q2 => ⟨by simp only [e_writeEdge, if_neg q1, if_pos q2], by simp only [eF_writeEdge, eA_writeEdge, if_neg q1, if_pos q2]⟩) (fun q1 q2 => ⟨by simp only [e_writeEdge, if_neg q1, if_neg q2], by simp only [eF_writeEdge, eA_writeEdge, if_neg q1, if_neg q2]⟩) (fun q1 => ⟨by simp only [e_writeEdge, if_pos q1], by simp only [eF_writeEdge, eA_writeEdge, if_pos q1]⟩)
set_option maxRecDepth 65536 in
set_option maxHeartbeats 4000000 in
theorem wp_shiftReadSync {l : Launch} {Z : State} {a0 : Array Value} (H : OK Z a0) (F : Nat → Int32) (G : Nat → Int64) (A : Nat → Int32 → Int32) (B : Nat → Int32 → Int64) (p1 : Int32) {Q : Option Value → WO → Prop} (h1 : Q none (1, (ups (ups (ups F 15 (F 14)) 14 (f_sample (ups F 15 (F 14)) (F 5) (F 6) (F 7) p1)) 7 (0 : Int32)), G, A, B)) :
    Wk l Z (MoC Z cdC) md_shiftReadSync 0 [.val (.ref 0), .val (.int p1)] [] (1, F, G, A, B) 0 0 Q := by
  refine Wk.aloadN o_shiftReadSync_0 rfl ?_
  refine Wk.aloadN o_shiftReadSync_1 rfl ?_
  refine Wk.getI (mI_rq1) (wf_rq1 H) o_shiftReadSync_2 (x := (F 14)) rfl ?_
  refine Wk.putI (coC H) (mI_rq2) (wf_rq2 H) (Or.inl (wy_rq2 H)) o_shiftReadSync_5 ?_
  refine Wk.aloadN o_shiftReadSync_8 rfl ?_
  refine Wk.aloadN o_shiftReadSync_9 rfl ?_
  refine Wk.aloadN o_shiftReadSync_10 rfl ?_
  refine Wk.getI (mI_wgray) (wf_wgray H) o_shiftReadSync_11 (x := (F 5)) rfl ?_
  refine Wk.aloadN o_shiftReadSync_14 rfl ?_
  refine Wk.getI (mI_wprev) (wf_wprev H) o_shiftReadSync_15 (x := (F 6)) rfl ?_
  refine Wk.aloadN o_shiftReadSync_18 rfl ?_
  refine Wk.getI (mI_wChanging) (wf_wChanging H) o_shiftReadSync_19 (x := (F 7)) rfl ?_
  refine Wk.iloadN o_shiftReadSync_22 rfl ?_
  refine Wk.callF [.int (F 5), .int (F 6), .int (F 7), .int p1] [.ref 0] (H.w 169 rfl) (cv_sample H) o_shiftReadSync_23 (run_sample H (ups F 15 (F 14)) G A B (F 5) (F 6) (F 7) p1) (wt := 1) (cu' := 0) (su' := 0) (by decide) rfl rfl rfl (al_sample _ _ _ _) rfl rfl rfl ?_
  refine Wk.putI (coC H) (mI_rq1) (wf_rq1 H) (Or.inl (wy_rq1 H)) o_shiftReadSync_26 ?_
  refine Wk.aloadN o_shiftReadSync_29 rfl ?_
  refine Wk.iconst o_shiftReadSync_30 (z := (0 : Int32)) (by decide) ?_
  refine Wk.putZ (coC H) (y := (0 : Int32)) (by decide) (mI_wChanging) (wf_wChanging H) (Or.inl (wy_wChanging H)) o_shiftReadSync_31 ?_
  exact Wk.ret mrC rfl o_shiftReadSync_34 rfl (by decide) (by decide) h1

def F_shiftReadSync (F : Nat → Int32) (p1 : Int32) : Nat → Int32 := (ups (ups (ups F 15 (F 14)) 14 (f_sample (ups F 15 (F 14)) (F 5) (F 6) (F 7) p1)) 7 (0 : Int32))
theorem eF_shiftReadSync (F : Nat → Int32) (p1 : Int32) : F_shiftReadSync F p1 = (ups (ups (ups F 15 (F 14)) 14 (f_sample (ups F 15 (F 14)) (F 5) (F 6) (F 7) p1)) 7 (0 : Int32)) := Eq.trans rfl rfl
theorem F_shiftReadSync_0 (F : Nat → Int32) (p1 : Int32) : F_shiftReadSync F p1 0 = (F 0) := by
  exact Eq.trans rfl rfl
theorem F_shiftReadSync_1 (F : Nat → Int32) (p1 : Int32) : F_shiftReadSync F p1 1 = (F 1) := by
  exact Eq.trans rfl rfl
theorem F_shiftReadSync_2 (F : Nat → Int32) (p1 : Int32) : F_shiftReadSync F p1 2 = (F 2) := by
  exact Eq.trans rfl rfl
theorem F_shiftReadSync_3 (F : Nat → Int32) (p1 : Int32) : F_shiftReadSync F p1 3 = (F 3) := by
  exact Eq.trans rfl rfl
theorem F_shiftReadSync_4 (F : Nat → Int32) (p1 : Int32) : F_shiftReadSync F p1 4 = (F 4) := by
  exact Eq.trans rfl rfl
theorem F_shiftReadSync_5 (F : Nat → Int32) (p1 : Int32) : F_shiftReadSync F p1 5 = (F 5) := by
  exact Eq.trans rfl rfl
theorem F_shiftReadSync_6 (F : Nat → Int32) (p1 : Int32) : F_shiftReadSync F p1 6 = (F 6) := by
  exact Eq.trans rfl rfl
theorem F_shiftReadSync_7 (F : Nat → Int32) (p1 : Int32) : F_shiftReadSync F p1 7 = (0 : Int32) := by
  exact Eq.trans rfl rfl
theorem F_shiftReadSync_8 (F : Nat → Int32) (p1 : Int32) : F_shiftReadSync F p1 8 = (F 8) := by
  exact Eq.trans rfl rfl
theorem F_shiftReadSync_9 (F : Nat → Int32) (p1 : Int32) : F_shiftReadSync F p1 9 = (F 9) := by
  exact Eq.trans rfl rfl
theorem F_shiftReadSync_10 (F : Nat → Int32) (p1 : Int32) : F_shiftReadSync F p1 10 = (F 10) := by
  exact Eq.trans rfl rfl
theorem F_shiftReadSync_11 (F : Nat → Int32) (p1 : Int32) : F_shiftReadSync F p1 11 = (F 11) := by
  exact Eq.trans rfl rfl
theorem F_shiftReadSync_12 (F : Nat → Int32) (p1 : Int32) : F_shiftReadSync F p1 12 = (F 12) := by
  exact Eq.trans rfl rfl
theorem F_shiftReadSync_13 (F : Nat → Int32) (p1 : Int32) : F_shiftReadSync F p1 13 = (F 13) := by
  exact Eq.trans rfl rfl
theorem F_shiftReadSync_14 (F : Nat → Int32) (p1 : Int32) : F_shiftReadSync F p1 14 = (f_sample (ups F 15 (F 14)) (F 5) (F 6) (F 7) p1) := by
  exact Eq.trans rfl rfl
theorem F_shiftReadSync_15 (F : Nat → Int32) (p1 : Int32) : F_shiftReadSync F p1 15 = (F 14) := by
  exact Eq.trans rfl rfl
theorem F_shiftReadSync_16 (F : Nat → Int32) (p1 : Int32) : F_shiftReadSync F p1 16 = (F 16) := by
  exact Eq.trans rfl rfl
theorem F_shiftReadSync_17 (F : Nat → Int32) (p1 : Int32) : F_shiftReadSync F p1 17 = (F 17) := by
  exact Eq.trans rfl rfl
theorem F_shiftReadSync_18 (F : Nat → Int32) (p1 : Int32) : F_shiftReadSync F p1 18 = (F 18) := by
  exact Eq.trans rfl rfl
theorem run_shiftReadSync {l : Launch} {Z : State} {a0 : Array Value} (H : OK Z a0) (F : Nat → Int32) (G : Nat → Int64) (A : Nat → Int32 → Int32) (B : Nat → Int32 → Int64) (p1 : Int32) :
    Wk l Z (MoC Z cdC) md_shiftReadSync 0 [.val (.ref 0), .val (.int p1)] [] (1, F, G, A, B) 0 0 (fun v w' => v = none ∧ w' = (1, (F_shiftReadSync F p1), G, A, B)) :=
  wp_shiftReadSync H F G A B p1 ⟨rfl, rfl⟩
set_option maxRecDepth 65536 in
set_option maxHeartbeats 4000000 in
theorem wp_popRead {l : Launch} {Z : State} {a0 : Array Value} (H : OK Z a0) (F : Nat → Int32) (G : Nat → Int64) (A : Nat → Int32 → Int32) (B : Nat → Int32 → Int64) {Q : Option Value → WO → Prop} (h1 : Q none (1, (ups (ups (ups (ups (ups (ups F 16 (f_readCell F A (F 8))) 10 (F 9)) 8 (f_modPointer (ups (ups F 16 (f_readCell F A (F 8))) 10 (F 9)) ((F 8) + (1 : Int32)))) 9 (f_gray (ups (ups (ups F 16 (f_readCell F A (F 8))) 10 (F 9)) 8 (f_modPointer (ups (ups F 16 (f_readCell F A (F 8))) 10 (F 9)) ((F 8) + (1 : Int32)))) (f_modPointer (ups (ups F 16 (f_readCell F A (F 8))) 10 (F 9)) ((F 8) + (1 : Int32))))) 11 (1 : Int32)) 18 ((F 18) + (1 : Int32))), G, A, B)) :
    Wk l Z (MoC Z cdC) md_popRead 0 [.val (.ref 0)] [] (1, F, G, A, B) 0 0 Q := by
  refine Wk.aloadN o_popRead_0 rfl ?_
  refine Wk.aloadN o_popRead_1 rfl ?_
  refine Wk.aloadN o_popRead_2 rfl ?_
  refine Wk.getI (mI_rbin) (wf_rbin H) o_popRead_3 (x := (F 8)) rfl ?_
  refine Wk.callF [.int (F 8)] [.ref 0] (H.w 189 rfl) (cv_readCell H) o_popRead_6 (run_readCell H F G A B (F 8)) (wt := 1) (cu' := 0) (su' := 0) (by decide) rfl rfl rfl rfl rfl rfl rfl ?_
  refine Wk.putI (coC H) (mI_lastRead) (wf_lastRead H) (Or.inl (wy_lastRead H)) o_popRead_9 ?_
  refine Wk.aloadN o_popRead_12 rfl ?_
  refine Wk.aloadN o_popRead_13 rfl ?_
  refine Wk.getI (mI_rgray) (wf_rgray H) o_popRead_14 (x := (F 9)) rfl ?_
  refine Wk.putI (coC H) (mI_rprev) (wf_rprev H) (Or.inl (wy_rprev H)) o_popRead_17 ?_
  refine Wk.aloadN o_popRead_20 rfl ?_
  refine Wk.aloadN o_popRead_21 rfl ?_
  refine Wk.aloadN o_popRead_22 rfl ?_
  refine Wk.getI (mI_rbin) (wf_rbin H) o_popRead_23 (x := (F 8)) rfl ?_
  refine Wk.iconst o_popRead_26 (z := (1 : Int32)) (by decide) ?_
  refine Wk.iadd o_popRead_27 ?_
  refine Wk.callF [.int ((F 8) + (1 : Int32))] [.ref 0] (H.w 97 rfl) (cv_modPointer H) o_popRead_28 (run_modPointer H (ups (ups F 16 (f_readCell F A (F 8))) 10 (F 9)) G A B ((F 8) + (1 : Int32))) (wt := 1) (cu' := 0) (su' := 0) (by decide) rfl rfl rfl rfl rfl rfl rfl ?_
  refine Wk.putI (coC H) (mI_rbin) (wf_rbin H) (Or.inl (wy_rbin H)) o_popRead_31 ?_
  refine Wk.aloadN o_popRead_34 rfl ?_
  refine Wk.aloadN o_popRead_35 rfl ?_
  refine Wk.aloadN o_popRead_36 rfl ?_
  refine Wk.getI (mI_rbin) (wf_rbin H) o_popRead_37 (x := (f_modPointer (ups (ups F 16 (f_readCell F A (F 8))) 10 (F 9)) ((F 8) + (1 : Int32)))) rfl ?_
  refine Wk.callF [.int (f_modPointer (ups (ups F 16 (f_readCell F A (F 8))) 10 (F 9)) ((F 8) + (1 : Int32)))] [.ref 0] (H.w 185 rfl) (cv_gray H) o_popRead_40 (run_gray H (ups (ups (ups F 16 (f_readCell F A (F 8))) 10 (F 9)) 8 (f_modPointer (ups (ups F 16 (f_readCell F A (F 8))) 10 (F 9)) ((F 8) + (1 : Int32)))) G A B (f_modPointer (ups (ups F 16 (f_readCell F A (F 8))) 10 (F 9)) ((F 8) + (1 : Int32)))) (wt := 1) (cu' := 0) (su' := 0) (by decide) rfl rfl rfl rfl rfl rfl rfl ?_
  refine Wk.putI (coC H) (mI_rgray) (wf_rgray H) (Or.inl (wy_rgray H)) o_popRead_43 ?_
  refine Wk.aloadN o_popRead_46 rfl ?_
  refine Wk.iconst o_popRead_47 (z := (1 : Int32)) (by decide) ?_
  refine Wk.putZ (coC H) (y := (1 : Int32)) (by decide) (mI_rChanging) (wf_rChanging H) (Or.inl (wy_rChanging H)) o_popRead_48 ?_
  refine Wk.aloadN o_popRead_51 rfl ?_
  refine Wk.aloadN o_popRead_52 rfl ?_
  refine Wk.getI (mI_totalR) (wf_totalR H) o_popRead_53 (x := (F 18)) rfl ?_
  refine Wk.iconst o_popRead_56 (z := (1 : Int32)) (by decide) ?_
  refine Wk.iadd o_popRead_57 ?_
  refine Wk.putI (coC H) (mI_totalR) (wf_totalR H) (Or.inl (wy_totalR H)) o_popRead_58 ?_
  exact Wk.ret mrC rfl o_popRead_61 rfl (by decide) (by decide) h1

def F_popRead (F : Nat → Int32) (A : Nat → Int32 → Int32) : Nat → Int32 := (ups (ups (ups (ups (ups (ups F 16 (f_readCell F A (F 8))) 10 (F 9)) 8 (f_modPointer (ups (ups F 16 (f_readCell F A (F 8))) 10 (F 9)) ((F 8) + (1 : Int32)))) 9 (f_gray (ups (ups (ups F 16 (f_readCell F A (F 8))) 10 (F 9)) 8 (f_modPointer (ups (ups F 16 (f_readCell F A (F 8))) 10 (F 9)) ((F 8) + (1 : Int32)))) (f_modPointer (ups (ups F 16 (f_readCell F A (F 8))) 10 (F 9)) ((F 8) + (1 : Int32))))) 11 (1 : Int32)) 18 ((F 18) + (1 : Int32)))
theorem eF_popRead (F : Nat → Int32) (A : Nat → Int32 → Int32) : F_popRead F A = (ups (ups (ups (ups (ups (ups F 16 (f_readCell F A (F 8))) 10 (F 9)) 8 (f_modPointer (ups (ups F 16 (f_readCell F A (F 8))) 10 (F 9)) ((F 8) + (1 : Int32)))) 9 (f_gray (ups (ups (ups F 16 (f_readCell F A (F 8))) 10 (F 9)) 8 (f_modPointer (ups (ups F 16 (f_readCell F A (F 8))) 10 (F 9)) ((F 8) + (1 : Int32)))) (f_modPointer (ups (ups F 16 (f_readCell F A (F 8))) 10 (F 9)) ((F 8) + (1 : Int32))))) 11 (1 : Int32)) 18 ((F 18) + (1 : Int32))) := Eq.trans rfl rfl
theorem F_popRead_0 (F : Nat → Int32) (A : Nat → Int32 → Int32) : F_popRead F A 0 = (F 0) := by
  exact Eq.trans rfl rfl
theorem F_popRead_1 (F : Nat → Int32) (A : Nat → Int32 → Int32) : F_popRead F A 1 = (F 1) := by
  exact Eq.trans rfl rfl
theorem F_popRead_2 (F : Nat → Int32) (A : Nat → Int32 → Int32) : F_popRead F A 2 = (F 2) := by
  exact Eq.trans rfl rfl
theorem F_popRead_3 (F : Nat → Int32) (A : Nat → Int32 → Int32) : F_popRead F A 3 = (F 3) := by
  exact Eq.trans rfl rfl
theorem F_popRead_4 (F : Nat → Int32) (A : Nat → Int32 → Int32) : F_popRead F A 4 = (F 4) := by
  exact Eq.trans rfl rfl
theorem F_popRead_5 (F : Nat → Int32) (A : Nat → Int32 → Int32) : F_popRead F A 5 = (F 5) := by
  exact Eq.trans rfl rfl
theorem F_popRead_6 (F : Nat → Int32) (A : Nat → Int32 → Int32) : F_popRead F A 6 = (F 6) := by
  exact Eq.trans rfl rfl
theorem F_popRead_7 (F : Nat → Int32) (A : Nat → Int32 → Int32) : F_popRead F A 7 = (F 7) := by
  exact Eq.trans rfl rfl
theorem F_popRead_8 (F : Nat → Int32) (A : Nat → Int32 → Int32) : F_popRead F A 8 = (f_modPointer (ups (ups F 16 (f_readCell F A (F 8))) 10 (F 9)) ((F 8) + (1 : Int32))) := by
  exact Eq.trans rfl rfl
theorem F_popRead_9 (F : Nat → Int32) (A : Nat → Int32 → Int32) : F_popRead F A 9 = (f_gray (ups (ups (ups F 16 (f_readCell F A (F 8))) 10 (F 9)) 8 (f_modPointer (ups (ups F 16 (f_readCell F A (F 8))) 10 (F 9)) ((F 8) + (1 : Int32)))) (f_modPointer (ups (ups F 16 (f_readCell F A (F 8))) 10 (F 9)) ((F 8) + (1 : Int32)))) := by
  exact Eq.trans rfl rfl
theorem F_popRead_10 (F : Nat → Int32) (A : Nat → Int32 → Int32) : F_popRead F A 10 = (F 9) := by
  exact Eq.trans rfl rfl
theorem F_popRead_11 (F : Nat → Int32) (A : Nat → Int32 → Int32) : F_popRead F A 11 = (1 : Int32) := by
  exact Eq.trans rfl rfl
theorem F_popRead_12 (F : Nat → Int32) (A : Nat → Int32 → Int32) : F_popRead F A 12 = (F 12) := by
  exact Eq.trans rfl rfl
theorem F_popRead_13 (F : Nat → Int32) (A : Nat → Int32 → Int32) : F_popRead F A 13 = (F 13) := by
  exact Eq.trans rfl rfl
theorem F_popRead_14 (F : Nat → Int32) (A : Nat → Int32 → Int32) : F_popRead F A 14 = (F 14) := by
  exact Eq.trans rfl rfl
theorem F_popRead_15 (F : Nat → Int32) (A : Nat → Int32 → Int32) : F_popRead F A 15 = (F 15) := by
  exact Eq.trans rfl rfl
theorem F_popRead_16 (F : Nat → Int32) (A : Nat → Int32 → Int32) : F_popRead F A 16 = (f_readCell F A (F 8)) := by
  exact Eq.trans rfl rfl
theorem F_popRead_17 (F : Nat → Int32) (A : Nat → Int32 → Int32) : F_popRead F A 17 = (F 17) := by
  exact Eq.trans rfl rfl
theorem F_popRead_18 (F : Nat → Int32) (A : Nat → Int32 → Int32) : F_popRead F A 18 = ((F 18) + (1 : Int32)) := by
  exact Eq.trans rfl rfl
theorem run_popRead {l : Launch} {Z : State} {a0 : Array Value} (H : OK Z a0) (F : Nat → Int32) (G : Nat → Int64) (A : Nat → Int32 → Int32) (B : Nat → Int32 → Int64) :
    Wk l Z (MoC Z cdC) md_popRead 0 [.val (.ref 0)] [] (1, F, G, A, B) 0 0 (fun v w' => v = none ∧ w' = (1, (F_popRead F A), G, A, B)) :=
  wp_popRead H F G A B ⟨rfl, rfl⟩
set_option maxRecDepth 65536 in
set_option maxHeartbeats 4000000 in
theorem wp_readEdge {l : Launch} {Z : State} {a0 : Array Value} (H : OK Z a0) (F : Nat → Int32) (G : Nat → Int64) (A : Nat → Int32 → Int32) (B : Nat → Int32 → Int64) (p1 : Int32) (p2 : Int32) {Q : Option Value → WO → Prop} (h3 : ¬ p1 = 0 → (f_emptyNow F) = 0 → Q (some (.int (3 : Int32))) (1, (F_popRead (F_shiftReadSync F p2) A), G, A, B)) (h4 : ¬ p1 = 0 → ¬ (f_emptyNow F) = 0 → Q (some (.int (4 : Int32))) (1, (F_shiftReadSync F p2), G, A, B)) (h5 : p1 = 0 → Q (some (.int (0 : Int32))) (1, (F_shiftReadSync F p2), G, A, B)) :
    Wk l Z (MoC Z cdC) md_readEdge 0 [.val (.ref 0), .val (.int p1), .val (.int p2), .unset] [] (1, F, G, A, B) 0 0 Q := by
  refine Wk.aloadN o_readEdge_0 rfl ?_
  refine Wk.callF [] [] (H.w 146 rfl) (cv_emptyNow H) o_readEdge_1 (run_emptyNow H F G A B) (wt := 0) (cu' := 0) (su' := 0) (by decide) rfl rfl rfl rfl rfl rfl rfl ?_
  refine Wk.istoreN o_readEdge_4 (Or.inl rfl) (L' := [.val (.ref 0), .val (.int p1), .val (.int p2), .val (.int (f_emptyNow F))]) rfl ?_
  refine Wk.aloadN o_readEdge_5 rfl ?_
  refine Wk.iloadN o_readEdge_6 rfl ?_
  refine Wk.callU [.int p2] [] (H.w 198 rfl) (cv_shiftReadSync H) o_readEdge_7 (run_shiftReadSync H F G A B p2) (wt := 0) (cu' := 0) (su' := 0) (by decide) rfl rfl rfl rfl rfl rfl rfl ?_
  refine Wk.iloadN o_readEdge_10 rfl ?_
  refine Wk.if_ne o_readEdge_11 (fun q1 => ?_) (fun q1 => ?_)
  · refine Wk.iloadN o_readEdge_16 rfl ?_
    refine Wk.if_eq o_readEdge_17 (fun q2 => ?_) (fun q2 => ?_)
    · refine Wk.aloadN o_readEdge_22 rfl ?_
      refine Wk.callU [] [] (H.w 202 rfl) (cv_popRead H) o_readEdge_23 (run_popRead H (F_shiftReadSync F p2) G A B) (wt := 0) (cu' := 0) (su' := 0) (by decide) rfl rfl rfl rfl rfl rfl rfl ?_
      refine Wk.iconst o_readEdge_26 (z := (3 : Int32)) (by decide) ?_
      exact Wk.ireturn mrC rfl o_readEdge_27 rfl (by decide) (by decide) (h3 q1 q2)
    · refine Wk.iconst o_readEdge_20 (z := (4 : Int32)) (by decide) ?_
      exact Wk.ireturn mrC rfl o_readEdge_21 rfl (by decide) (by decide) (h4 q1 q2)
  · refine Wk.iconst o_readEdge_14 (z := (0 : Int32)) (by decide) ?_
    exact Wk.ireturn mrC rfl o_readEdge_15 rfl (by decide) (by decide) (h5 q1)

def f_readEdge (F : Nat → Int32) (p1 : Int32) (p2 : Int32) : Int32 := (if p1 = 0 then (0 : Int32) else (if (f_emptyNow F) = 0 then (3 : Int32) else (4 : Int32)))
theorem e_readEdge (F : Nat → Int32) (p1 : Int32) (p2 : Int32) : f_readEdge F p1 p2 = (if p1 = 0 then (0 : Int32) else (if (f_emptyNow F) = 0 then (3 : Int32) else (4 : Int32))) := Eq.trans rfl rfl
def F_readEdge (F : Nat → Int32) (A : Nat → Int32 → Int32) (p1 : Int32) (p2 : Int32) : Nat → Int32 := (if p1 = 0 then (F_shiftReadSync F p2) else (if (f_emptyNow F) = 0 then (F_popRead (F_shiftReadSync F p2) A) else (F_shiftReadSync F p2)))
theorem eF_readEdge (F : Nat → Int32) (A : Nat → Int32 → Int32) (p1 : Int32) (p2 : Int32) : F_readEdge F A p1 p2 = (if p1 = 0 then (F_shiftReadSync F p2) else (if (f_emptyNow F) = 0 then (F_popRead (F_shiftReadSync F p2) A) else (F_shiftReadSync F p2))) := Eq.trans rfl rfl
theorem F_readEdge_0 (F : Nat → Int32) (A : Nat → Int32 → Int32) (p1 : Int32) (p2 : Int32) : F_readEdge F A p1 p2 0 = (F 0) := by
  rw [eF_readEdge]
  by_cases q1 : p1 = 0
  · try simp only [if_pos q1]
    all_goals first | rfl | exact (F_shiftReadSync_0 F p2)
  · try simp only [if_neg q1]
    by_cases q2 : (f_emptyNow F) = 0
    · try simp only [if_pos q2]
      all_goals first | rfl | exact (Eq.trans (F_popRead_0 (F_shiftReadSync F p2) A) (F_shiftReadSync_0 F p2))
    · try simp only [if_neg q2]
      all_goals first | rfl | exact (F_shiftReadSync_0 F p2)
theorem F_readEdge_1 (F : Nat → Int32) (A : Nat → Int32 → Int32) (p1 : Int32) (p2 : Int32) : F_readEdge F A p1 p2 1 = (F 1) := by
  rw [eF_readEdge]
  by_cases q1 : p1 = 0
  · try simp only [if_pos q1]
    all_goals first | rfl | exact (F_shiftReadSync_1 F p2)
  · try simp only [if_neg q1]
    by_cases q2 : (f_emptyNow F) = 0
    · try simp only [if_pos q2]
      all_goals first | rfl | exact (Eq.trans (F_popRead_1 (F_shiftReadSync F p2) A) (F_shiftReadSync_1 F p2))
    · try simp only [if_neg q2]
      all_goals first | rfl | exact (F_shiftReadSync_1 F p2)
theorem F_readEdge_2 (F : Nat → Int32) (A : Nat → Int32 → Int32) (p1 : Int32) (p2 : Int32) : F_readEdge F A p1 p2 2 = (F 2) := by
  rw [eF_readEdge]
  by_cases q1 : p1 = 0
  · try simp only [if_pos q1]
    all_goals first | rfl | exact (F_shiftReadSync_2 F p2)
  · try simp only [if_neg q1]
    by_cases q2 : (f_emptyNow F) = 0
    · try simp only [if_pos q2]
      all_goals first | rfl | exact (Eq.trans (F_popRead_2 (F_shiftReadSync F p2) A) (F_shiftReadSync_2 F p2))
    · try simp only [if_neg q2]
      all_goals first | rfl | exact (F_shiftReadSync_2 F p2)
theorem F_readEdge_3 (F : Nat → Int32) (A : Nat → Int32 → Int32) (p1 : Int32) (p2 : Int32) : F_readEdge F A p1 p2 3 = (F 3) := by
  rw [eF_readEdge]
  by_cases q1 : p1 = 0
  · try simp only [if_pos q1]
    all_goals first | rfl | exact (F_shiftReadSync_3 F p2)
  · try simp only [if_neg q1]
    by_cases q2 : (f_emptyNow F) = 0
    · try simp only [if_pos q2]
      all_goals first | rfl | exact (Eq.trans (F_popRead_3 (F_shiftReadSync F p2) A) (F_shiftReadSync_3 F p2))
    · try simp only [if_neg q2]
      all_goals first | rfl | exact (F_shiftReadSync_3 F p2)
theorem F_readEdge_4 (F : Nat → Int32) (A : Nat → Int32 → Int32) (p1 : Int32) (p2 : Int32) : F_readEdge F A p1 p2 4 = (F 4) := by
  rw [eF_readEdge]
  by_cases q1 : p1 = 0
  · try simp only [if_pos q1]
    all_goals first | rfl | exact (F_shiftReadSync_4 F p2)
  · try simp only [if_neg q1]
    by_cases q2 : (f_emptyNow F) = 0
    · try simp only [if_pos q2]
      all_goals first | rfl | exact (Eq.trans (F_popRead_4 (F_shiftReadSync F p2) A) (F_shiftReadSync_4 F p2))
    · try simp only [if_neg q2]
      all_goals first | rfl | exact (F_shiftReadSync_4 F p2)
theorem F_readEdge_5 (F : Nat → Int32) (A : Nat → Int32 → Int32) (p1 : Int32) (p2 : Int32) : F_readEdge F A p1 p2 5 = (F 5) := by
  rw [eF_readEdge]
  by_cases q1 : p1 = 0
  · try simp only [if_pos q1]
    all_goals first | rfl | exact (F_shiftReadSync_5 F p2)
  · try simp only [if_neg q1]
    by_cases q2 : (f_emptyNow F) = 0
    · try simp only [if_pos q2]
      all_goals first | rfl | exact (Eq.trans (F_popRead_5 (F_shiftReadSync F p2) A) (F_shiftReadSync_5 F p2))
    · try simp only [if_neg q2]
      all_goals first | rfl | exact (F_shiftReadSync_5 F p2)
theorem F_readEdge_6 (F : Nat → Int32) (A : Nat → Int32 → Int32) (p1 : Int32) (p2 : Int32) : F_readEdge F A p1 p2 6 = (F 6) := by
  rw [eF_readEdge]
  by_cases q1 : p1 = 0
  · try simp only [if_pos q1]
    all_goals first | rfl | exact (F_shiftReadSync_6 F p2)
  · try simp only [if_neg q1]
    by_cases q2 : (f_emptyNow F) = 0
    · try simp only [if_pos q2]
      all_goals first | rfl | exact (Eq.trans (F_popRead_6 (F_shiftReadSync F p2) A) (F_shiftReadSync_6 F p2))
    · try simp only [if_neg q2]
      all_goals first | rfl | exact (F_shiftReadSync_6 F p2)
theorem F_readEdge_7 (F : Nat → Int32) (A : Nat → Int32 → Int32) (p1 : Int32) (p2 : Int32) : F_readEdge F A p1 p2 7 = (0 : Int32) := by
  rw [eF_readEdge]
  by_cases q1 : p1 = 0
  · try simp only [if_pos q1]
    all_goals first | rfl | exact (F_shiftReadSync_7 F p2)
  · try simp only [if_neg q1]
    by_cases q2 : (f_emptyNow F) = 0
    · try simp only [if_pos q2]
      all_goals first | rfl | exact (Eq.trans (F_popRead_7 (F_shiftReadSync F p2) A) (F_shiftReadSync_7 F p2))
    · try simp only [if_neg q2]
      all_goals first | rfl | exact (F_shiftReadSync_7 F p2)
theorem F_readEdge_8 (F : Nat → Int32) (A : Nat → Int32 → Int32) (p1 : Int32) (p2 : Int32) : F_readEdge F A p1 p2 8 = (if p1 = 0 then (F 8) else (if (f_emptyNow F) = 0 then (f_modPointer (ups (ups (F_shiftReadSync F p2) 16 (f_readCell (F_shiftReadSync F p2) A ((F_shiftReadSync F p2) 8))) 10 ((F_shiftReadSync F p2) 9)) (((F_shiftReadSync F p2) 8) + (1 : Int32))) else (F 8))) := by
  rw [eF_readEdge]
  by_cases q1 : p1 = 0
  · try simp only [if_pos q1]
    all_goals first | rfl | exact (F_shiftReadSync_8 F p2)
  · try simp only [if_neg q1]
    by_cases q2 : (f_emptyNow F) = 0
    · try simp only [if_pos q2]
      all_goals first | rfl | exact (F_popRead_8 (F_shiftReadSync F p2) A)
    · try simp only [if_neg q2]
      all_goals first | rfl | exact (F_shiftReadSync_8 F p2)
theorem F_readEdge_9 (F : Nat → Int32) (A : Nat → Int32 → Int32) (p1 : Int32) (p2 : Int32) : F_readEdge F A p1 p2 9 = (if p1 = 0 then (F 9) else (if (f_emptyNow F) = 0 then (f_gray (ups (ups (ups (F_shiftReadSync F p2) 16 (f_readCell (F_shiftReadSync F p2) A ((F_shiftReadSync F p2) 8))) 10 ((F_shiftReadSync F p2) 9)) 8 (f_modPointer (ups (ups (F_shiftReadSync F p2) 16 (f_readCell (F_shiftReadSync F p2) A ((F_shiftReadSync F p2) 8))) 10 ((F_shiftReadSync F p2) 9)) (((F_shiftReadSync F p2) 8) + (1 : Int32)))) (f_modPointer (ups (ups (F_shiftReadSync F p2) 16 (f_readCell (F_shiftReadSync F p2) A ((F_shiftReadSync F p2) 8))) 10 ((F_shiftReadSync F p2) 9)) (((F_shiftReadSync F p2) 8) + (1 : Int32)))) else (F 9))) := by
  rw [eF_readEdge]
  by_cases q1 : p1 = 0
  · try simp only [if_pos q1]
    all_goals first | rfl | exact (F_shiftReadSync_9 F p2)
  · try simp only [if_neg q1]
    by_cases q2 : (f_emptyNow F) = 0
    · try simp only [if_pos q2]
      all_goals first | rfl | exact (F_popRead_9 (F_shiftReadSync F p2) A)
    · try simp only [if_neg q2]
      all_goals first | rfl | exact (F_shiftReadSync_9 F p2)
theorem F_readEdge_10 (F : Nat → Int32) (A : Nat → Int32 → Int32) (p1 : Int32) (p2 : Int32) : F_readEdge F A p1 p2 10 = (if p1 = 0 then (F 10) else (if (f_emptyNow F) = 0 then ((F_shiftReadSync F p2) 9) else (F 10))) := by
  rw [eF_readEdge]
  by_cases q1 : p1 = 0
  · try simp only [if_pos q1]
    all_goals first | rfl | exact (F_shiftReadSync_10 F p2)
  · try simp only [if_neg q1]
    by_cases q2 : (f_emptyNow F) = 0
    · try simp only [if_pos q2]
      all_goals first | rfl | exact (F_popRead_10 (F_shiftReadSync F p2) A)
    · try simp only [if_neg q2]
      all_goals first | rfl | exact (F_shiftReadSync_10 F p2)
theorem F_readEdge_11 (F : Nat → Int32) (A : Nat → Int32 → Int32) (p1 : Int32) (p2 : Int32) : F_readEdge F A p1 p2 11 = (if p1 = 0 then (F 11) else (if (f_emptyNow F) = 0 then (1 : Int32) else (F 11))) := by
  rw [eF_readEdge]
  by_cases q1 : p1 = 0
  · try simp only [if_pos q1]
    all_goals first | rfl | exact (F_shiftReadSync_11 F p2)
  · try simp only [if_neg q1]
    by_cases q2 : (f_emptyNow F) = 0
    · try simp only [if_pos q2]
      all_goals first | rfl | exact (F_popRead_11 (F_shiftReadSync F p2) A)
    · try simp only [if_neg q2]
      all_goals first | rfl | exact (F_shiftReadSync_11 F p2)
theorem F_readEdge_12 (F : Nat → Int32) (A : Nat → Int32 → Int32) (p1 : Int32) (p2 : Int32) : F_readEdge F A p1 p2 12 = (F 12) := by
  rw [eF_readEdge]
  by_cases q1 : p1 = 0
  · try simp only [if_pos q1]
    all_goals first | rfl | exact (F_shiftReadSync_12 F p2)
  · try simp only [if_neg q1]
    by_cases q2 : (f_emptyNow F) = 0
    · try simp only [if_pos q2]
      all_goals first | rfl | exact (Eq.trans (F_popRead_12 (F_shiftReadSync F p2) A) (F_shiftReadSync_12 F p2))
    · try simp only [if_neg q2]
      all_goals first | rfl | exact (F_shiftReadSync_12 F p2)
theorem F_readEdge_13 (F : Nat → Int32) (A : Nat → Int32 → Int32) (p1 : Int32) (p2 : Int32) : F_readEdge F A p1 p2 13 = (F 13) := by
  rw [eF_readEdge]
  by_cases q1 : p1 = 0
  · try simp only [if_pos q1]
    all_goals first | rfl | exact (F_shiftReadSync_13 F p2)
  · try simp only [if_neg q1]
    by_cases q2 : (f_emptyNow F) = 0
    · try simp only [if_pos q2]
      all_goals first | rfl | exact (Eq.trans (F_popRead_13 (F_shiftReadSync F p2) A) (F_shiftReadSync_13 F p2))
    · try simp only [if_neg q2]
      all_goals first | rfl | exact (F_shiftReadSync_13 F p2)
theorem F_readEdge_14 (F : Nat → Int32) (A : Nat → Int32 → Int32) (p1 : Int32) (p2 : Int32) : F_readEdge F A p1 p2 14 = (f_sample (ups F 15 (F 14)) (F 5) (F 6) (F 7) p2) := by
  rw [eF_readEdge]
  by_cases q1 : p1 = 0
  · try simp only [if_pos q1]
    all_goals first | rfl | exact (F_shiftReadSync_14 F p2)
  · try simp only [if_neg q1]
    by_cases q2 : (f_emptyNow F) = 0
    · try simp only [if_pos q2]
      all_goals first | rfl | exact (Eq.trans (F_popRead_14 (F_shiftReadSync F p2) A) (F_shiftReadSync_14 F p2))
    · try simp only [if_neg q2]
      all_goals first | rfl | exact (F_shiftReadSync_14 F p2)
theorem F_readEdge_15 (F : Nat → Int32) (A : Nat → Int32 → Int32) (p1 : Int32) (p2 : Int32) : F_readEdge F A p1 p2 15 = (F 14) := by
  rw [eF_readEdge]
  by_cases q1 : p1 = 0
  · try simp only [if_pos q1]
    all_goals first | rfl | exact (F_shiftReadSync_15 F p2)
  · try simp only [if_neg q1]
    by_cases q2 : (f_emptyNow F) = 0
    · try simp only [if_pos q2]
      all_goals first | rfl | exact (Eq.trans (F_popRead_15 (F_shiftReadSync F p2) A) (F_shiftReadSync_15 F p2))
    · try simp only [if_neg q2]
      all_goals first | rfl | exact (F_shiftReadSync_15 F p2)
theorem F_readEdge_16 (F : Nat → Int32) (A : Nat → Int32 → Int32) (p1 : Int32) (p2 : Int32) : F_readEdge F A p1 p2 16 = (if p1 = 0 then (F 16) else (if (f_emptyNow F) = 0 then (f_readCell (F_shiftReadSync F p2) A ((F_shiftReadSync F p2) 8)) else (F 16))) := by
  rw [eF_readEdge]
  by_cases q1 : p1 = 0
  · try simp only [if_pos q1]
    all_goals first | rfl | exact (F_shiftReadSync_16 F p2)
  · try simp only [if_neg q1]
    by_cases q2 : (f_emptyNow F) = 0
    · try simp only [if_pos q2]
      all_goals first | rfl | exact (F_popRead_16 (F_shiftReadSync F p2) A)
    · try simp only [if_neg q2]
      all_goals first | rfl | exact (F_shiftReadSync_16 F p2)
theorem F_readEdge_17 (F : Nat → Int32) (A : Nat → Int32 → Int32) (p1 : Int32) (p2 : Int32) : F_readEdge F A p1 p2 17 = (F 17) := by
  rw [eF_readEdge]
  by_cases q1 : p1 = 0
  · try simp only [if_pos q1]
    all_goals first | rfl | exact (F_shiftReadSync_17 F p2)
  · try simp only [if_neg q1]
    by_cases q2 : (f_emptyNow F) = 0
    · try simp only [if_pos q2]
      all_goals first | rfl | exact (Eq.trans (F_popRead_17 (F_shiftReadSync F p2) A) (F_shiftReadSync_17 F p2))
    · try simp only [if_neg q2]
      all_goals first | rfl | exact (F_shiftReadSync_17 F p2)
theorem F_readEdge_18 (F : Nat → Int32) (A : Nat → Int32 → Int32) (p1 : Int32) (p2 : Int32) : F_readEdge F A p1 p2 18 = (if p1 = 0 then (F 18) else (if (f_emptyNow F) = 0 then (((F_shiftReadSync F p2) 18) + (1 : Int32)) else (F 18))) := by
  rw [eF_readEdge]
  by_cases q1 : p1 = 0
  · try simp only [if_pos q1]
    all_goals first | rfl | exact (F_shiftReadSync_18 F p2)
  · try simp only [if_neg q1]
    by_cases q2 : (f_emptyNow F) = 0
    · try simp only [if_pos q2]
      all_goals first | rfl | exact (F_popRead_18 (F_shiftReadSync F p2) A)
    · try simp only [if_neg q2]
      all_goals first | rfl | exact (F_shiftReadSync_18 F p2)
theorem run_readEdge {l : Launch} {Z : State} {a0 : Array Value} (H : OK Z a0) (F : Nat → Int32) (G : Nat → Int64) (A : Nat → Int32 → Int32) (B : Nat → Int32 → Int64) (p1 : Int32) (p2 : Int32) :
    Wk l Z (MoC Z cdC) md_readEdge 0 [.val (.ref 0), .val (.int p1), .val (.int p2), .unset] [] (1, F, G, A, B) 0 0 (fun v w' => v = some (.int (f_readEdge F p1 p2)) ∧ w' = (1, (F_readEdge F A p1 p2), G, A, B)) :=
  wp_readEdge H F G A B p1 p2 (fun q1 q2 => ⟨by simp only [e_readEdge, if_neg q1, if_pos q2], by simp only [eF_readEdge, if_neg q1, if_pos q2]⟩) (fun q1 q2 => ⟨by simp only [e_readEdge, if_neg q1, if_neg q2], by simp only [eF_readEdge, if_neg q1, if_neg q2]⟩) (fun q1 => ⟨by simp only [e_readEdge, if_pos q1], by simp only [eF_readEdge, if_pos q1]⟩)
set_option maxRecDepth 65536 in
set_option maxHeartbeats 4000000 in
theorem wp_reset {l : Launch} {Z : State} {a0 : Array Value} (H : OK Z a0) (F : Nat → Int32) (G : Nat → Int64) (A : Nat → Int32 → Int32) (B : Nat → Int32 → Int64) {Q : Option Value → WO → Prop} (h1 : Q none (1, (F_clearAll F), G, (A_clearAll A), B)) :
    Wk l Z (MoC Z cdC) md_reset 0 [.val (.ref 0)] [] (1, F, G, A, B) 0 0 Q := by
  refine Wk.aloadN o_reset_0 rfl ?_
  refine Wk.callU [] [] (H.w 24 rfl) (cv_clearAll H) o_reset_1 (run_clearAll H F G A B) (wt := 0) (cu' := 0) (su' := 0) (by decide) rfl rfl rfl rfl rfl rfl rfl ?_
  exact Wk.ret mrC rfl o_reset_4 rfl (by decide) (by decide) h1

def F_reset (F : Nat → Int32) : Nat → Int32 := (F_clearAll F)
theorem eF_reset (F : Nat → Int32) : F_reset F = (F_clearAll F) := Eq.trans rfl rfl
def A_reset (A : Nat → Int32 → Int32) : Nat → Int32 → Int32 := (A_clearAll A)
theorem eA_reset (A : Nat → Int32 → Int32) : A_reset A = (A_clearAll A) := Eq.trans rfl rfl
theorem F_reset_0 (F : Nat → Int32) : F_reset F 0 = (F 0) := by
  exact Eq.trans rfl (F_clearAll_0 F)
theorem F_reset_1 (F : Nat → Int32) : F_reset F 1 = (F 1) := by
  exact Eq.trans rfl (F_clearAll_1 F)
theorem F_reset_2 (F : Nat → Int32) : F_reset F 2 = (F 2) := by
  exact Eq.trans rfl (F_clearAll_2 F)
theorem F_reset_3 (F : Nat → Int32) : F_reset F 3 = (F 3) := by
  exact Eq.trans rfl (F_clearAll_3 F)
theorem F_reset_4 (F : Nat → Int32) : F_reset F 4 = (0 : Int32) := by
  exact Eq.trans rfl (F_clearAll_4 F)
theorem F_reset_5 (F : Nat → Int32) : F_reset F 5 = (0 : Int32) := by
  exact Eq.trans rfl (F_clearAll_5 F)
theorem F_reset_6 (F : Nat → Int32) : F_reset F 6 = (0 : Int32) := by
  exact Eq.trans rfl (F_clearAll_6 F)
theorem F_reset_7 (F : Nat → Int32) : F_reset F 7 = (0 : Int32) := by
  exact Eq.trans rfl (F_clearAll_7 F)
theorem F_reset_8 (F : Nat → Int32) : F_reset F 8 = (0 : Int32) := by
  exact Eq.trans rfl (F_clearAll_8 F)
theorem F_reset_9 (F : Nat → Int32) : F_reset F 9 = (0 : Int32) := by
  exact Eq.trans rfl (F_clearAll_9 F)
theorem F_reset_10 (F : Nat → Int32) : F_reset F 10 = (0 : Int32) := by
  exact Eq.trans rfl (F_clearAll_10 F)
theorem F_reset_11 (F : Nat → Int32) : F_reset F 11 = (0 : Int32) := by
  exact Eq.trans rfl (F_clearAll_11 F)
theorem F_reset_12 (F : Nat → Int32) : F_reset F 12 = (0 : Int32) := by
  exact Eq.trans rfl (F_clearAll_12 F)
theorem F_reset_13 (F : Nat → Int32) : F_reset F 13 = (0 : Int32) := by
  exact Eq.trans rfl (F_clearAll_13 F)
theorem F_reset_14 (F : Nat → Int32) : F_reset F 14 = (0 : Int32) := by
  exact Eq.trans rfl (F_clearAll_14 F)
theorem F_reset_15 (F : Nat → Int32) : F_reset F 15 = (0 : Int32) := by
  exact Eq.trans rfl (F_clearAll_15 F)
theorem F_reset_16 (F : Nat → Int32) : F_reset F 16 = (0 : Int32) := by
  exact Eq.trans rfl (F_clearAll_16 F)
theorem F_reset_17 (F : Nat → Int32) : F_reset F 17 = (0 : Int32) := by
  exact Eq.trans rfl (F_clearAll_17 F)
theorem F_reset_18 (F : Nat → Int32) : F_reset F 18 = (0 : Int32) := by
  exact Eq.trans rfl (F_clearAll_18 F)
theorem run_reset {l : Launch} {Z : State} {a0 : Array Value} (H : OK Z a0) (F : Nat → Int32) (G : Nat → Int64) (A : Nat → Int32 → Int32) (B : Nat → Int32 → Int64) :
    Wk l Z (MoC Z cdC) md_reset 0 [.val (.ref 0)] [] (1, F, G, A, B) 0 0 (fun v w' => v = none ∧ w' = (1, (F_reset F), G, (A_reset A), B)) :=
  wp_reset H F G A B ⟨rfl, rfl⟩
set_option maxRecDepth 65536 in
set_option maxHeartbeats 4000000 in
theorem wp_L_check {l : Launch} {Z : State} {a0 : Array Value} (H : OK Z a0) (sl : Int32) (sv : Int32 → Int32) (F1 : Nat → Int32) (G1 : Nat → Int64) (A1 : Nat → Int32 → Int32) (B1 : Nat → Int32 → Int64) (p1 : Int32) (p2 : Int32) (p3 : Int32) (p4 : Int32) (p5 : Int32) {Q : Option Value → WL → Prop} (h2 : ¬ (f_getTotal F1 (0 : Int32)) = p1 → Q (some (.int (0 : Int32))) (sl, sv, [(1, F1, G1, A1, B1)])) (h5 : (f_getTotal F1 (0 : Int32)) = p1 → (f_getTotal F1 (1 : Int32)) = p2 → (p1 - p2) < 0 → Q (some (.int (0 : Int32))) (sl, sv, [(1, F1, G1, A1, B1)])) (h7 : (f_getTotal F1 (0 : Int32)) = p1 → (f_getTotal F1 (1 : Int32)) = p2 → ¬ (p1 - p2) < 0 → p4 < (p1 - p2) → Q (some (.int (0 : Int32))) (sl, sv, [(1, F1, G1, A1, B1)])) (h13 : (f_getTotal F1 (0 : Int32)) = p1 → (f_getTotal F1 (1 : Int32)) = p2 → ¬ (p1 - p2) < 0 → ¬ p4 < (p1 - p2) → (f_getCount F1) = (p1 - p2) → (f_getLastRead F1) = p3 → (f_getPointerGray F1 (0 : Int32)) = ((p1 &&& (((2 : Int32) * p4) - (1 : Int32))) ^^^ (XT.ushr (p1 &&& (((2 : Int32) * p4) - (1 : Int32))) (1 : Int32))) → (f_getPointerGray F1 (1 : Int32)) = ((p2 &&& (((2 : Int32) * p4) - (1 : Int32))) ^^^ (XT.ushr (p2 &&& (((2 : Int32) * p4) - (1 : Int32))) (1 : Int32))) → (f_getFill F1 (1 : Int32)) < 0 → Q (some (.int (0 : Int32))) (sl, sv, [(1, F1, G1, A1, B1)])) (h15 : (f_getTotal F1 (0 : Int32)) = p1 → (f_getTotal F1 (1 : Int32)) = p2 → ¬ (p1 - p2) < 0 → ¬ p4 < (p1 - p2) → (f_getCount F1) = (p1 - p2) → (f_getLastRead F1) = p3 → (f_getPointerGray F1 (0 : Int32)) = ((p1 &&& (((2 : Int32) * p4) - (1 : Int32))) ^^^ (XT.ushr (p1 &&& (((2 : Int32) * p4) - (1 : Int32))) (1 : Int32))) → (f_getPointerGray F1 (1 : Int32)) = ((p2 &&& (((2 : Int32) * p4) - (1 : Int32))) ^^^ (XT.ushr (p2 &&& (((2 : Int32) * p4) - (1 : Int32))) (1 : Int32))) → ¬ (f_getFill F1 (1 : Int32)) < 0 → (p1 - p2) < (f_getFill F1 (1 : Int32)) → Q (some (.int (0 : Int32))) (sl, sv, [(1, F1, G1, A1, B1)])) (h17 : (f_getTotal F1 (0 : Int32)) = p1 → (f_getTotal F1 (1 : Int32)) = p2 → ¬ (p1 - p2) < 0 → ¬ p4 < (p1 - p2) → (f_getCount F1) = (p1 - p2) → (f_getLastRead F1) = p3 → (f_getPointerGray F1 (0 : Int32)) = ((p1 &&& (((2 : Int32) * p4) - (1 : Int32))) ^^^ (XT.ushr (p1 &&& (((2 : Int32) * p4) - (1 : Int32))) (1 : Int32))) → (f_getPointerGray F1 (1 : Int32)) = ((p2 &&& (((2 : Int32) * p4) - (1 : Int32))) ^^^ (XT.ushr (p2 &&& (((2 : Int32) * p4) - (1 : Int32))) (1 : Int32))) → ¬ (f_getFill F1 (1 : Int32)) < 0 → ¬ (p1 - p2) < (f_getFill F1 (1 : Int32)) → (f_getFill F1 (0 : Int32)) < (p1 - p2) → Q (some (.int (0 : Int32))) (sl, sv, [(1, F1, G1, A1, B1)])) (h22 : (f_getTotal F1 (0 : Int32)) = p1 → (f_getTotal F1 (1 : Int32)) = p2 → ¬ (p1 - p2) < 0 → ¬ p4 < (p1 - p2) → (f_getCount F1) = (p1 - p2) → (f_getLastRead F1) = p3 → (f_getPointerGray F1 (0 : Int32)) = ((p1 &&& (((2 : Int32) * p4) - (1 : Int32))) ^^^ (XT.ushr (p1 &&& (((2 : Int32) * p4) - (1 : Int32))) (1 : Int32))) → (f_getPointerGray F1 (1 : Int32)) = ((p2 &&& (((2 : Int32) * p4) - (1 : Int32))) ^^^ (XT.ushr (p2 &&& (((2 : Int32) * p4) - (1 : Int32))) (1 : Int32))) → ¬ (f_getFill F1 (1 : Int32)) < 0 → ¬ (p1 - p2) < (f_getFill F1 (1 : Int32)) → ¬ (f_getFill F1 (0 : Int32)) < (p1 - p2) → ¬ p4 < (f_getFill F1 (0 : Int32)) → ¬ (f_isFull F1) = (if (f_getFill F1 (0 : Int32)) = p4 then (1 : Int32) else (0 : Int32)) → Q (some (.int (0 : Int32))) (sl, sv, [(1, F1, G1, A1, B1)])) (h26 : (f_getTotal F1 (0 : Int32)) = p1 → (f_getTotal F1 (1 : Int32)) = p2 → ¬ (p1 - p2) < 0 → ¬ p4 < (p1 - p2) → (f_getCount F1) = (p1 - p2) → (f_getLastRead F1) = p3 → (f_getPointerGray F1 (0 : Int32)) = ((p1 &&& (((2 : Int32) * p4) - (1 : Int32))) ^^^ (XT.ushr (p1 &&& (((2 : Int32) * p4) - (1 : Int32))) (1 : Int32))) → (f_getPointerGray F1 (1 : Int32)) = ((p2 &&& (((2 : Int32) * p4) - (1 : Int32))) ^^^ (XT.ushr (p2 &&& (((2 : Int32) * p4) - (1 : Int32))) (1 : Int32))) → ¬ (f_getFill F1 (1 : Int32)) < 0 → ¬ (p1 - p2) < (f_getFill F1 (1 : Int32)) → ¬ (f_getFill F1 (0 : Int32)) < (p1 - p2) → ¬ p4 < (f_getFill F1 (0 : Int32)) → (f_isFull F1) = (if (f_getFill F1 (0 : Int32)) = p4 then (1 : Int32) else (0 : Int32)) → ¬ (f_isEmpty F1) = (if (f_getFill F1 (1 : Int32)) = 0 then (1 : Int32) else (0 : Int32)) → Q (some (.int (0 : Int32))) (sl, sv, [(1, F1, G1, A1, B1)])) (h32 : (f_getTotal F1 (0 : Int32)) = p1 → (f_getTotal F1 (1 : Int32)) = p2 → ¬ (p1 - p2) < 0 → ¬ p4 < (p1 - p2) → (f_getCount F1) = (p1 - p2) → (f_getLastRead F1) = p3 → (f_getPointerGray F1 (0 : Int32)) = ((p1 &&& (((2 : Int32) * p4) - (1 : Int32))) ^^^ (XT.ushr (p1 &&& (((2 : Int32) * p4) - (1 : Int32))) (1 : Int32))) → (f_getPointerGray F1 (1 : Int32)) = ((p2 &&& (((2 : Int32) * p4) - (1 : Int32))) ^^^ (XT.ushr (p2 &&& (((2 : Int32) * p4) - (1 : Int32))) (1 : Int32))) → ¬ (f_getFill F1 (1 : Int32)) < 0 → ¬ (p1 - p2) < (f_getFill F1 (1 : Int32)) → ¬ (f_getFill F1 (0 : Int32)) < (p1 - p2) → ¬ p4 < (f_getFill F1 (0 : Int32)) → (f_isFull F1) = (if (f_getFill F1 (0 : Int32)) = p4 then (1 : Int32) else (0 : Int32)) → (f_isEmpty F1) = (if (f_getFill F1 (1 : Int32)) = 0 then (1 : Int32) else (0 : Int32)) → (f_isAlmostFull F1) = (if (f_getFill F1 (0 : Int32)) < p5 then (0 : Int32) else (1 : Int32)) → ¬ 0 < (p1 - p2) → ¬ (f_getUnread F1 A1 (p1 - p2)) = 0 → Q (some (.int (0 : Int32))) (sl, sv, [(1, F1, G1, A1, B1)])) (h34 : (f_getTotal F1 (0 : Int32)) = p1 → (f_getTotal F1 (1 : Int32)) = p2 → ¬ (p1 - p2) < 0 → ¬ p4 < (p1 - p2) → (f_getCount F1) = (p1 - p2) → (f_getLastRead F1) = p3 → (f_getPointerGray F1 (0 : Int32)) = ((p1 &&& (((2 : Int32) * p4) - (1 : Int32))) ^^^ (XT.ushr (p1 &&& (((2 : Int32) * p4) - (1 : Int32))) (1 : Int32))) → (f_getPointerGray F1 (1 : Int32)) = ((p2 &&& (((2 : Int32) * p4) - (1 : Int32))) ^^^ (XT.ushr (p2 &&& (((2 : Int32) * p4) - (1 : Int32))) (1 : Int32))) → ¬ (f_getFill F1 (1 : Int32)) < 0 → ¬ (p1 - p2) < (f_getFill F1 (1 : Int32)) → ¬ (f_getFill F1 (0 : Int32)) < (p1 - p2) → ¬ p4 < (f_getFill F1 (0 : Int32)) → (f_isFull F1) = (if (f_getFill F1 (0 : Int32)) = p4 then (1 : Int32) else (0 : Int32)) → (f_isEmpty F1) = (if (f_getFill F1 (1 : Int32)) = 0 then (1 : Int32) else (0 : Int32)) → (f_isAlmostFull F1) = (if (f_getFill F1 (0 : Int32)) < p5 then (0 : Int32) else (1 : Int32)) → ¬ 0 < (p1 - p2) → (f_getUnread F1 A1 (p1 - p2)) = 0 → (f_getUnread F1 A1 (-1 : Int32)) = 0 → Q (some (.int (1 : Int32))) (sl, sv, [(1, F1, G1, A1, B1)])) (h35 : (f_getTotal F1 (0 : Int32)) = p1 → (f_getTotal F1 (1 : Int32)) = p2 → ¬ (p1 - p2) < 0 → ¬ p4 < (p1 - p2) → (f_getCount F1) = (p1 - p2) → (f_getLastRead F1) = p3 → (f_getPointerGray F1 (0 : Int32)) = ((p1 &&& (((2 : Int32) * p4) - (1 : Int32))) ^^^ (XT.ushr (p1 &&& (((2 : Int32) * p4) - (1 : Int32))) (1 : Int32))) → (f_getPointerGray F1 (1 : Int32)) = ((p2 &&& (((2 : Int32) * p4) - (1 : Int32))) ^^^ (XT.ushr (p2 &&& (((2 : Int32) * p4) - (1 : Int32))) (1 : Int32))) → ¬ (f_getFill F1 (1 : Int32)) < 0 → ¬ (p1 - p2) < (f_getFill F1 (1 : Int32)) → ¬ (f_getFill F1 (0 : Int32)) < (p1 - p2) → ¬ p4 < (f_getFill F1 (0 : Int32)) → (f_isFull F1) = (if (f_getFill F1 (0 : Int32)) = p4 then (1 : Int32) else (0 : Int32)) → (f_isEmpty F1) = (if (f_getFill F1 (1 : Int32)) = 0 then (1 : Int32) else (0 : Int32)) → (f_isAlmostFull F1) = (if (f_getFill F1 (0 : Int32)) < p5 then (0 : Int32) else (1 : Int32)) → ¬ 0 < (p1 - p2) → (f_getUnread F1 A1 (p1 - p2)) = 0 → ¬ (f_getUnread F1 A1 (-1 : Int32)) = 0 → Q (some (.int (0 : Int32))) (sl, sv, [(1, F1, G1, A1, B1)])) (h37 : (f_getTotal F1 (0 : Int32)) = p1 → (f_getTotal F1 (1 : Int32)) = p2 → ¬ (p1 - p2) < 0 → ¬ p4 < (p1 - p2) → (f_getCount F1) = (p1 - p2) → (f_getLastRead F1) = p3 → (f_getPointerGray F1 (0 : Int32)) = ((p1 &&& (((2 : Int32) * p4) - (1 : Int32))) ^^^ (XT.ushr (p1 &&& (((2 : Int32) * p4) - (1 : Int32))) (1 : Int32))) → (f_getPointerGray F1 (1 : Int32)) = ((p2 &&& (((2 : Int32) * p4) - (1 : Int32))) ^^^ (XT.ushr (p2 &&& (((2 : Int32) * p4) - (1 : Int32))) (1 : Int32))) → ¬ (f_getFill F1 (1 : Int32)) < 0 → ¬ (p1 - p2) < (f_getFill F1 (1 : Int32)) → ¬ (f_getFill F1 (0 : Int32)) < (p1 - p2) → ¬ p4 < (f_getFill F1 (0 : Int32)) → (f_isFull F1) = (if (f_getFill F1 (0 : Int32)) = p4 then (1 : Int32) else (0 : Int32)) → (f_isEmpty F1) = (if (f_getFill F1 (1 : Int32)) = 0 then (1 : Int32) else (0 : Int32)) → (f_isAlmostFull F1) = (if (f_getFill F1 (0 : Int32)) < p5 then (0 : Int32) else (1 : Int32)) → 0 < (p1 - p2) → ¬ (f_getUnread F1 A1 (0 : Int32)) = ((p2 * (7 : Int32)) + (3 : Int32)) → Q (some (.int (0 : Int32))) (sl, sv, [(1, F1, G1, A1, B1)])) (h40 : (f_getTotal F1 (0 : Int32)) = p1 → (f_getTotal F1 (1 : Int32)) = p2 → ¬ (p1 - p2) < 0 → ¬ p4 < (p1 - p2) → (f_getCount F1) = (p1 - p2) → (f_getLastRead F1) = p3 → (f_getPointerGray F1 (0 : Int32)) = ((p1 &&& (((2 : Int32) * p4) - (1 : Int32))) ^^^ (XT.ushr (p1 &&& (((2 : Int32) * p4) - (1 : Int32))) (1 : Int32))) → (f_getPointerGray F1 (1 : Int32)) = ((p2 &&& (((2 : Int32) * p4) - (1 : Int32))) ^^^ (XT.ushr (p2 &&& (((2 : Int32) * p4) - (1 : Int32))) (1 : Int32))) → ¬ (f_getFill F1 (1 : Int32)) < 0 → ¬ (p1 - p2) < (f_getFill F1 (1 : Int32)) → ¬ (f_getFill F1 (0 : Int32)) < (p1 - p2) → ¬ p4 < (f_getFill F1 (0 : Int32)) → (f_isFull F1) = (if (f_getFill F1 (0 : Int32)) = p4 then (1 : Int32) else (0 : Int32)) → (f_isEmpty F1) = (if (f_getFill F1 (1 : Int32)) = 0 then (1 : Int32) else (0 : Int32)) → (f_isAlmostFull F1) = (if (f_getFill F1 (0 : Int32)) < p5 then (0 : Int32) else (1 : Int32)) → 0 < (p1 - p2) → (f_getUnread F1 A1 (0 : Int32)) = ((p2 * (7 : Int32)) + (3 : Int32)) → (f_getUnread F1 A1 ((p1 - p2) - (1 : Int32))) = (((p1 - (1 : Int32)) * (7 : Int32)) + (3 : Int32)) → ¬ (f_getUnread F1 A1 (p1 - p2)) = 0 → Q (some (.int (0 : Int32))) (sl, sv, [(1, F1, G1, A1, B1)])) (h42 : (f_getTotal F1 (0 : Int32)) = p1 → (f_getTotal F1 (1 : Int32)) = p2 → ¬ (p1 - p2) < 0 → ¬ p4 < (p1 - p2) → (f_getCount F1) = (p1 - p2) → (f_getLastRead F1) = p3 → (f_getPointerGray F1 (0 : Int32)) = ((p1 &&& (((2 : Int32) * p4) - (1 : Int32))) ^^^ (XT.ushr (p1 &&& (((2 : Int32) * p4) - (1 : Int32))) (1 : Int32))) → (f_getPointerGray F1 (1 : Int32)) = ((p2 &&& (((2 : Int32) * p4) - (1 : Int32))) ^^^ (XT.ushr (p2 &&& (((2 : Int32) * p4) - (1 : Int32))) (1 : Int32))) → ¬ (f_getFill F1 (1 : Int32)) < 0 → ¬ (p1 - p2) < (f_getFill F1 (1 : Int32)) → ¬ (f_getFill F1 (0 : Int32)) < (p1 - p2) → ¬ p4 < (f_getFill F1 (0 : Int32)) → (f_isFull F1) = (if (f_getFill F1 (0 : Int32)) = p4 then (1 : Int32) else (0 : Int32)) → (f_isEmpty F1) = (if (f_getFill F1 (1 : Int32)) = 0 then (1 : Int32) else (0 : Int32)) → (f_isAlmostFull F1) = (if (f_getFill F1 (0 : Int32)) < p5 then (0 : Int32) else (1 : Int32)) → 0 < (p1 - p2) → (f_getUnread F1 A1 (0 : Int32)) = ((p2 * (7 : Int32)) + (3 : Int32)) → (f_getUnread F1 A1 ((p1 - p2) - (1 : Int32))) = (((p1 - (1 : Int32)) * (7 : Int32)) + (3 : Int32)) → (f_getUnread F1 A1 (p1 - p2)) = 0 → (f_getUnread F1 A1 (-1 : Int32)) = 0 → Q (some (.int (1 : Int32))) (sl, sv, [(1, F1, G1, A1, B1)])) (h43 : (f_getTotal F1 (0 : Int32)) = p1 → (f_getTotal F1 (1 : Int32)) = p2 → ¬ (p1 - p2) < 0 → ¬ p4 < (p1 - p2) → (f_getCount F1) = (p1 - p2) → (f_getLastRead F1) = p3 → (f_getPointerGray F1 (0 : Int32)) = ((p1 &&& (((2 : Int32) * p4) - (1 : Int32))) ^^^ (XT.ushr (p1 &&& (((2 : Int32) * p4) - (1 : Int32))) (1 : Int32))) → (f_getPointerGray F1 (1 : Int32)) = ((p2 &&& (((2 : Int32) * p4) - (1 : Int32))) ^^^ (XT.ushr (p2 &&& (((2 : Int32) * p4) - (1 : Int32))) (1 : Int32))) → ¬ (f_getFill F1 (1 : Int32)) < 0 → ¬ (p1 - p2) < (f_getFill F1 (1 : Int32)) → ¬ (f_getFill F1 (0 : Int32)) < (p1 - p2) → ¬ p4 < (f_getFill F1 (0 : Int32)) → (f_isFull F1) = (if (f_getFill F1 (0 : Int32)) = p4 then (1 : Int32) else (0 : Int32)) → (f_isEmpty F1) = (if (f_getFill F1 (1 : Int32)) = 0 then (1 : Int32) else (0 : Int32)) → (f_isAlmostFull F1) = (if (f_getFill F1 (0 : Int32)) < p5 then (0 : Int32) else (1 : Int32)) → 0 < (p1 - p2) → (f_getUnread F1 A1 (0 : Int32)) = ((p2 * (7 : Int32)) + (3 : Int32)) → (f_getUnread F1 A1 ((p1 - p2) - (1 : Int32))) = (((p1 - (1 : Int32)) * (7 : Int32)) + (3 : Int32)) → (f_getUnread F1 A1 (p1 - p2)) = 0 → ¬ (f_getUnread F1 A1 (-1 : Int32)) = 0 → Q (some (.int (0 : Int32))) (sl, sv, [(1, F1, G1, A1, B1)])) (h44 : (f_getTotal F1 (0 : Int32)) = p1 → (f_getTotal F1 (1 : Int32)) = p2 → ¬ (p1 - p2) < 0 → ¬ p4 < (p1 - p2) → (f_getCount F1) = (p1 - p2) → (f_getLastRead F1) = p3 → (f_getPointerGray F1 (0 : Int32)) = ((p1 &&& (((2 : Int32) * p4) - (1 : Int32))) ^^^ (XT.ushr (p1 &&& (((2 : Int32) * p4) - (1 : Int32))) (1 : Int32))) → (f_getPointerGray F1 (1 : Int32)) = ((p2 &&& (((2 : Int32) * p4) - (1 : Int32))) ^^^ (XT.ushr (p2 &&& (((2 : Int32) * p4) - (1 : Int32))) (1 : Int32))) → ¬ (f_getFill F1 (1 : Int32)) < 0 → ¬ (p1 - p2) < (f_getFill F1 (1 : Int32)) → ¬ (f_getFill F1 (0 : Int32)) < (p1 - p2) → ¬ p4 < (f_getFill F1 (0 : Int32)) → (f_isFull F1) = (if (f_getFill F1 (0 : Int32)) = p4 then (1 : Int32) else (0 : Int32)) → (f_isEmpty F1) = (if (f_getFill F1 (1 : Int32)) = 0 then (1 : Int32) else (0 : Int32)) → (f_isAlmostFull F1) = (if (f_getFill F1 (0 : Int32)) < p5 then (0 : Int32) else (1 : Int32)) → 0 < (p1 - p2) → (f_getUnread F1 A1 (0 : Int32)) = ((p2 * (7 : Int32)) + (3 : Int32)) → ¬ (f_getUnread F1 A1 ((p1 - p2) - (1 : Int32))) = (((p1 - (1 : Int32)) * (7 : Int32)) + (3 : Int32)) → Q (some (.int (0 : Int32))) (sl, sv, [(1, F1, G1, A1, B1)])) (h45 : (f_getTotal F1 (0 : Int32)) = p1 → (f_getTotal F1 (1 : Int32)) = p2 → ¬ (p1 - p2) < 0 → ¬ p4 < (p1 - p2) → (f_getCount F1) = (p1 - p2) → (f_getLastRead F1) = p3 → (f_getPointerGray F1 (0 : Int32)) = ((p1 &&& (((2 : Int32) * p4) - (1 : Int32))) ^^^ (XT.ushr (p1 &&& (((2 : Int32) * p4) - (1 : Int32))) (1 : Int32))) → (f_getPointerGray F1 (1 : Int32)) = ((p2 &&& (((2 : Int32) * p4) - (1 : Int32))) ^^^ (XT.ushr (p2 &&& (((2 : Int32) * p4) - (1 : Int32))) (1 : Int32))) → ¬ (f_getFill F1 (1 : Int32)) < 0 → ¬ (p1 - p2) < (f_getFill F1 (1 : Int32)) → ¬ (f_getFill F1 (0 : Int32)) < (p1 - p2) → ¬ p4 < (f_getFill F1 (0 : Int32)) → (f_isFull F1) = (if (f_getFill F1 (0 : Int32)) = p4 then (1 : Int32) else (0 : Int32)) → (f_isEmpty F1) = (if (f_getFill F1 (1 : Int32)) = 0 then (1 : Int32) else (0 : Int32)) → ¬ (f_isAlmostFull F1) = (if (f_getFill F1 (0 : Int32)) < p5 then (0 : Int32) else (1 : Int32)) → Q (some (.int (0 : Int32))) (sl, sv, [(1, F1, G1, A1, B1)])) (h46 : (f_getTotal F1 (0 : Int32)) = p1 → (f_getTotal F1 (1 : Int32)) = p2 → ¬ (p1 - p2) < 0 → ¬ p4 < (p1 - p2) → (f_getCount F1) = (p1 - p2) → (f_getLastRead F1) = p3 → (f_getPointerGray F1 (0 : Int32)) = ((p1 &&& (((2 : Int32) * p4) - (1 : Int32))) ^^^ (XT.ushr (p1 &&& (((2 : Int32) * p4) - (1 : Int32))) (1 : Int32))) → (f_getPointerGray F1 (1 : Int32)) = ((p2 &&& (((2 : Int32) * p4) - (1 : Int32))) ^^^ (XT.ushr (p2 &&& (((2 : Int32) * p4) - (1 : Int32))) (1 : Int32))) → ¬ (f_getFill F1 (1 : Int32)) < 0 → ¬ (p1 - p2) < (f_getFill F1 (1 : Int32)) → ¬ (f_getFill F1 (0 : Int32)) < (p1 - p2) → p4 < (f_getFill F1 (0 : Int32)) → Q (some (.int (0 : Int32))) (sl, sv, [(1, F1, G1, A1, B1)])) (h47 : (f_getTotal F1 (0 : Int32)) = p1 → (f_getTotal F1 (1 : Int32)) = p2 → ¬ (p1 - p2) < 0 → ¬ p4 < (p1 - p2) → (f_getCount F1) = (p1 - p2) → (f_getLastRead F1) = p3 → (f_getPointerGray F1 (0 : Int32)) = ((p1 &&& (((2 : Int32) * p4) - (1 : Int32))) ^^^ (XT.ushr (p1 &&& (((2 : Int32) * p4) - (1 : Int32))) (1 : Int32))) → ¬ (f_getPointerGray F1 (1 : Int32)) = ((p2 &&& (((2 : Int32) * p4) - (1 : Int32))) ^^^ (XT.ushr (p2 &&& (((2 : Int32) * p4) - (1 : Int32))) (1 : Int32))) → Q (some (.int (0 : Int32))) (sl, sv, [(1, F1, G1, A1, B1)])) (h48 : (f_getTotal F1 (0 : Int32)) = p1 → (f_getTotal F1 (1 : Int32)) = p2 → ¬ (p1 - p2) < 0 → ¬ p4 < (p1 - p2) → (f_getCount F1) = (p1 - p2) → (f_getLastRead F1) = p3 → ¬ (f_getPointerGray F1 (0 : Int32)) = ((p1 &&& (((2 : Int32) * p4) - (1 : Int32))) ^^^ (XT.ushr (p1 &&& (((2 : Int32) * p4) - (1 : Int32))) (1 : Int32))) → Q (some (.int (0 : Int32))) (sl, sv, [(1, F1, G1, A1, B1)])) (h49 : (f_getTotal F1 (0 : Int32)) = p1 → (f_getTotal F1 (1 : Int32)) = p2 → ¬ (p1 - p2) < 0 → ¬ p4 < (p1 - p2) → (f_getCount F1) = (p1 - p2) → ¬ (f_getLastRead F1) = p3 → Q (some (.int (0 : Int32))) (sl, sv, [(1, F1, G1, A1, B1)])) (h50 : (f_getTotal F1 (0 : Int32)) = p1 → (f_getTotal F1 (1 : Int32)) = p2 → ¬ (p1 - p2) < 0 → ¬ p4 < (p1 - p2) → ¬ (f_getCount F1) = (p1 - p2) → Q (some (.int (0 : Int32))) (sl, sv, [(1, F1, G1, A1, B1)])) (h51 : (f_getTotal F1 (0 : Int32)) = p1 → ¬ (f_getTotal F1 (1 : Int32)) = p2 → Q (some (.int (0 : Int32))) (sl, sv, [(1, F1, G1, A1, B1)])) :
    Wk l Z (MoL Z cdC "CdcFifoL6" true) md_L_check 0 [.val (.ref 1), .val (.int p1), .val (.int p2), .val (.int p3), .val (.int p4), .val (.int p5), .unset, .unset, .unset, .unset, .unset, .unset] [] (sl, sv, [(1, F1, G1, A1, B1)]) 0 0 Q := by
  refine Wk.iconst o_L_check_0 (z := (2 : Int32)) (by decide) ?_
  refine Wk.iload o_L_check_1 rfl ?_
  refine Wk.imul o_L_check_3 ?_
  refine Wk.istore o_L_check_4 (Or.inl rfl) (L' := [.val (.ref 1), .val (.int p1), .val (.int p2), .val (.int p3), .val (.int p4), .val (.int p5), .val (.int ((2 : Int32) * p4)), .unset, .unset, .unset, .unset, .unset]) rfl ?_
  refine Wk.iloadN o_L_check_6 rfl ?_
  refine Wk.iloadN o_L_check_7 rfl ?_
  refine Wk.isub o_L_check_8 ?_
  refine Wk.istore o_L_check_9 (Or.inl rfl) (L' := [.val (.ref 1), .val (.int p1), .val (.int p2), .val (.int p3), .val (.int p4), .val (.int p5), .val (.int ((2 : Int32) * p4)), .val (.int (p1 - p2)), .unset, .unset, .unset, .unset]) rfl ?_
  refine Wk.aloadN o_L_check_11 rfl ?_
  refine Wk.iconst o_L_check_12 (z := (0 : Int32)) (by decide) ?_
  refine Wk.callLF (coC H) [.int (0 : Int32)] 0 [] (i' := 1) (H.w 83 rfl) (cv_getTotal H) o_L_check_13 (run_getTotal H F1 G1 A1 B1 (0 : Int32)) (wt := 0) (cu' := 0) (su' := 0) (by decide) trivial rfl rfl rfl rfl rfl rfl rfl rfl rfl rfl (ws' := [(1, F1, G1, A1, B1)]) rfl ?_
  refine Wk.iloadN o_L_check_16 rfl ?_
  refine Wk.icmp_ne o_L_check_17 (fun q1 => ?_) (fun q1 => ?_)
  · refine Wk.iconst o_L_check_29 (z := (0 : Int32)) (by decide) ?_
    exact Wk.zreturn mrL rfl o_L_check_30 rfl (by decide) (by decide) (y := (0 : Int32)) (by decide) (h2 q1)
  · refine Wk.aloadN o_L_check_20 rfl ?_
    refine Wk.iconst o_L_check_21 (z := (1 : Int32)) (by decide) ?_
    refine Wk.callLF (coC H) [.int (1 : Int32)] 0 [] (i' := 1) (H.w 83 rfl) (cv_getTotal H) o_L_check_22 (run_getTotal H F1 G1 A1 B1 (1 : Int32)) (wt := 0) (cu' := 0) (su' := 0) (by decide) trivial rfl rfl rfl rfl rfl rfl rfl rfl rfl rfl (ws' := [(1, F1, G1, A1, B1)]) rfl ?_
    refine Wk.iloadN o_L_check_25 rfl ?_
    refine Wk.icmp_eq o_L_check_26 (fun q3 => ?_) (fun q3 => ?_)
    · refine Wk.iload o_L_check_31 rfl ?_
      refine Wk.if_lt o_L_check_33 (fun q4 => ?_) (fun q4 => ?_)
      · refine Wk.iconst o_L_check_52 (z := (0 : Int32)) (by decide) ?_
        exact Wk.zreturn mrL rfl o_L_check_53 rfl (by decide) (by decide) (y := (0 : Int32)) (by decide) (h5 q1 q3 q4)
      · refine Wk.iload o_L_check_36 rfl ?_
        refine Wk.iload o_L_check_38 rfl ?_
        refine Wk.icmp_gt o_L_check_40 (fun q6 => ?_) (fun q6 => ?_)
        · refine Wk.iconst o_L_check_52 (z := (0 : Int32)) (by decide) ?_
          exact Wk.zreturn mrL rfl o_L_check_53 rfl (by decide) (by decide) (y := (0 : Int32)) (by decide) (h7 q1 q3 q4 q6)
        · refine Wk.aloadN o_L_check_43 rfl ?_
          refine Wk.callLF (coC H) [] 0 [] (i' := 1) (H.w 88 rfl) (cv_getCount H) o_L_check_44 (run_getCount H F1 G1 A1 B1) (wt := 0) (cu' := 0) (su' := 0) (by decide) trivial rfl rfl rfl rfl rfl rfl rfl rfl rfl rfl (ws' := [(1, F1, G1, A1, B1)]) rfl ?_
          refine Wk.iload o_L_check_47 rfl ?_
          refine Wk.icmp_eq o_L_check_49 (fun q8 => ?_) (fun q8 => ?_)
          · refine Wk.aloadN o_L_check_54 rfl ?_
            refine Wk.callLF (coC H) [] 0 [] (i' := 1) (H.w 105 rfl) (cv_getLastRead H) o_L_check_55 (run_getLastRead H F1 G1 A1 B1) (wt := 0) (cu' := 0) (su' := 0) (by decide) trivial rfl rfl rfl rfl rfl rfl rfl rfl rfl rfl (ws' := [(1, F1, G1, A1, B1)]) rfl ?_
            refine Wk.iloadN o_L_check_58 rfl ?_
            refine Wk.icmp_eq o_L_check_59 (fun q9 => ?_) (fun q9 => ?_)
            · refine Wk.iloadN o_L_check_64 rfl ?_
              refine Wk.iload o_L_check_65 rfl ?_
              refine Wk.iconst o_L_check_67 (z := (1 : Int32)) (by decide) ?_
              refine Wk.isub o_L_check_68 ?_
              refine Wk.iand o_L_check_69 ?_
              refine Wk.istore o_L_check_70 (Or.inl rfl) (L' := [.val (.ref 1), .val (.int p1), .val (.int p2), .val (.int p3), .val (.int p4), .val (.int p5), .val (.int ((2 : Int32) * p4)), .val (.int (p1 - p2)), .val (.int (p1 &&& (((2 : Int32) * p4) - (1 : Int32)))), .unset, .unset, .unset]) rfl ?_
              refine Wk.iloadN o_L_check_72 rfl ?_
              refine Wk.iload o_L_check_73 rfl ?_
              refine Wk.iconst o_L_check_75 (z := (1 : Int32)) (by decide) ?_
              refine Wk.isub o_L_check_76 ?_
              refine Wk.iand o_L_check_77 ?_
              refine Wk.istore o_L_check_78 (Or.inl rfl) (L' := [.val (.ref 1), .val (.int p1), .val (.int p2), .val (.int p3), .val (.int p4), .val (.int p5), .val (.int ((2 : Int32) * p4)), .val (.int (p1 - p2)), .val (.int (p1 &&& (((2 : Int32) * p4) - (1 : Int32)))), .val (.int (p2 &&& (((2 : Int32) * p4) - (1 : Int32)))), .unset, .unset]) rfl ?_
              refine Wk.aloadN o_L_check_80 rfl ?_
              refine Wk.iconst o_L_check_81 (z := (0 : Int32)) (by decide) ?_
              refine Wk.callLF (coC H) [.int (0 : Int32)] 0 [] (i' := 1) (H.w 110 rfl) (cv_getPointerGray H) o_L_check_82 (run_getPointerGray H F1 G1 A1 B1 (0 : Int32)) (wt := 0) (cu' := 0) (su' := 0) (by decide) trivial rfl rfl rfl rfl rfl rfl rfl rfl rfl rfl (ws' := [(1, F1, G1, A1, B1)]) rfl ?_
              refine Wk.iload o_L_check_85 rfl ?_
              refine Wk.iload o_L_check_87 rfl ?_
              refine Wk.iconst o_L_check_89 (z := (1 : Int32)) (by decide) ?_
              refine Wk.iushr o_L_check_90 ?_
              refine Wk.ixor o_L_check_91 ?_
              refine Wk.icmp_eq o_L_check_92 (fun q10 => ?_) (fun q10 => ?_)
              · refine Wk.aloadN o_L_check_97 rfl ?_
                refine Wk.iconst o_L_check_98 (z := (1 : Int32)) (by decide) ?_
                refine Wk.callLF (coC H) [.int (1 : Int32)] 0 [] (i' := 1) (H.w 110 rfl) (cv_getPointerGray H) o_L_check_99 (run_getPointerGray H F1 G1 A1 B1 (1 : Int32)) (wt := 0) (cu' := 0) (su' := 0) (by decide) trivial rfl rfl rfl rfl rfl rfl rfl rfl rfl rfl (ws' := [(1, F1, G1, A1, B1)]) rfl ?_
                refine Wk.iload o_L_check_102 rfl ?_
                refine Wk.iload o_L_check_104 rfl ?_
                refine Wk.iconst o_L_check_106 (z := (1 : Int32)) (by decide) ?_
                refine Wk.iushr o_L_check_107 ?_
                refine Wk.ixor o_L_check_108 ?_
                refine Wk.icmp_eq o_L_check_109 (fun q11 => ?_) (fun q11 => ?_)
                · refine Wk.aloadN o_L_check_114 rfl ?_
                  refine Wk.iconst o_L_check_115 (z := (0 : Int32)) (by decide) ?_
                  refine Wk.callLF (coC H) [.int (0 : Int32)] 0 [] (i' := 1) (H.w 115 rfl) (cv_getFill H) o_L_check_116 (run_getFill H F1 G1 A1 B1 (0 : Int32)) (wt := 0) (cu' := 0) (su' := 0) (by decide) trivial rfl rfl rfl rfl rfl rfl rfl rfl rfl rfl (ws' := [(1, F1, G1, A1, B1)]) rfl ?_
                  refine Wk.istore o_L_check_119 (Or.inl rfl) (L' := [.val (.ref 1), .val (.int p1), .val (.int p2), .val (.int p3), .val (.int p4), .val (.int p5), .val (.int ((2 : Int32) * p4)), .val (.int (p1 - p2)), .val (.int (p1 &&& (((2 : Int32) * p4) - (1 : Int32)))), .val (.int (p2 &&& (((2 : Int32) * p4) - (1 : Int32)))), .val (.int (f_getFill F1 (0 : Int32))), .unset]) rfl ?_
                  refine Wk.aloadN o_L_check_121 rfl ?_
                  refine Wk.iconst o_L_check_122 (z := (1 : Int32)) (by decide) ?_
                  refine Wk.callLF (coC H) [.int (1 : Int32)] 0 [] (i' := 1) (H.w 115 rfl) (cv_getFill H) o_L_check_123 (run_getFill H F1 G1 A1 B1 (1 : Int32)) (wt := 0) (cu' := 0) (su' := 0) (by decide) trivial rfl rfl rfl rfl rfl rfl rfl rfl rfl rfl (ws' := [(1, F1, G1, A1, B1)]) rfl ?_
                  refine Wk.istore o_L_check_126 (Or.inl rfl) (L' := [.val (.ref 1), .val (.int p1), .val (.int p2), .val (.int p3), .val (.int p4), .val (.int p5), .val (.int ((2 : Int32) * p4)), .val (.int (p1 - p2)), .val (.int (p1 &&& (((2 : Int32) * p4) - (1 : Int32)))), .val (.int (p2 &&& (((2 : Int32) * p4) - (1 : Int32)))), .val (.int (f_getFill F1 (0 : Int32))), .val (.int (f_getFill F1 (1 : Int32)))]) rfl ?_
                  refine Wk.iload o_L_check_128 rfl ?_
                  refine Wk.if_lt o_L_check_130 (fun q12 => ?_) (fun q12 => ?_)
                  · refine Wk.iconst o_L_check_154 (z := (0 : Int32)) (by decide) ?_
                    exact Wk.zreturn mrL rfl o_L_check_155 rfl (by decide) (by decide) (y := (0 : Int32)) (by decide) (h13 q1 q3 q4 q6 q8 q9 q10 q11 q12)
                  · refine Wk.iload o_L_check_133 rfl ?_
                    refine Wk.iload o_L_check_135 rfl ?_
                    refine Wk.icmp_gt o_L_check_137 (fun q14 => ?_) (fun q14 => ?_)
                    · refine Wk.iconst o_L_check_154 (z := (0 : Int32)) (by decide) ?_
                      exact Wk.zreturn mrL rfl o_L_check_155 rfl (by decide) (by decide) (y := (0 : Int32)) (by decide) (h15 q1 q3 q4 q6 q8 q9 q10 q11 q12 q14)
                    · refine Wk.iload o_L_check_140 rfl ?_
                      refine Wk.iload o_L_check_142 rfl ?_
                      refine Wk.icmp_lt o_L_check_144 (fun q16 => ?_) (fun q16 => ?_)
                      · refine Wk.iconst o_L_check_154 (z := (0 : Int32)) (by decide) ?_
                        exact Wk.zreturn mrL rfl o_L_check_155 rfl (by decide) (by decide) (y := (0 : Int32)) (by decide) (h17 q1 q3 q4 q6 q8 q9 q10 q11 q12 q14 q16)
                      · refine Wk.iload o_L_check_147 rfl ?_
                        refine Wk.iload o_L_check_149 rfl ?_
                        refine Wk.icmp_le o_L_check_151 (fun q18 => ?_) (fun q18 => ?_)
                        · refine Wk.aloadN o_L_check_156 rfl ?_
                          refine Wk.callLF (coC H) [] 0 [] (i' := 1) (H.w 132 rfl) (cv_isFull H) o_L_check_157 (run_isFull H F1 G1 A1 B1) (wt := 0) (cu' := 0) (su' := 0) (by decide) trivial rfl rfl rfl rfl rfl rfl rfl rfl rfl rfl (ws' := [(1, F1, G1, A1, B1)]) rfl ?_
                          refine Wk.iload o_L_check_160 rfl ?_
                          refine Wk.iload o_L_check_162 rfl ?_
                          have J20 : Wk l Z (MoL Z cdC "CdcFifoL6" true) md_L_check 172 [.val (.ref 1), .val (.int p1), .val (.int p2), .val (.int p3), .val (.int p4), .val (.int p5), .val (.int ((2 : Int32) * p4)), .val (.int (p1 - p2)), .val (.int (p1 &&& (((2 : Int32) * p4) - (1 : Int32)))), .val (.int (p2 &&& (((2 : Int32) * p4) - (1 : Int32)))), .val (.int (f_getFill F1 (0 : Int32))), .val (.int (f_getFill F1 (1 : Int32)))] [.int (if (f_getFill F1 (0 : Int32)) = p4 then (1 : Int32) else (0 : Int32)), .int (f_isFull F1)] (sl, sv, [(1, F1, G1, A1, B1)]) 0 0 Q := by
                            refine Wk.icmp_ne o_L_check_172 (fun q21 => ?_) (fun q21 => ?_)
                            · refine Wk.iconst o_L_check_211 (z := (0 : Int32)) (by decide) ?_
                              exact Wk.zreturn mrL rfl o_L_check_212 rfl (by decide) (by decide) (y := (0 : Int32)) (by decide) (h22 q1 q3 q4 q6 q8 q9 q10 q11 q12 q14 q16 q18 q21)
                            · refine Wk.aloadN o_L_check_175 rfl ?_
                              refine Wk.callLF (coC H) [] 0 [] (i' := 1) (H.w 141 rfl) (cv_isEmpty H) o_L_check_176 (run_isEmpty H F1 G1 A1 B1) (wt := 0) (cu' := 0) (su' := 0) (by decide) trivial rfl rfl rfl rfl rfl rfl rfl rfl rfl rfl (ws' := [(1, F1, G1, A1, B1)]) rfl ?_
                              refine Wk.iload o_L_check_179 rfl ?_
                              have J24 : Wk l Z (MoL Z cdC "CdcFifoL6" true) md_L_check 189 [.val (.ref 1), .val (.int p1), .val (.int p2), .val (.int p3), .val (.int p4), .val (.int p5), .val (.int ((2 : Int32) * p4)), .val (.int (p1 - p2)), .val (.int (p1 &&& (((2 : Int32) * p4) - (1 : Int32)))), .val (.int (p2 &&& (((2 : Int32) * p4) - (1 : Int32)))), .val (.int (f_getFill F1 (0 : Int32))), .val (.int (f_getFill F1 (1 : Int32)))] [.int (if (f_getFill F1 (1 : Int32)) = 0 then (1 : Int32) else (0 : Int32)), .int (f_isEmpty F1)] (sl, sv, [(1, F1, G1, A1, B1)]) 0 0 Q := by
                                refine Wk.icmp_ne o_L_check_189 (fun q25 => ?_) (fun q25 => ?_)
                                · refine Wk.iconst o_L_check_211 (z := (0 : Int32)) (by decide) ?_
                                  exact Wk.zreturn mrL rfl o_L_check_212 rfl (by decide) (by decide) (y := (0 : Int32)) (by decide) (h26 q1 q3 q4 q6 q8 q9 q10 q11 q12 q14 q16 q18 q21 q25)
                                · refine Wk.aloadN o_L_check_192 rfl ?_
                                  refine Wk.callLF (coC H) [] 0 [] (i' := 1) (H.w 150 rfl) (cv_isAlmostFull H) o_L_check_193 (run_isAlmostFull H F1 G1 A1 B1) (wt := 0) (cu' := 0) (su' := 0) (by decide) trivial rfl rfl rfl rfl rfl rfl rfl rfl rfl rfl (ws' := [(1, F1, G1, A1, B1)]) rfl ?_
                                  refine Wk.iload o_L_check_196 rfl ?_
                                  refine Wk.iload o_L_check_198 rfl ?_
                                  have J28 : Wk l Z (MoL Z cdC "CdcFifoL6" true) md_L_check 208 [.val (.ref 1), .val (.int p1), .val (.int p2), .val (.int p3), .val (.int p4), .val (.int p5), .val (.int ((2 : Int32) * p4)), .val (.int (p1 - p2)), .val (.int (p1 &&& (((2 : Int32) * p4) - (1 : Int32)))), .val (.int (p2 &&& (((2 : Int32) * p4) - (1 : Int32)))), .val (.int (f_getFill F1 (0 : Int32))), .val (.int (f_getFill F1 (1 : Int32)))] [.int (if (f_getFill F1 (0 : Int32)) < p5 then (0 : Int32) else (1 : Int32)), .int (f_isAlmostFull F1)] (sl, sv, [(1, F1, G1, A1, B1)]) 0 0 Q := by
                                    refine Wk.icmp_eq o_L_check_208 (fun q29 => ?_) (fun q29 => ?_)
                                    · refine Wk.iload o_L_check_213 rfl ?_
                                      refine Wk.if_le o_L_check_215 (fun q30 => ?_) (fun q30 => ?_)
                                      · refine Wk.aloadN o_L_check_253 rfl ?_
                                        refine Wk.iload o_L_check_254 rfl ?_
                                        refine Wk.callLF (coC H) [.int (p1 - p2)] 0 [] (i' := 1) (H.w 155 rfl) (cv_getUnread H) o_L_check_256 (run_getUnread H F1 G1 A1 B1 (p1 - p2)) (wt := 0) (cu' := 0) (su' := 0) (by decide) trivial rfl rfl rfl rfl rfl rfl rfl rfl rfl rfl (ws' := [(1, F1, G1, A1, B1)]) rfl ?_
                                        refine Wk.if_ne o_L_check_259 (fun q31 => ?_) (fun q31 => ?_)
                                        · refine Wk.iconst o_L_check_270 (z := (0 : Int32)) (by decide) ?_
                                          exact Wk.zreturn mrL rfl o_L_check_271 rfl (by decide) (by decide) (y := (0 : Int32)) (by decide) (h32 q1 q3 q4 q6 q8 q9 q10 q11 q12 q14 q16 q18 q21 q25 q29 q30 q31)
                                        · refine Wk.aloadN o_L_check_262 rfl ?_
                                          refine Wk.iconst o_L_check_263 (z := (-1 : Int32)) (by decide) ?_
                                          refine Wk.callLF (coC H) [.int (-1 : Int32)] 0 [] (i' := 1) (H.w 155 rfl) (cv_getUnread H) o_L_check_264 (run_getUnread H F1 G1 A1 B1 (-1 : Int32)) (wt := 0) (cu' := 0) (su' := 0) (by decide) trivial rfl rfl rfl rfl rfl rfl rfl rfl rfl rfl (ws' := [(1, F1, G1, A1, B1)]) rfl ?_
                                          refine Wk.if_eq o_L_check_267 (fun q33 => ?_) (fun q33 => ?_)
                                          · refine Wk.iconst o_L_check_272 (z := (1 : Int32)) (by decide) ?_
                                            exact Wk.zreturn mrL rfl o_L_check_273 rfl (by decide) (by decide) (y := (1 : Int32)) (by decide) (h34 q1 q3 q4 q6 q8 q9 q10 q11 q12 q14 q16 q18 q21 q25 q29 q30 q31 q33)
                                          · refine Wk.iconst o_L_check_270 (z := (0 : Int32)) (by decide) ?_
                                            exact Wk.zreturn mrL rfl o_L_check_271 rfl (by decide) (by decide) (y := (0 : Int32)) (by decide) (h35 q1 q3 q4 q6 q8 q9 q10 q11 q12 q14 q16 q18 q21 q25 q29 q30 q31 q33)
                                      · refine Wk.aloadN o_L_check_218 rfl ?_
                                        refine Wk.iconst o_L_check_219 (z := (0 : Int32)) (by decide) ?_
                                        refine Wk.callLF (coC H) [.int (0 : Int32)] 0 [] (i' := 1) (H.w 155 rfl) (cv_getUnread H) o_L_check_220 (run_getUnread H F1 G1 A1 B1 (0 : Int32)) (wt := 0) (cu' := 0) (su' := 0) (by decide) trivial rfl rfl rfl rfl rfl rfl rfl rfl rfl rfl (ws' := [(1, F1, G1, A1, B1)]) rfl ?_
                                        refine Wk.iloadN o_L_check_223 rfl ?_
                                        refine Wk.bipush o_L_check_224 (z := (7 : Int32)) (by decide) ?_
                                        refine Wk.imul o_L_check_226 ?_
                                        refine Wk.iconst o_L_check_227 (z := (3 : Int32)) (by decide) ?_
                                        refine Wk.iadd o_L_check_228 ?_
                                        refine Wk.icmp_ne o_L_check_229 (fun q36 => ?_) (fun q36 => ?_)
                                        · refine Wk.iconst o_L_check_251 (z := (0 : Int32)) (by decide) ?_
                                          exact Wk.zreturn mrL rfl o_L_check_252 rfl (by decide) (by decide) (y := (0 : Int32)) (by decide) (h37 q1 q3 q4 q6 q8 q9 q10 q11 q12 q14 q16 q18 q21 q25 q29 q30 q36)
                                        · refine Wk.aloadN o_L_check_232 rfl ?_
                                          refine Wk.iload o_L_check_233 rfl ?_
                                          refine Wk.iconst o_L_check_235 (z := (1 : Int32)) (by decide) ?_
                                          refine Wk.isub o_L_check_236 ?_
                                          refine Wk.callLF (coC H) [.int ((p1 - p2) - (1 : Int32))] 0 [] (i' := 1) (H.w 155 rfl) (cv_getUnread H) o_L_check_237 (run_getUnread H F1 G1 A1 B1 ((p1 - p2) - (1 : Int32))) (wt := 0) (cu' := 0) (su' := 0) (by decide) trivial rfl rfl rfl rfl rfl rfl rfl rfl rfl rfl (ws' := [(1, F1, G1, A1, B1)]) rfl ?_
                                          refine Wk.iloadN o_L_check_240 rfl ?_
                                          refine Wk.iconst o_L_check_241 (z := (1 : Int32)) (by decide) ?_
                                          refine Wk.isub o_L_check_242 ?_
                                          refine Wk.bipush o_L_check_243 (z := (7 : Int32)) (by decide) ?_
                                          refine Wk.imul o_L_check_245 ?_
                                          refine Wk.iconst o_L_check_246 (z := (3 : Int32)) (by decide) ?_
                                          refine Wk.iadd o_L_check_247 ?_
                                          refine Wk.icmp_eq o_L_check_248 (fun q38 => ?_) (fun q38 => ?_)
                                          · refine Wk.aloadN o_L_check_253 rfl ?_
                                            refine Wk.iload o_L_check_254 rfl ?_
                                            refine Wk.callLF (coC H) [.int (p1 - p2)] 0 [] (i' := 1) (H.w 155 rfl) (cv_getUnread H) o_L_check_256 (run_getUnread H F1 G1 A1 B1 (p1 - p2)) (wt := 0) (cu' := 0) (su' := 0) (by decide) trivial rfl rfl rfl rfl rfl rfl rfl rfl rfl rfl (ws' := [(1, F1, G1, A1, B1)]) rfl ?_
                                            refine Wk.if_ne o_L_check_259 (fun q39 => ?_) (fun q39 => ?_)
                                            · refine Wk.iconst o_L_check_270 (z := (0 : Int32)) (by decide) ?_
                                              exact Wk.zreturn mrL rfl o_L_check_271 rfl (by decide) (by decide) (y := (0 : Int32)) (by decide) (h40 q1 q3 q4 q6 q8 q9 q10 q11 q12 q14 q16 q18 q21 q25 q29 q30 q36 q38 q39)
                                            · refine Wk.aloadN o_L_check_262 rfl ?_
                                              refine Wk.iconst o_L_check_263 (z := (-1 : Int32)) (by decide) ?_
                                              refine Wk.callLF (coC H) [.int (-1 : Int32)] 0 [] (i' := 1) (H.w 155 rfl) (cv_getUnread H) o_L_check_264 (run_getUnread H F1 G1 A1 B1 (-1 : Int32)) (wt := 0) (cu' := 0) (su' := 0) (by decide) trivial rfl rfl rfl rfl rfl rfl rfl rfl rfl rfl (ws' := [(1, F1, G1, A1, B1)]) rfl ?_
                                              refine Wk.if_eq o_L_check_267 (fun q41 => ?_) (fun q41 => ?_)
                                              · refine Wk.iconst o_L_check_272 (z := (1 : Int32)) (by decide) ?_
                                                exact Wk.zreturn mrL rfl o_L_check_273 rfl (by decide) (by decide) (y := (1 : Int32)) (by decide) (h42 q1 q3 q4 q6 q8 q9 q10 q11 q12 q14 q16 q18 q21 q25 q29 q30 q36 q38 q39 q41)
                                              · refine Wk.iconst o_L_check_270 (z := (0 : Int32)) (by decide) ?_
                                                exact Wk.zreturn mrL rfl o_L_check_271 rfl (by decide) (by decide) (y := (0 : Int32)) (by decide) (h43 q1 q3 q4 q6 q8 q9 q10 q11 q12 q14 q16 q18 q21 q25 q29 q30 q36 q38 q39 q41)
                                          · refine Wk.iconst o_L_check_251 (z := (0 : Int32)) (by decide) ?_
                                            exact Wk.zreturn mrL rfl o_L_check_252 rfl (by decide) (by decide) (y := (0 : Int32)) (by decide) (h44 q1 q3 q4 q6 q8 q9 q10 q11 q12 q14 q16 q18 q21 q25 q29 q30 q36 q38)
                                    · refine Wk.iconst o_L_check_211 (z := (0 : Int32)) (by decide) ?_
                                      exact Wk.zreturn mrL rfl o_L_check_212 rfl (by decide) (by decide) (y := (0 : Int32)) (by decide) (h45 q1 q3 q4 q6 q8 q9 q10 q11 q12 q14 q16 q18 q21 q25 q29)
                                  refine Wk.icmp_lt o_L_check_200 (fun q27 => ?_) (fun q27 => ?_)
                                  · refine Wk.iconst o_L_check_207 (z := (0 : Int32)) (by decide) ?_
                                    first | (rw [show ((if (f_getFill F1 (0 : Int32)) < p5 then (0 : Int32) else (1 : Int32)) : Int32) = (0 : Int32) from if_pos q27] at J28; exact J28) | exact J28 | (simp only [if_pos q27] at J28 ⊢; exact J28)
                                  · refine Wk.iconst o_L_check_203 (z := (1 : Int32)) (by decide) ?_
                                    refine Wk.goto o_L_check_204 ?_
                                    first | (rw [show ((if (f_getFill F1 (0 : Int32)) < p5 then (0 : Int32) else (1 : Int32)) : Int32) = (1 : Int32) from if_neg q27] at J28; exact J28) | exact J28 | (simp only [if_neg q27] at J28 ⊢; exact J28)
                              refine Wk.if_ne o_L_check_181 (fun q23 => ?_) (fun q23 => ?_)
                              · refine Wk.iconst o_L_check_188 (z := (0 : Int32)) (by decide) ?_
                                first | (rw [show ((if (f_getFill F1 (1 : Int32)) = 0 then (1 : Int32) else (0 : Int32)) : Int32) = (0 : Int32) from if_neg q23] at J24; exact J24) | exact J24 | (simp only [if_neg q23] at J24 ⊢; exact J24)
                              · refine Wk.iconst o_L_check_184 (z := (1 : Int32)) (by decide) ?_
                                refine Wk.goto o_L_check_185 ?_
                                first | (rw [show ((if (f_getFill F1 (1 : Int32)) = 0 then (1 : Int32) else (0 : Int32)) : Int32) = (1 : Int32) from if_pos q23] at J24; exact J24) | exact J24 | (simp only [if_pos q23] at J24 ⊢; exact J24)
                          refine Wk.icmp_ne o_L_check_164 (fun q19 => ?_) (fun q19 => ?_)
                          · refine Wk.iconst o_L_check_171 (z := (0 : Int32)) (by decide) ?_
                            first | (rw [show ((if (f_getFill F1 (0 : Int32)) = p4 then (1 : Int32) else (0 : Int32)) : Int32) = (0 : Int32) from if_neg q19] at J20; exact J20) | exact J20 | (simp only [if_neg q19] at J20 ⊢; exact J20)
                          · refine Wk.iconst o_L_check_167 (z := (1 : Int32)) (by decide) ?_
                            refine Wk.goto o_L_check_168 ?_
                            first | (rw [show ((if (f_getFill F1 (0 : Int32)) = p4 then (1 : Int32) else (0 : Int32)) : Int32) = (1 : Int32) from if_pos q19] at J20; exact J20) | exact J20 | (simp only [if_pos q19] at J20 ⊢; exact J20)
                        · refine Wk.iconst o_L_check_154 (z := (0 : Int32)) (by decide) ?_
                          exact Wk.zreturn mrL rfl o_L_check_155 rfl (by decide) (by decide) (y := (0 : Int32)) (by decide) (h46 q1 q3 q4 q6 q8 q9 q10 q11 q12 q14 q16 q18)
                · refine Wk.iconst o_L_check_112 (z := (0 : Int32)) (by decide) ?_
                  exact Wk.zreturn mrL rfl o_L_check_113 rfl (by decide) (by decide) (y := (0 : Int32)) (by decide) (h47 q1 q3 q4 q6 q8 q9 q10 q11)
              · refine Wk.iconst o_L_check_95 (z := (0 : Int32)) (by decide) ?_
                exact Wk.zreturn mrL rfl o_L_check_96 rfl (by decide) (by decide) (y := (0 : Int32)) (by decide) (h48 q1 q3 q4 q6 q8 q9 q10)
            · refine Wk.iconst o_L_check_62 (z := (0 : Int32)) (by decide) ?_
              exact Wk.zreturn mrL rfl o_L_check_63 rfl (by decide) (by decide) (y := (0 : Int32)) (by decide) (h49 q1 q3 q4 q6 q8 q9)
          · refine Wk.iconst o_L_check_52 (z := (0 : Int32)) (by decide) ?_
            exact Wk.zreturn mrL rfl o_L_check_53 rfl (by decide) (by decide) (y := (0 : Int32)) (by decide) (h50 q1 q3 q4 q6 q8)
    · refine Wk.iconst o_L_check_29 (z := (0 : Int32)) (by decide) ?_
      exact Wk.zreturn mrL rfl o_L_check_30 rfl (by decide) (by decide) (y := (0 : Int32)) (by decide) (h51 q1 q3)
def f_L_check (F : Nat → Int32) (A : Nat → Int32 → Int32) (p1 : Int32) (p2 : Int32) (p3 : Int32) (p4 : Int32) (p5 : Int32) : Int32 := (if (f_getTotal F (0 : Int32)) = p1 then (if (f_getTotal F (1 : Int32)) = p2 then (if (p1 - p2) < 0 then (0 : Int32) else (if p4 < (p1 - p2) then (0 : Int32) else (if (f_getCount F) = (p1 - p2) then (if (f_getLastRead F) = p3 then (if (f_getPointerGray F (0 : Int32)) = ((p1 &&& (((2 : Int32) * p4) - (1 : Int32))) ^^^ (XT.ushr (p1 &&& (((2 : Int32) * p4) - (1 : Int32))) (1 : Int32))) then (if (f_getPointerGray F (1 : Int32)) = ((p2 &&& (((2 : Int32) * p4) - (1 : Int32))) ^^^ (XT.ushr (p2 &&& (((2 : Int32) * p4) - (1 : Int32))) (1 : Int32))) then (if (f_getFill F (1 : Int32)) < 0 then (0 : Int32) else (if (p1 - p2) < (f_getFill F (1 : Int32)) then (0 : Int32) else (if (f_getFill F (0 : Int32)) < (p1 - p2) then (0 : Int32) else (if p4 < (f_getFill F (0 : Int32)) then (0 : Int32) else (if (f_isFull F) = (if (f_getFill F (0 : Int32)) = p4 then (1 : Int32) else (0 : Int32)) then (if (f_isEmpty F) = (if (f_getFill F (1 : Int32)) = 0 then (1 : Int32) else (0 : Int32)) then (if (f_isAlmostFull F) = (if (f_getFill F (0 : Int32)) < p5 then (0 : Int32) else (1 : Int32)) then (if 0 < (p1 - p2) then (if (f_getUnread F A (0 : Int32)) = ((p2 * (7 : Int32)) + (3 : Int32)) then (if (f_getUnread F A ((p1 - p2) - (1 : Int32))) = (((p1 - (1 : Int32)) * (7 : Int32)) + (3 : Int32)) then (if (f_getUnread F A (p1 - p2)) = 0 then (if (f_getUnread F A (-1 : Int32)) = 0 then (1 : Int32) else (0 : Int32)) else (0 : Int32)) else (0 : Int32)) else (0 : Int32)) else (if (f_getUnread F A (p1 - p2)) = 0 then (if (f_getUnread F A (-1 : Int32)) = 0 then (1 : Int32) else (0 : Int32)) else (0 : Int32))) else (0 : Int32)) else (0 : Int32)) else (0 : Int32)))))) else (0 : Int32)) else (0 : Int32)) else (0 : Int32)) else (0 : Int32)))) else (0 : Int32)) else (0 : Int32))
theorem e_L_check (F : Nat → Int32) (A : Nat → Int32 → Int32) (p1 : Int32) (p2 : Int32) (p3 : Int32) (p4 : Int32) (p5 : Int32) : f_L_check F A p1 p2 p3 p4 p5 = (if (f_getTotal F (0 : Int32)) = p1 then (if (f_getTotal F (1 : Int32)) = p2 then (if (p1 - p2) < 0 then (0 : Int32) else (if p4 < (p1 - p2) then (0 : Int32) else (if (f_getCount F) = (p1 - p2) then (if (f_getLastRead F) = p3 then (if (f_getPointerGray F (0 : Int32)) = ((p1 &&& (((2 : Int32) * p4) - (1 : Int32))) ^^^ (XT.ushr (p1 &&& (((2 : Int32) * p4) - (1 : Int32))) (1 : Int32))) then (if (f_getPointerGray F (1 : Int32)) = ((p2 &&& (((2 : Int32) * p4) - (1 : Int32))) ^^^ (XT.ushr (p2 &&& (((2 : Int32) * p4) - (1 : Int32))) (1 : Int32))) then (if (f_getFill F (1 : Int32)) < 0 then (0 : Int32) else (if (p1 - p2) < (f_getFill F (1 : Int32)) then (0 : Int32) else (if (f_getFill F (0 : Int32)) < (p1 - p2) then (0 : Int32) else (if p4 < (f_getFill F (0 : Int32)) then (0 : Int32) else (if (f_isFull F) = (if (f_getFill F (0 : Int32)) = p4 then (1 : Int32) else (0 : Int32)) then (if (f_isEmpty F) = (if (f_getFill F (1 : Int32)) = 0 then (1 : Int32) else (0 : Int32)) then (if (f_isAlmostFull F) = (if (f_getFill F (0 : Int32)) < p5 then (0 : Int32) else (1 : Int32)) then (if 0 < (p1 - p2) then (if (f_getUnread F A (0 : Int32)) = ((p2 * (7 : Int32)) + (3 : Int32)) then (if (f_getUnread F A ((p1 - p2) - (1 : Int32))) = (((p1 - (1 : Int32)) * (7 : Int32)) + (3 : Int32)) then (if (f_getUnread F A (p1 - p2)) = 0 then (if (f_getUnread F A (-1 : Int32)) = 0 then (1 : Int32) else (0 : Int32)) else (0 : Int32)) else (0 : Int32)) else (0 : Int32)) else (if (f_getUnread F A (p1 - p2)) = 0 then (if (f_getUnread F A (-1 : Int32)) = 0 then (1 : Int32) else (0 : Int32)) else (0 : Int32))) else (0 : Int32)) else (0 : Int32)) else (0 : Int32)))))) else (0 : Int32)) else (0 : Int32)) else (0 : Int32)) else (0 : Int32)))) else (0 : Int32)) else (0 : Int32)) := Eq.trans rfl rfl
set_option maxRecDepth 65536 in
set_option maxHeartbeats 4000000 in
theorem run_L_check {l : Launch} {Z : State} {a0 : Array Value} (H : OK Z a0) (sl : Int32) (sv : Int32 → Int32) (F1 : Nat → Int32) (G1 : Nat → Int64) (A1 : Nat → Int32 → Int32) (B1 : Nat → Int32 → Int64) (p1 : Int32) (p2 : Int32) (p3 : Int32) (p4 : Int32) (p5 : Int32) :
    Wk l Z (MoL Z cdC "CdcFifoL6" true) md_L_check 0 [.val (.ref 1), .val (.int p1), .val (.int p2), .val (.int p3), .val (.int p4), .val (.int p5), .unset, .unset, .unset, .unset, .unset, .unset] [] (sl, sv, [(1, F1, G1, A1, B1)]) 0 0 (fun v w2 => v = some (.int (f_L_check F1 A1 p1 p2 p3 p4 p5)) ∧ w2 = (sl, sv, [(1, F1, G1, A1, B1)])) :=
  wp_L_check H sl sv F1 G1 A1 B1 p1 p2 p3 p4 p5 (fun q1 => ⟨by simp only [e_L_check, if_neg q1], rfl⟩) (fun q1 q3 q4 => ⟨by simp only [e_L_check, if_pos q1, if_pos q3, if_pos q4], rfl⟩) (fun q1 q3 q4 q6 => ⟨by simp only [e_L_check, if_pos q1, if_pos q3, if_neg q4, if_pos q6], rfl⟩) (fun q1 q3 q4 q6 q8 q9 q10 q11 q12 => ⟨by simp only [e_L_check, if_pos q1, if_pos q3, if_neg q4, if_neg q6, if_pos q8, if_pos q9, if_pos q10, if_pos q11, if_pos q12], rfl⟩) (fun q1 q3 q4 q6 q8 q9 q10 q11 q12 q14 => ⟨by simp only [e_L_check, if_pos q1, if_pos q3, if_neg q4, if_neg q6, if_pos q8, if_pos q9, if_pos q10, if_pos q11, if_neg q12, if_pos q14], rfl⟩) (fun q1 q3 q4 q6 q8 q9 q10 q11 q12 q14 q16 => ⟨by simp only [e_L_check, if_pos q1, if_pos q3, if_neg q4, if_neg q6, if_pos q8, if_pos q9, if_pos q10, if_pos q11, if_neg q12, if_neg q14, if_pos q16], rfl⟩) (fun q1 q3 q4 q6 q8 q9 q10 q11 q12 q14 q16 q18 q21 => ⟨by simp only [e_L_check, if_pos q1, if_pos q3, if_neg q4, if_neg q6, if_pos q8, if_pos q9, if_pos q10, if_pos q11, if_neg q12, if_neg q14, if_neg q16, if_neg q18, if_neg q21], rfl⟩) (fun q1 q3 q4 q6 q8 q9 q10 q11 q12 q14 q16 q18 q21 q25 => ⟨by simp only [e_L_check, if_pos q1, if_pos q3, if_neg q4, if_neg q6, if_pos q8, if_pos q9, if_pos q10, if_pos q11, if_neg q12, if_neg q14, if_neg q16, if_neg q18, if_pos q21, if_neg q25], rfl⟩) (fun q1 q3 q4 q6 q8 q9 q10 q11 q12 q14 q16 q18 q21 q25 q29 q30 q31 => ⟨by simp only [e_L_check, if_pos q1, if_pos q3, if_neg q4, if_neg q6, if_pos q8, if_pos q9, if_pos q10, if_pos q11, if_neg q12, if_neg q14, if_neg q16, if_neg q18, if_pos q21, if_pos q25, if_pos q29, if_neg q30, if_neg q31], rfl⟩) (fun q1 q3 q4 q6 q8 q9 q10 q11 q12 q14 q16 q18 q21 q25 q29 q30 q31 q33 => ⟨by simp only [e_L_check, if_pos q1, if_pos q3, if_neg q4, if_neg q6, if_pos q8, if_pos q9, if_pos q10, if_pos q11, if_neg q12, if_neg q14, if_neg q16, if_neg q18, if_pos q21, if_pos q25, if_pos q29, if_neg q30, if_pos q31, if_pos q33], rfl⟩) (fun q1 q3 q4 q6 q8 q9 q10 q11 q12 q14 q16 q18 q21 q25 q29 q30 q31 q33 => ⟨by simp only [e_L_check, if_pos q1, if_pos q3, if_neg q4, if_neg q6, if_pos q8, if_pos q9, if_pos q10, if_pos q11, if_neg q12, if_neg q14, if_neg q16, if_neg q18, if_pos q21, if_pos q25, if_pos q29, if_neg q30, if_pos q31, if_neg q33], rfl⟩) (fun q1 q3 q4 q6 q8 q9 q10 q11 q12 q14 q16 q18 q21 q25 q29 q30 q36 => ⟨by simp only [e_L_check, if_pos q1, if_pos q3, if_neg q4, if_neg q6, if_pos q8, if_pos q9, if_pos q10, if_pos q11, if_neg q12, if_neg q14, if_neg q16, if_neg q18, if_pos q21, if_pos q25, if_pos q29, if_pos q30, if_neg q36], rfl⟩) (fun q1 q3 q4 q6 q8 q9 q10 q11 q12 q14 q16 q18 q21 q25 q29 q30 q36 q38 q39 => ⟨by simp only [e_L_check, if_pos q1, if_pos q3, if_neg q4, if_neg q6, if_pos q8, if_pos q9, if_pos q10, if_pos q11, if_neg q12, if_neg q14, if_neg q16, if_neg q18, if_pos q21, if_pos q25, if_pos q29, if_pos q30, if_pos q36, if_pos q38, if_neg q39], rfl⟩) (fun q1 q3 q4 q6 q8 q9 q10 q11 q12 q14 q16 q18 q21 q25 q29 q30 q36 q38 q39 q41 => ⟨by simp only [e_L_check, if_pos q1, if_pos q3, if_neg q4, if_neg q6, if_pos q8, if_pos q9, if_pos q10, if_pos q11, if_neg q12, if_neg q14, if_neg q16, if_neg q18, if_pos q21, if_pos q25, if_pos q29, if_pos q30, if_pos q36, if_pos q38, if_pos q39, if_pos q41], rfl⟩) (fun q1 q3 q4 q6 q8 q9 q10 q11 q12 q14 q16 q18 q21 q25 q29 q30 q36 q38 q39 q41 => ⟨by simp only [e_L_check, if_pos q1, if_pos q3, if_neg q4, if_neg q6, if_pos q8, if_pos q9, if_pos q10, if_pos q11, if_neg q12, if_neg q14, if_neg q16, if_neg q18, if_pos q21, if_pos q25, if_pos q29, if_pos q30, if_pos q36, if_pos q38, if_pos q39, if_neg q41], rfl⟩) (fun q1 q3 q4 q6 q8 q9 q10 q11 q12 q14 q16 q18 q21 q25 q29 q30 q36 q38 => ⟨by simp only [e_L_check, if_pos q1, if_pos q3, if_neg q4, if_neg q6, if_pos q8, if_pos q9, if_pos q10, if_pos q11, if_neg q12, if_neg q14, if_neg q16, if_neg q18, if_pos q21, if_pos q25, if_pos q29, if_pos q30, if_pos q36, if_neg q38], rfl⟩) (fun q1 q3 q4 q6 q8 q9 q10 q11 q12 q14 q16 q18 q21 q25 q29 => ⟨by simp only [e_L_check, if_pos q1, if_pos q3, if_neg q4, if_neg q6, if_pos q8, if_pos q9, if_pos q10, if_pos q11, if_neg q12, if_neg q14, if_neg q16, if_neg q18, if_pos q21, if_pos q25, if_neg q29], rfl⟩) (fun q1 q3 q4 q6 q8 q9 q10 q11 q12 q14 q16 q18 => ⟨by simp only [e_L_check, if_pos q1, if_pos q3, if_neg q4, if_neg q6, if_pos q8, if_pos q9, if_pos q10, if_pos q11, if_neg q12, if_neg q14, if_neg q16, if_pos q18], rfl⟩) (fun q1 q3 q4 q6 q8 q9 q10 q11 => ⟨by simp only [e_L_check, if_pos q1, if_pos q3, if_neg q4, if_neg q6, if_pos q8, if_pos q9, if_pos q10, if_neg q11], rfl⟩) (fun q1 q3 q4 q6 q8 q9 q10 => ⟨by simp only [e_L_check, if_pos q1, if_pos q3, if_neg q4, if_neg q6, if_pos q8, if_pos q9, if_neg q10], rfl⟩) (fun q1 q3 q4 q6 q8 q9 => ⟨by simp only [e_L_check, if_pos q1, if_pos q3, if_neg q4, if_neg q6, if_pos q8, if_neg q9], rfl⟩) (fun q1 q3 q4 q6 q8 => ⟨by simp only [e_L_check, if_pos q1, if_pos q3, if_neg q4, if_neg q6, if_neg q8], rfl⟩) (fun q1 q3 => ⟨by simp only [e_L_check, if_pos q1, if_neg q3], rfl⟩)
set_option maxRecDepth 65536 in
set_option maxHeartbeats 4000000 in
theorem wp_L_law {l : Launch} {Z : State} {a0 : Array Value} (H : OK Z a0) (sl : Int32) (sv : Int32 → Int32) {Q : Option Value → WL → Prop} (s2 : 0 < sl → (0 : Int32) < sl) (h15 : (f_getConfig (F_init (if 0 < sl then ((sv (0 : Int32)) &&& (3 : Int32)) else (2 : Int32)) (if (1 : Int32) < sl then ((sv (1 : Int32)) &&& (15 : Int32)) else (3 : Int32))) (0 : Int32)) = (if (if 0 < sl then ((sv (0 : Int32)) &&& (3 : Int32)) else (2 : Int32)) < (2 : Int32) then (4 : Int32) else ((1 : Int32) <<< ((if 0 < sl then ((sv (0 : Int32)) &&& (3 : Int32)) else (2 : Int32)) &&& 31)))) (h17 : (f_getConfig (F_init (if 0 < sl then ((sv (0 : Int32)) &&& (3 : Int32)) else (2 : Int32)) (if (1 : Int32) < sl then ((sv (1 : Int32)) &&& (15 : Int32)) else (3 : Int32))) (1 : Int32)) = (if (if (1 : Int32) < sl then ((sv (1 : Int32)) &&& (15 : Int32)) else (3 : Int32)) < (1 : Int32) then (1 : Int32) else (if (if (if 0 < sl then ((sv (0 : Int32)) &&& (3 : Int32)) else (2 : Int32)) < (2 : Int32) then (4 : Int32) else ((1 : Int32) <<< ((if 0 < sl then ((sv (0 : Int32)) &&& (3 : Int32)) else (2 : Int32)) &&& 31))) < (if (1 : Int32) < sl then ((sv (1 : Int32)) &&& (15 : Int32)) else (3 : Int32)) then (if (if 0 < sl then ((sv (0 : Int32)) &&& (3 : Int32)) else (2 : Int32)) < (2 : Int32) then (4 : Int32) else ((1 : Int32) <<< ((if 0 < sl then ((sv (0 : Int32)) &&& (3 : Int32)) else (2 : Int32)) &&& 31))) else (if (1 : Int32) < sl then ((sv (1 : Int32)) &&& (15 : Int32)) else (3 : Int32))))) (h19 : (f_getConfig (F_init (if 0 < sl then ((sv (0 : Int32)) &&& (3 : Int32)) else (2 : Int32)) (if (1 : Int32) < sl then ((sv (1 : Int32)) &&& (15 : Int32)) else (3 : Int32))) (2 : Int32)) = (if (if 0 < sl then ((sv (0 : Int32)) &&& (3 : Int32)) else (2 : Int32)) < (2 : Int32) then (3 : Int32) else ((if 0 < sl then ((sv (0 : Int32)) &&& (3 : Int32)) else (2 : Int32)) + (1 : Int32)))) (h21 : ¬ (f_L_check (F_init (if 0 < sl then ((sv (0 : Int32)) &&& (3 : Int32)) else (2 : Int32)) (if (1 : Int32) < sl then ((sv (1 : Int32)) &&& (15 : Int32)) else (3 : Int32))) (A_init (if 0 < sl then ((sv (0 : Int32)) &&& (3 : Int32)) else (2 : Int32)) (if (1 : Int32) < sl then ((sv (1 : Int32)) &&& (15 : Int32)) else (3 : Int32))) (0 : Int32) (0 : Int32) (0 : Int32) (if (if 0 < sl then ((sv (0 : Int32)) &&& (3 : Int32)) else (2 : Int32)) < (2 : Int32) then (4 : Int32) else ((1 : Int32) <<< ((if 0 < sl then ((sv (0 : Int32)) &&& (3 : Int32)) else (2 : Int32)) &&& 31))) (if (if (1 : Int32) < sl then ((sv (1 : Int32)) &&& (15 : Int32)) else (3 : Int32)) < (1 : Int32) then (1 : Int32) else (if (if (if 0 < sl then ((sv (0 : Int32)) &&& (3 : Int32)) else (2 : Int32)) < (2 : Int32) then (4 : Int32) else ((1 : Int32) <<< ((if 0 < sl then ((sv (0 : Int32)) &&& (3 : Int32)) else (2 : Int32)) &&& 31))) < (if (1 : Int32) < sl then ((sv (1 : Int32)) &&& (15 : Int32)) else (3 : Int32)) then (if (if 0 < sl then ((sv (0 : Int32)) &&& (3 : Int32)) else (2 : Int32)) < (2 : Int32) then (4 : Int32) else ((1 : Int32) <<< ((if 0 < sl then ((sv (0 : Int32)) &&& (3 : Int32)) else (2 : Int32)) &&& 31))) else (if (1 : Int32) < sl then ((sv (1 : Int32)) &&& (15 : Int32)) else (3 : Int32))))) = 0) (h22 : Wk l Z (MoL Z cdC "CdcFifoL6" true) md_L_law 158 [.val (.ref 0), .val (.int sl), .unset, .unset, .val (.ref 1), .val (.int (if (if 0 < sl then ((sv (0 : Int32)) &&& (3 : Int32)) else (2 : Int32)) < (2 : Int32) then (4 : Int32) else ((1 : Int32) <<< ((if 0 < sl then ((sv (0 : Int32)) &&& (3 : Int32)) else (2 : Int32)) &&& 31)))), .val (.int (if (if (1 : Int32) < sl then ((sv (1 : Int32)) &&& (15 : Int32)) else (3 : Int32)) < (1 : Int32) then (1 : Int32) else (if (if (if 0 < sl then ((sv (0 : Int32)) &&& (3 : Int32)) else (2 : Int32)) < (2 : Int32) then (4 : Int32) else ((1 : Int32) <<< ((if 0 < sl then ((sv (0 : Int32)) &&& (3 : Int32)) else (2 : Int32)) &&& 31))) < (if (1 : Int32) < sl then ((sv (1 : Int32)) &&& (15 : Int32)) else (3 : Int32)) then (if (if 0 < sl then ((sv (0 : Int32)) &&& (3 : Int32)) else (2 : Int32)) < (2 : Int32) then (4 : Int32) else ((1 : Int32) <<< ((if 0 < sl then ((sv (0 : Int32)) &&& (3 : Int32)) else (2 : Int32)) &&& 31))) else (if (1 : Int32) < sl then ((sv (1 : Int32)) &&& (15 : Int32)) else (3 : Int32))))), .unset, .val (.int (0 : Int32)), .val (.int (0 : Int32)), .val (.int (0 : Int32)), .val (.int (2 : Int32)), .unset, .unset, .unset, .unset, .unset] [] (sl, sv, [(1, (F_init (if 0 < sl then ((sv (0 : Int32)) &&& (3 : Int32)) else (2 : Int32)) (if (1 : Int32) < sl then ((sv (1 : Int32)) &&& (15 : Int32)) else (3 : Int32))), (fun _ => 0), (A_init (if 0 < sl then ((sv (0 : Int32)) &&& (3 : Int32)) else (2 : Int32)) (if (1 : Int32) < sl then ((sv (1 : Int32)) &&& (15 : Int32)) else (3 : Int32))), (fun _ _ => 0))]) 2 36 Q) :
    Wk l Z (MoL Z cdC "CdcFifoL6" true) md_L_law 0 [.val (.ref 0), .unset, .unset, .unset, .unset, .unset, .unset, .unset, .unset, .unset, .unset, .unset, .unset, .unset, .unset, .unset, .unset] [] (sl, sv, []) 0 0 Q := by
  refine Wk.aloadN o_L_law_0 rfl ?_
  refine Wk.lenL o_L_law_1 ?_
  refine Wk.istoreN o_L_law_2 (Or.inl rfl) (L' := [.val (.ref 0), .val (.int sl), .unset, .unset, .unset, .unset, .unset, .unset, .unset, .unset, .unset, .unset, .unset, .unset, .unset, .unset, .unset]) rfl ?_
  refine Wk.iconst o_L_law_3 (z := (2 : Int32)) (by decide) ?_
  refine Wk.istoreN o_L_law_4 (Or.inl rfl) (L' := [.val (.ref 0), .val (.int sl), .val (.int (2 : Int32)), .unset, .unset, .unset, .unset, .unset, .unset, .unset, .unset, .unset, .unset, .unset, .unset, .unset, .unset]) rfl ?_
  refine Wk.iconst o_L_law_5 (z := (3 : Int32)) (by decide) ?_
  refine Wk.istoreN o_L_law_6 (Or.inl rfl) (L' := [.val (.ref 0), .val (.int sl), .val (.int (2 : Int32)), .val (.int (3 : Int32)), .unset, .unset, .unset, .unset, .unset, .unset, .unset, .unset, .unset, .unset, .unset, .unset, .unset]) rfl ?_
  refine Wk.iloadN o_L_law_7 rfl ?_
  have J3 : Wk l Z (MoL Z cdC "CdcFifoL6" true) md_L_law 17 [.val (.ref 0), .val (.int sl), .val (.int (if 0 < sl then ((sv (0 : Int32)) &&& (3 : Int32)) else (2 : Int32))), .val (.int (3 : Int32)), .unset, .unset, .unset, .unset, .unset, .unset, .unset, .unset, .unset, .unset, .unset, .unset, .unset] [] (sl, sv, []) 0 0 Q := by
    refine Wk.iloadN o_L_law_17 rfl ?_
    refine Wk.iconst o_L_law_18 (z := (1 : Int32)) (by decide) ?_
    have J5 : Wk l Z (MoL Z cdC "CdcFifoL6" true) md_L_law 29 [.val (.ref 0), .val (.int sl), .val (.int (if 0 < sl then ((sv (0 : Int32)) &&& (3 : Int32)) else (2 : Int32))), .val (.int (if (1 : Int32) < sl then ((sv (1 : Int32)) &&& (15 : Int32)) else (3 : Int32))), .unset, .unset, .unset, .unset, .unset, .unset, .unset, .unset, .unset, .unset, .unset, .unset, .unset] [] (sl, sv, []) 0 0 Q := by
      refine Wk.newL (coC H) (kk := 20) (H.w 0 rfl) (H.w 1 rfl) (wz_C H) o_L_law_29 trivial (i' := 1) rfl (ws' := [(0, (fun _ => 0), (fun _ => 0), (fun _ _ => 0), (fun _ _ => 0))]) rfl (cu' := 1) rfl (su' := 20) rfl (by decide) (by decide) ?_
      refine Wk.dup o_L_law_32 rfl ?_
      refine Wk.iloadN o_L_law_33 rfl ?_
      refine Wk.iloadN o_L_law_34 rfl ?_
      refine Wk.ctorLU (coC H) [.int (if 0 < sl then ((sv (0 : Int32)) &&& (3 : Int32)) else (2 : Int32)), .int (if (1 : Int32) < sl then ((sv (1 : Int32)) &&& (15 : Int32)) else (3 : Int32))] 0 [.ref 1] (i' := 1) (H.w 3 rfl) (cv_init H) o_L_law_35 (run_init H (if 0 < sl then ((sv (0 : Int32)) &&& (3 : Int32)) else (2 : Int32)) (if (1 : Int32) < sl then ((sv (1 : Int32)) &&& (15 : Int32)) else (3 : Int32))) (wt := 1) (cu' := 2) (su' := 36) (by decide) trivial rfl rfl rfl rfl rfl rfl rfl rfl rfl rfl (ws' := [(1, (F_init (if 0 < sl then ((sv (0 : Int32)) &&& (3 : Int32)) else (2 : Int32)) (if (1 : Int32) < sl then ((sv (1 : Int32)) &&& (15 : Int32)) else (3 : Int32))), (fun _ => 0), (A_init (if 0 < sl then ((sv (0 : Int32)) &&& (3 : Int32)) else (2 : Int32)) (if (1 : Int32) < sl then ((sv (1 : Int32)) &&& (15 : Int32)) else (3 : Int32))), (fun _ _ => 0))]) rfl ?_
      refine Wk.astore o_L_law_38 (Or.inl rfl) (L' := [.val (.ref 0), .val (.int sl), .val (.int (if 0 < sl then ((sv (0 : Int32)) &&& (3 : Int32)) else (2 : Int32))), .val (.int (if (1 : Int32) < sl then ((sv (1 : Int32)) &&& (15 : Int32)) else (3 : Int32))), .val (.ref 1), .unset, .unset, .unset, .unset, .unset, .unset, .unset, .unset, .unset, .unset, .unset, .unset]) rfl ?_
      refine Wk.iloadN o_L_law_40 rfl ?_
      refine Wk.iconst o_L_law_41 (z := (2 : Int32)) (by decide) ?_
      have J7 : Wk l Z (MoL Z cdC "CdcFifoL6" true) md_L_law 52 [.val (.ref 0), .val (.int sl), .val (.int (if 0 < sl then ((sv (0 : Int32)) &&& (3 : Int32)) else (2 : Int32))), .val (.int (if (1 : Int32) < sl then ((sv (1 : Int32)) &&& (15 : Int32)) else (3 : Int32))), .val (.ref 1), .unset, .unset, .unset, .unset, .unset, .unset, .unset, .unset, .unset, .unset, .unset, .unset] [.int (if (if 0 < sl then ((sv (0 : Int32)) &&& (3 : Int32)) else (2 : Int32)) < (2 : Int32) then (4 : Int32) else ((1 : Int32) <<< ((if 0 < sl then ((sv (0 : Int32)) &&& (3 : Int32)) else (2 : Int32)) &&& 31)))] (sl, sv, [(1, (F_init (if 0 < sl then ((sv (0 : Int32)) &&& (3 : Int32)) else (2 : Int32)) (if (1 : Int32) < sl then ((sv (1 : Int32)) &&& (15 : Int32)) else (3 : Int32))), (fun _ => 0), (A_init (if 0 < sl then ((sv (0 : Int32)) &&& (3 : Int32)) else (2 : Int32)) (if (1 : Int32) < sl then ((sv (1 : Int32)) &&& (15 : Int32)) else (3 : Int32))), (fun _ _ => 0))]) 2 36 Q := by
        refine Wk.istore o_L_law_52 (Or.inl rfl) (L' := [.val (.ref 0), .val (.int sl), .val (.int (if 0 < sl then ((sv (0 : Int32)) &&& (3 : Int32)) else (2 : Int32))), .val (.int (if (1 : Int32) < sl then ((sv (1 : Int32)) &&& (15 : Int32)) else (3 : Int32))), .val (.ref 1), .val (.int (if (if 0 < sl then ((sv (0 : Int32)) &&& (3 : Int32)) else (2 : Int32)) < (2 : Int32) then (4 : Int32) else ((1 : Int32) <<< ((if 0 < sl then ((sv (0 : Int32)) &&& (3 : Int32)) else (2 : Int32)) &&& 31)))), .unset, .unset, .unset, .unset, .unset, .unset, .unset, .unset, .unset, .unset, .unset]) rfl ?_
        refine Wk.iloadN o_L_law_54 rfl ?_
        refine Wk.iconst o_L_law_55 (z := (1 : Int32)) (by decide) ?_
        have J11 : Wk l Z (MoL Z cdC "CdcFifoL6" true) md_L_law 75 [.val (.ref 0), .val (.int sl), .val (.int (if 0 < sl then ((sv (0 : Int32)) &&& (3 : Int32)) else (2 : Int32))), .val (.int (if (1 : Int32) < sl then ((sv (1 : Int32)) &&& (15 : Int32)) else (3 : Int32))), .val (.ref 1), .val (.int (if (if 0 < sl then ((sv (0 : Int32)) &&& (3 : Int32)) else (2 : Int32)) < (2 : Int32) then (4 : Int32) else ((1 : Int32) <<< ((if 0 < sl then ((sv (0 : Int32)) &&& (3 : Int32)) else (2 : Int32)) &&& 31)))), .unset, .unset, .unset, .unset, .unset, .unset, .unset, .unset, .unset, .unset, .unset] [.int (if (if (1 : Int32) < sl then ((sv (1 : Int32)) &&& (15 : Int32)) else (3 : Int32)) < (1 : Int32) then (1 : Int32) else (if (if (if 0 < sl then ((sv (0 : Int32)) &&& (3 : Int32)) else (2 : Int32)) < (2 : Int32) then (4 : Int32) else ((1 : Int32) <<< ((if 0 < sl then ((sv (0 : Int32)) &&& (3 : Int32)) else (2 : Int32)) &&& 31))) < (if (1 : Int32) < sl then ((sv (1 : Int32)) &&& (15 : Int32)) else (3 : Int32)) then (if (if 0 < sl then ((sv (0 : Int32)) &&& (3 : Int32)) else (2 : Int32)) < (2 : Int32) then (4 : Int32) else ((1 : Int32) <<< ((if 0 < sl then ((sv (0 : Int32)) &&& (3 : Int32)) else (2 : Int32)) &&& 31))) else (if (1 : Int32) < sl then ((sv (1 : Int32)) &&& (15 : Int32)) else (3 : Int32))))] (sl, sv, [(1, (F_init (if 0 < sl then ((sv (0 : Int32)) &&& (3 : Int32)) else (2 : Int32)) (if (1 : Int32) < sl then ((sv (1 : Int32)) &&& (15 : Int32)) else (3 : Int32))), (fun _ => 0), (A_init (if 0 < sl then ((sv (0 : Int32)) &&& (3 : Int32)) else (2 : Int32)) (if (1 : Int32) < sl then ((sv (1 : Int32)) &&& (15 : Int32)) else (3 : Int32))), (fun _ _ => 0))]) 2 36 Q := by
          refine Wk.istore o_L_law_75 (Or.inl rfl) (L' := [.val (.ref 0), .val (.int sl), .val (.int (if 0 < sl then ((sv (0 : Int32)) &&& (3 : Int32)) else (2 : Int32))), .val (.int (if (1 : Int32) < sl then ((sv (1 : Int32)) &&& (15 : Int32)) else (3 : Int32))), .val (.ref 1), .val (.int (if (if 0 < sl then ((sv (0 : Int32)) &&& (3 : Int32)) else (2 : Int32)) < (2 : Int32) then (4 : Int32) else ((1 : Int32) <<< ((if 0 < sl then ((sv (0 : Int32)) &&& (3 : Int32)) else (2 : Int32)) &&& 31)))), .val (.int (if (if (1 : Int32) < sl then ((sv (1 : Int32)) &&& (15 : Int32)) else (3 : Int32)) < (1 : Int32) then (1 : Int32) else (if (if (if 0 < sl then ((sv (0 : Int32)) &&& (3 : Int32)) else (2 : Int32)) < (2 : Int32) then (4 : Int32) else ((1 : Int32) <<< ((if 0 < sl then ((sv (0 : Int32)) &&& (3 : Int32)) else (2 : Int32)) &&& 31))) < (if (1 : Int32) < sl then ((sv (1 : Int32)) &&& (15 : Int32)) else (3 : Int32)) then (if (if 0 < sl then ((sv (0 : Int32)) &&& (3 : Int32)) else (2 : Int32)) < (2 : Int32) then (4 : Int32) else ((1 : Int32) <<< ((if 0 < sl then ((sv (0 : Int32)) &&& (3 : Int32)) else (2 : Int32)) &&& 31))) else (if (1 : Int32) < sl then ((sv (1 : Int32)) &&& (15 : Int32)) else (3 : Int32))))), .unset, .unset, .unset, .unset, .unset, .unset, .unset, .unset, .unset, .unset]) rfl ?_
          refine Wk.iloadN o_L_law_77 rfl ?_
          refine Wk.iconst o_L_law_78 (z := (2 : Int32)) (by decide) ?_
          have J13 : Wk l Z (MoL Z cdC "CdcFifoL6" true) md_L_law 89 [.val (.ref 0), .val (.int sl), .val (.int (if 0 < sl then ((sv (0 : Int32)) &&& (3 : Int32)) else (2 : Int32))), .val (.int (if (1 : Int32) < sl then ((sv (1 : Int32)) &&& (15 : Int32)) else (3 : Int32))), .val (.ref 1), .val (.int (if (if 0 < sl then ((sv (0 : Int32)) &&& (3 : Int32)) else (2 : Int32)) < (2 : Int32) then (4 : Int32) else ((1 : Int32) <<< ((if 0 < sl then ((sv (0 : Int32)) &&& (3 : Int32)) else (2 : Int32)) &&& 31)))), .val (.int (if (if (1 : Int32) < sl then ((sv (1 : Int32)) &&& (15 : Int32)) else (3 : Int32)) < (1 : Int32) then (1 : Int32) else (if (if (if 0 < sl then ((sv (0 : Int32)) &&& (3 : Int32)) else (2 : Int32)) < (2 : Int32) then (4 : Int32) else ((1 : Int32) <<< ((if 0 < sl then ((sv (0 : Int32)) &&& (3 : Int32)) else (2 : Int32)) &&& 31))) < (if (1 : Int32) < sl then ((sv (1 : Int32)) &&& (15 : Int32)) else (3 : Int32)) then (if (if 0 < sl then ((sv (0 : Int32)) &&& (3 : Int32)) else (2 : Int32)) < (2 : Int32) then (4 : Int32) else ((1 : Int32) <<< ((if 0 < sl then ((sv (0 : Int32)) &&& (3 : Int32)) else (2 : Int32)) &&& 31))) else (if (1 : Int32) < sl then ((sv (1 : Int32)) &&& (15 : Int32)) else (3 : Int32))))), .unset, .unset, .unset, .unset, .unset, .unset, .unset, .unset, .unset, .unset] [.int (if (if 0 < sl then ((sv (0 : Int32)) &&& (3 : Int32)) else (2 : Int32)) < (2 : Int32) then (3 : Int32) else ((if 0 < sl then ((sv (0 : Int32)) &&& (3 : Int32)) else (2 : Int32)) + (1 : Int32)))] (sl, sv, [(1, (F_init (if 0 < sl then ((sv (0 : Int32)) &&& (3 : Int32)) else (2 : Int32)) (if (1 : Int32) < sl then ((sv (1 : Int32)) &&& (15 : Int32)) else (3 : Int32))), (fun _ => 0), (A_init (if 0 < sl then ((sv (0 : Int32)) &&& (3 : Int32)) else (2 : Int32)) (if (1 : Int32) < sl then ((sv (1 : Int32)) &&& (15 : Int32)) else (3 : Int32))), (fun _ _ => 0))]) 2 36 Q := by
            refine Wk.istore o_L_law_89 (Or.inl rfl) (L' := [.val (.ref 0), .val (.int sl), .val (.int (if 0 < sl then ((sv (0 : Int32)) &&& (3 : Int32)) else (2 : Int32))), .val (.int (if (1 : Int32) < sl then ((sv (1 : Int32)) &&& (15 : Int32)) else (3 : Int32))), .val (.ref 1), .val (.int (if (if 0 < sl then ((sv (0 : Int32)) &&& (3 : Int32)) else (2 : Int32)) < (2 : Int32) then (4 : Int32) else ((1 : Int32) <<< ((if 0 < sl then ((sv (0 : Int32)) &&& (3 : Int32)) else (2 : Int32)) &&& 31)))), .val (.int (if (if (1 : Int32) < sl then ((sv (1 : Int32)) &&& (15 : Int32)) else (3 : Int32)) < (1 : Int32) then (1 : Int32) else (if (if (if 0 < sl then ((sv (0 : Int32)) &&& (3 : Int32)) else (2 : Int32)) < (2 : Int32) then (4 : Int32) else ((1 : Int32) <<< ((if 0 < sl then ((sv (0 : Int32)) &&& (3 : Int32)) else (2 : Int32)) &&& 31))) < (if (1 : Int32) < sl then ((sv (1 : Int32)) &&& (15 : Int32)) else (3 : Int32)) then (if (if 0 < sl then ((sv (0 : Int32)) &&& (3 : Int32)) else (2 : Int32)) < (2 : Int32) then (4 : Int32) else ((1 : Int32) <<< ((if 0 < sl then ((sv (0 : Int32)) &&& (3 : Int32)) else (2 : Int32)) &&& 31))) else (if (1 : Int32) < sl then ((sv (1 : Int32)) &&& (15 : Int32)) else (3 : Int32))))), .val (.int (if (if 0 < sl then ((sv (0 : Int32)) &&& (3 : Int32)) else (2 : Int32)) < (2 : Int32) then (3 : Int32) else ((if 0 < sl then ((sv (0 : Int32)) &&& (3 : Int32)) else (2 : Int32)) + (1 : Int32)))), .unset, .unset, .unset, .unset, .unset, .unset, .unset, .unset, .unset]) rfl ?_
            refine Wk.aload o_L_law_91 rfl ?_
            refine Wk.iconst o_L_law_93 (z := (0 : Int32)) (by decide) ?_
            refine Wk.callLF (coC H) [.int (0 : Int32)] 0 [] (i' := 1) (H.w 74 rfl) (cv_getConfig H) o_L_law_94 (run_getConfig H (F_init (if 0 < sl then ((sv (0 : Int32)) &&& (3 : Int32)) else (2 : Int32)) (if (1 : Int32) < sl then ((sv (1 : Int32)) &&& (15 : Int32)) else (3 : Int32))) (fun _ => 0) (A_init (if 0 < sl then ((sv (0 : Int32)) &&& (3 : Int32)) else (2 : Int32)) (if (1 : Int32) < sl then ((sv (1 : Int32)) &&& (15 : Int32)) else (3 : Int32))) (fun _ _ => 0) (0 : Int32)) (wt := 0) (cu' := 2) (su' := 36) (by decide) trivial rfl rfl rfl rfl rfl rfl rfl rfl rfl rfl (ws' := [(1, (F_init (if 0 < sl then ((sv (0 : Int32)) &&& (3 : Int32)) else (2 : Int32)) (if (1 : Int32) < sl then ((sv (1 : Int32)) &&& (15 : Int32)) else (3 : Int32))), (fun _ => 0), (A_init (if 0 < sl then ((sv (0 : Int32)) &&& (3 : Int32)) else (2 : Int32)) (if (1 : Int32) < sl then ((sv (1 : Int32)) &&& (15 : Int32)) else (3 : Int32))), (fun _ _ => 0))]) rfl ?_
            refine Wk.iload o_L_law_97 rfl ?_
            refine Wk.icmp_ne o_L_law_99 (fun q => absurd h15 q) (fun q14 => ?_)
            refine Wk.aload o_L_law_102 rfl ?_
            refine Wk.iconst o_L_law_104 (z := (1 : Int32)) (by decide) ?_
            refine Wk.callLF (coC H) [.int (1 : Int32)] 0 [] (i' := 1) (H.w 74 rfl) (cv_getConfig H) o_L_law_105 (run_getConfig H (F_init (if 0 < sl then ((sv (0 : Int32)) &&& (3 : Int32)) else (2 : Int32)) (if (1 : Int32) < sl then ((sv (1 : Int32)) &&& (15 : Int32)) else (3 : Int32))) (fun _ => 0) (A_init (if 0 < sl then ((sv (0 : Int32)) &&& (3 : Int32)) else (2 : Int32)) (if (1 : Int32) < sl then ((sv (1 : Int32)) &&& (15 : Int32)) else (3 : Int32))) (fun _ _ => 0) (1 : Int32)) (wt := 0) (cu' := 2) (su' := 36) (by decide) trivial rfl rfl rfl rfl rfl rfl rfl rfl rfl rfl (ws' := [(1, (F_init (if 0 < sl then ((sv (0 : Int32)) &&& (3 : Int32)) else (2 : Int32)) (if (1 : Int32) < sl then ((sv (1 : Int32)) &&& (15 : Int32)) else (3 : Int32))), (fun _ => 0), (A_init (if 0 < sl then ((sv (0 : Int32)) &&& (3 : Int32)) else (2 : Int32)) (if (1 : Int32) < sl then ((sv (1 : Int32)) &&& (15 : Int32)) else (3 : Int32))), (fun _ _ => 0))]) rfl ?_
            refine Wk.iload o_L_law_108 rfl ?_
            refine Wk.icmp_ne o_L_law_110 (fun q => absurd h17 q) (fun q16 => ?_)
            refine Wk.aload o_L_law_113 rfl ?_
            refine Wk.iconst o_L_law_115 (z := (2 : Int32)) (by decide) ?_
            refine Wk.callLF (coC H) [.int (2 : Int32)] 0 [] (i' := 1) (H.w 74 rfl) (cv_getConfig H) o_L_law_116 (run_getConfig H (F_init (if 0 < sl then ((sv (0 : Int32)) &&& (3 : Int32)) else (2 : Int32)) (if (1 : Int32) < sl then ((sv (1 : Int32)) &&& (15 : Int32)) else (3 : Int32))) (fun _ => 0) (A_init (if 0 < sl then ((sv (0 : Int32)) &&& (3 : Int32)) else (2 : Int32)) (if (1 : Int32) < sl then ((sv (1 : Int32)) &&& (15 : Int32)) else (3 : Int32))) (fun _ _ => 0) (2 : Int32)) (wt := 0) (cu' := 2) (su' := 36) (by decide) trivial rfl rfl rfl rfl rfl rfl rfl rfl rfl rfl (ws' := [(1, (F_init (if 0 < sl then ((sv (0 : Int32)) &&& (3 : Int32)) else (2 : Int32)) (if (1 : Int32) < sl then ((sv (1 : Int32)) &&& (15 : Int32)) else (3 : Int32))), (fun _ => 0), (A_init (if 0 < sl then ((sv (0 : Int32)) &&& (3 : Int32)) else (2 : Int32)) (if (1 : Int32) < sl then ((sv (1 : Int32)) &&& (15 : Int32)) else (3 : Int32))), (fun _ _ => 0))]) rfl ?_
            refine Wk.iload o_L_law_119 rfl ?_
            refine Wk.icmp_eq o_L_law_121 (fun q18 => ?_) (fun q => absurd h19 q)
            refine Wk.iconst o_L_law_126 (z := (0 : Int32)) (by decide) ?_
            refine Wk.istore o_L_law_127 (Or.inl rfl) (L' := [.val (.ref 0), .val (.int sl), .val (.int (if 0 < sl then ((sv (0 : Int32)) &&& (3 : Int32)) else (2 : Int32))), .val (.int (if (1 : Int32) < sl then ((sv (1 : Int32)) &&& (15 : Int32)) else (3 : Int32))), .val (.ref 1), .val (.int (if (if 0 < sl then ((sv (0 : Int32)) &&& (3 : Int32)) else (2 : Int32)) < (2 : Int32) then (4 : Int32) else ((1 : Int32) <<< ((if 0 < sl then ((sv (0 : Int32)) &&& (3 : Int32)) else (2 : Int32)) &&& 31)))), .val (.int (if (if (1 : Int32) < sl then ((sv (1 : Int32)) &&& (15 : Int32)) else (3 : Int32)) < (1 : Int32) then (1 : Int32) else (if (if (if 0 < sl then ((sv (0 : Int32)) &&& (3 : Int32)) else (2 : Int32)) < (2 : Int32) then (4 : Int32) else ((1 : Int32) <<< ((if 0 < sl then ((sv (0 : Int32)) &&& (3 : Int32)) else (2 : Int32)) &&& 31))) < (if (1 : Int32) < sl then ((sv (1 : Int32)) &&& (15 : Int32)) else (3 : Int32)) then (if (if 0 < sl then ((sv (0 : Int32)) &&& (3 : Int32)) else (2 : Int32)) < (2 : Int32) then (4 : Int32) else ((1 : Int32) <<< ((if 0 < sl then ((sv (0 : Int32)) &&& (3 : Int32)) else (2 : Int32)) &&& 31))) else (if (1 : Int32) < sl then ((sv (1 : Int32)) &&& (15 : Int32)) else (3 : Int32))))), .val (.int (if (if 0 < sl then ((sv (0 : Int32)) &&& (3 : Int32)) else (2 : Int32)) < (2 : Int32) then (3 : Int32) else ((if 0 < sl then ((sv (0 : Int32)) &&& (3 : Int32)) else (2 : Int32)) + (1 : Int32)))), .val (.int (0 : Int32)), .unset, .unset, .unset, .unset, .unset, .unset, .unset, .unset]) rfl ?_
            refine Wk.iconst o_L_law_129 (z := (0 : Int32)) (by decide) ?_
            refine Wk.istore o_L_law_130 (Or.inl rfl) (L' := [.val (.ref 0), .val (.int sl), .val (.int (if 0 < sl then ((sv (0 : Int32)) &&& (3 : Int32)) else (2 : Int32))), .val (.int (if (1 : Int32) < sl then ((sv (1 : Int32)) &&& (15 : Int32)) else (3 : Int32))), .val (.ref 1), .val (.int (if (if 0 < sl then ((sv (0 : Int32)) &&& (3 : Int32)) else (2 : Int32)) < (2 : Int32) then (4 : Int32) else ((1 : Int32) <<< ((if 0 < sl then ((sv (0 : Int32)) &&& (3 : Int32)) else (2 : Int32)) &&& 31)))), .val (.int (if (if (1 : Int32) < sl then ((sv (1 : Int32)) &&& (15 : Int32)) else (3 : Int32)) < (1 : Int32) then (1 : Int32) else (if (if (if 0 < sl then ((sv (0 : Int32)) &&& (3 : Int32)) else (2 : Int32)) < (2 : Int32) then (4 : Int32) else ((1 : Int32) <<< ((if 0 < sl then ((sv (0 : Int32)) &&& (3 : Int32)) else (2 : Int32)) &&& 31))) < (if (1 : Int32) < sl then ((sv (1 : Int32)) &&& (15 : Int32)) else (3 : Int32)) then (if (if 0 < sl then ((sv (0 : Int32)) &&& (3 : Int32)) else (2 : Int32)) < (2 : Int32) then (4 : Int32) else ((1 : Int32) <<< ((if 0 < sl then ((sv (0 : Int32)) &&& (3 : Int32)) else (2 : Int32)) &&& 31))) else (if (1 : Int32) < sl then ((sv (1 : Int32)) &&& (15 : Int32)) else (3 : Int32))))), .val (.int (if (if 0 < sl then ((sv (0 : Int32)) &&& (3 : Int32)) else (2 : Int32)) < (2 : Int32) then (3 : Int32) else ((if 0 < sl then ((sv (0 : Int32)) &&& (3 : Int32)) else (2 : Int32)) + (1 : Int32)))), .val (.int (0 : Int32)), .val (.int (0 : Int32)), .unset, .unset, .unset, .unset, .unset, .unset, .unset]) rfl ?_
            refine Wk.iconst o_L_law_132 (z := (0 : Int32)) (by decide) ?_
            refine Wk.istore o_L_law_133 (Or.inl rfl) (L' := [.val (.ref 0), .val (.int sl), .val (.int (if 0 < sl then ((sv (0 : Int32)) &&& (3 : Int32)) else (2 : Int32))), .val (.int (if (1 : Int32) < sl then ((sv (1 : Int32)) &&& (15 : Int32)) else (3 : Int32))), .val (.ref 1), .val (.int (if (if 0 < sl then ((sv (0 : Int32)) &&& (3 : Int32)) else (2 : Int32)) < (2 : Int32) then (4 : Int32) else ((1 : Int32) <<< ((if 0 < sl then ((sv (0 : Int32)) &&& (3 : Int32)) else (2 : Int32)) &&& 31)))), .val (.int (if (if (1 : Int32) < sl then ((sv (1 : Int32)) &&& (15 : Int32)) else (3 : Int32)) < (1 : Int32) then (1 : Int32) else (if (if (if 0 < sl then ((sv (0 : Int32)) &&& (3 : Int32)) else (2 : Int32)) < (2 : Int32) then (4 : Int32) else ((1 : Int32) <<< ((if 0 < sl then ((sv (0 : Int32)) &&& (3 : Int32)) else (2 : Int32)) &&& 31))) < (if (1 : Int32) < sl then ((sv (1 : Int32)) &&& (15 : Int32)) else (3 : Int32)) then (if (if 0 < sl then ((sv (0 : Int32)) &&& (3 : Int32)) else (2 : Int32)) < (2 : Int32) then (4 : Int32) else ((1 : Int32) <<< ((if 0 < sl then ((sv (0 : Int32)) &&& (3 : Int32)) else (2 : Int32)) &&& 31))) else (if (1 : Int32) < sl then ((sv (1 : Int32)) &&& (15 : Int32)) else (3 : Int32))))), .val (.int (if (if 0 < sl then ((sv (0 : Int32)) &&& (3 : Int32)) else (2 : Int32)) < (2 : Int32) then (3 : Int32) else ((if 0 < sl then ((sv (0 : Int32)) &&& (3 : Int32)) else (2 : Int32)) + (1 : Int32)))), .val (.int (0 : Int32)), .val (.int (0 : Int32)), .val (.int (0 : Int32)), .unset, .unset, .unset, .unset, .unset, .unset]) rfl ?_
            refine Wk.aload o_L_law_135 rfl ?_
            refine Wk.iload o_L_law_137 rfl ?_
            refine Wk.iload o_L_law_139 rfl ?_
            refine Wk.iload o_L_law_141 rfl ?_
            refine Wk.iload o_L_law_143 rfl ?_
            refine Wk.iload o_L_law_145 rfl ?_
            refine Wk.callSF mtL [.ref 1, .int (0 : Int32), .int (0 : Int32), .int (0 : Int32), .int (if (if 0 < sl then ((sv (0 : Int32)) &&& (3 : Int32)) else (2 : Int32)) < (2 : Int32) then (4 : Int32) else ((1 : Int32) <<< ((if 0 < sl then ((sv (0 : Int32)) &&& (3 : Int32)) else (2 : Int32)) &&& 31))), .int (if (if (1 : Int32) < sl then ((sv (1 : Int32)) &&& (15 : Int32)) else (3 : Int32)) < (1 : Int32) then (1 : Int32) else (if (if (if 0 < sl then ((sv (0 : Int32)) &&& (3 : Int32)) else (2 : Int32)) < (2 : Int32) then (4 : Int32) else ((1 : Int32) <<< ((if 0 < sl then ((sv (0 : Int32)) &&& (3 : Int32)) else (2 : Int32)) &&& 31))) < (if (1 : Int32) < sl then ((sv (1 : Int32)) &&& (15 : Int32)) else (3 : Int32)) then (if (if 0 < sl then ((sv (0 : Int32)) &&& (3 : Int32)) else (2 : Int32)) < (2 : Int32) then (4 : Int32) else ((1 : Int32) <<< ((if 0 < sl then ((sv (0 : Int32)) &&& (3 : Int32)) else (2 : Int32)) &&& 31))) else (if (1 : Int32) < sl then ((sv (1 : Int32)) &&& (15 : Int32)) else (3 : Int32))))] [] (H.w 79 rfl) (cv_L_check H) o_L_law_147 (run_L_check H sl sv (F_init (if 0 < sl then ((sv (0 : Int32)) &&& (3 : Int32)) else (2 : Int32)) (if (1 : Int32) < sl then ((sv (1 : Int32)) &&& (15 : Int32)) else (3 : Int32))) (fun _ => 0) (A_init (if 0 < sl then ((sv (0 : Int32)) &&& (3 : Int32)) else (2 : Int32)) (if (1 : Int32) < sl then ((sv (1 : Int32)) &&& (15 : Int32)) else (3 : Int32))) (fun _ _ => 0) (0 : Int32) (0 : Int32) (0 : Int32) (if (if 0 < sl then ((sv (0 : Int32)) &&& (3 : Int32)) else (2 : Int32)) < (2 : Int32) then (4 : Int32) else ((1 : Int32) <<< ((if 0 < sl then ((sv (0 : Int32)) &&& (3 : Int32)) else (2 : Int32)) &&& 31))) (if (if (1 : Int32) < sl then ((sv (1 : Int32)) &&& (15 : Int32)) else (3 : Int32)) < (1 : Int32) then (1 : Int32) else (if (if (if 0 < sl then ((sv (0 : Int32)) &&& (3 : Int32)) else (2 : Int32)) < (2 : Int32) then (4 : Int32) else ((1 : Int32) <<< ((if 0 < sl then ((sv (0 : Int32)) &&& (3 : Int32)) else (2 : Int32)) &&& 31))) < (if (1 : Int32) < sl then ((sv (1 : Int32)) &&& (15 : Int32)) else (3 : Int32)) then (if (if 0 < sl then ((sv (0 : Int32)) &&& (3 : Int32)) else (2 : Int32)) < (2 : Int32) then (4 : Int32) else ((1 : Int32) <<< ((if 0 < sl then ((sv (0 : Int32)) &&& (3 : Int32)) else (2 : Int32)) &&& 31))) else (if (1 : Int32) < sl then ((sv (1 : Int32)) &&& (15 : Int32)) else (3 : Int32))))) (wt := 0) (cu' := 2) (su' := 36) (by decide) rfl rfl (al_L_check _ _ _ _ _ _) rfl rfl rfl ?_
            refine Wk.if_ne o_L_law_150 (fun q20 => ?_) (fun q => absurd q h21)
            refine Wk.iconst o_L_law_155 (z := (2 : Int32)) (by decide) ?_
            refine Wk.istore o_L_law_156 (Or.inl rfl) (L' := [.val (.ref 0), .val (.int sl), .val (.int (if 0 < sl then ((sv (0 : Int32)) &&& (3 : Int32)) else (2 : Int32))), .val (.int (if (1 : Int32) < sl then ((sv (1 : Int32)) &&& (15 : Int32)) else (3 : Int32))), .val (.ref 1), .val (.int (if (if 0 < sl then ((sv (0 : Int32)) &&& (3 : Int32)) else (2 : Int32)) < (2 : Int32) then (4 : Int32) else ((1 : Int32) <<< ((if 0 < sl then ((sv (0 : Int32)) &&& (3 : Int32)) else (2 : Int32)) &&& 31)))), .val (.int (if (if (1 : Int32) < sl then ((sv (1 : Int32)) &&& (15 : Int32)) else (3 : Int32)) < (1 : Int32) then (1 : Int32) else (if (if (if 0 < sl then ((sv (0 : Int32)) &&& (3 : Int32)) else (2 : Int32)) < (2 : Int32) then (4 : Int32) else ((1 : Int32) <<< ((if 0 < sl then ((sv (0 : Int32)) &&& (3 : Int32)) else (2 : Int32)) &&& 31))) < (if (1 : Int32) < sl then ((sv (1 : Int32)) &&& (15 : Int32)) else (3 : Int32)) then (if (if 0 < sl then ((sv (0 : Int32)) &&& (3 : Int32)) else (2 : Int32)) < (2 : Int32) then (4 : Int32) else ((1 : Int32) <<< ((if 0 < sl then ((sv (0 : Int32)) &&& (3 : Int32)) else (2 : Int32)) &&& 31))) else (if (1 : Int32) < sl then ((sv (1 : Int32)) &&& (15 : Int32)) else (3 : Int32))))), .val (.int (if (if 0 < sl then ((sv (0 : Int32)) &&& (3 : Int32)) else (2 : Int32)) < (2 : Int32) then (3 : Int32) else ((if 0 < sl then ((sv (0 : Int32)) &&& (3 : Int32)) else (2 : Int32)) + (1 : Int32)))), .val (.int (0 : Int32)), .val (.int (0 : Int32)), .val (.int (0 : Int32)), .val (.int (2 : Int32)), .unset, .unset, .unset, .unset, .unset]) rfl ?_
            refine Wk.forget [false, false, true, true, false, false, false, true, false, false, false, false, false, false, false, false, false] (L' := [.val (.ref 0), .val (.int sl), .unset, .unset, .val (.ref 1), .val (.int (if (if 0 < sl then ((sv (0 : Int32)) &&& (3 : Int32)) else (2 : Int32)) < (2 : Int32) then (4 : Int32) else ((1 : Int32) <<< ((if 0 < sl then ((sv (0 : Int32)) &&& (3 : Int32)) else (2 : Int32)) &&& 31)))), .val (.int (if (if (1 : Int32) < sl then ((sv (1 : Int32)) &&& (15 : Int32)) else (3 : Int32)) < (1 : Int32) then (1 : Int32) else (if (if (if 0 < sl then ((sv (0 : Int32)) &&& (3 : Int32)) else (2 : Int32)) < (2 : Int32) then (4 : Int32) else ((1 : Int32) <<< ((if 0 < sl then ((sv (0 : Int32)) &&& (3 : Int32)) else (2 : Int32)) &&& 31))) < (if (1 : Int32) < sl then ((sv (1 : Int32)) &&& (15 : Int32)) else (3 : Int32)) then (if (if 0 < sl then ((sv (0 : Int32)) &&& (3 : Int32)) else (2 : Int32)) < (2 : Int32) then (4 : Int32) else ((1 : Int32) <<< ((if 0 < sl then ((sv (0 : Int32)) &&& (3 : Int32)) else (2 : Int32)) &&& 31))) else (if (1 : Int32) < sl then ((sv (1 : Int32)) &&& (15 : Int32)) else (3 : Int32))))), .unset, .val (.int (0 : Int32)), .val (.int (0 : Int32)), .val (.int (0 : Int32)), .val (.int (2 : Int32)), .unset, .unset, .unset, .unset, .unset]) rfl rfl ?_
            exact h22
          refine Wk.icmp_ge o_L_law_79 (fun q12 => ?_) (fun q12 => ?_)
          · refine Wk.iloadN o_L_law_86 rfl ?_
            refine Wk.iconst o_L_law_87 (z := (1 : Int32)) (by decide) ?_
            refine Wk.iadd o_L_law_88 ?_
            first | (rw [show ((if (if 0 < sl then ((sv (0 : Int32)) &&& (3 : Int32)) else (2 : Int32)) < (2 : Int32) then (3 : Int32) else ((if 0 < sl then ((sv (0 : Int32)) &&& (3 : Int32)) else (2 : Int32)) + (1 : Int32))) : Int32) = ((if 0 < sl then ((sv (0 : Int32)) &&& (3 : Int32)) else (2 : Int32)) + (1 : Int32)) from if_neg q12] at J13; exact J13) | exact J13 | (simp only [if_neg q12] at J13 ⊢; exact J13)
          · refine Wk.iconst o_L_law_82 (z := (3 : Int32)) (by decide) ?_
            refine Wk.goto o_L_law_83 ?_
            first | (rw [show ((if (if 0 < sl then ((sv (0 : Int32)) &&& (3 : Int32)) else (2 : Int32)) < (2 : Int32) then (3 : Int32) else ((if 0 < sl then ((sv (0 : Int32)) &&& (3 : Int32)) else (2 : Int32)) + (1 : Int32))) : Int32) = (3 : Int32) from if_pos q12] at J13; exact J13) | exact J13 | (simp only [if_pos q12] at J13 ⊢; exact J13)
        refine Wk.icmp_ge o_L_law_56 (fun q8 => ?_) (fun q8 => ?_)
        · refine Wk.iloadN o_L_law_63 rfl ?_
          refine Wk.iload o_L_law_64 rfl ?_
          refine Wk.icmp_le o_L_law_66 (fun q9 => ?_) (fun q9 => ?_)
          · refine Wk.iloadN o_L_law_74 rfl ?_
            first | (rw [show ((if (if (1 : Int32) < sl then ((sv (1 : Int32)) &&& (15 : Int32)) else (3 : Int32)) < (1 : Int32) then (1 : Int32) else (if (if (if 0 < sl then ((sv (0 : Int32)) &&& (3 : Int32)) else (2 : Int32)) < (2 : Int32) then (4 : Int32) else ((1 : Int32) <<< ((if 0 < sl then ((sv (0 : Int32)) &&& (3 : Int32)) else (2 : Int32)) &&& 31))) < (if (1 : Int32) < sl then ((sv (1 : Int32)) &&& (15 : Int32)) else (3 : Int32)) then (if (if 0 < sl then ((sv (0 : Int32)) &&& (3 : Int32)) else (2 : Int32)) < (2 : Int32) then (4 : Int32) else ((1 : Int32) <<< ((if 0 < sl then ((sv (0 : Int32)) &&& (3 : Int32)) else (2 : Int32)) &&& 31))) else (if (1 : Int32) < sl then ((sv (1 : Int32)) &&& (15 : Int32)) else (3 : Int32)))) : Int32) = (if (1 : Int32) < sl then ((sv (1 : Int32)) &&& (15 : Int32)) else (3 : Int32)) from Eq.trans (if_neg q8) <| if_neg q9] at J11; exact J11) | exact J11 | (simp only [if_neg q8, if_neg q9] at J11 ⊢; exact J11)
          · refine Wk.iload o_L_law_69 rfl ?_
            refine Wk.goto o_L_law_71 ?_
            first | (rw [show ((if (if (1 : Int32) < sl then ((sv (1 : Int32)) &&& (15 : Int32)) else (3 : Int32)) < (1 : Int32) then (1 : Int32) else (if (if (if 0 < sl then ((sv (0 : Int32)) &&& (3 : Int32)) else (2 : Int32)) < (2 : Int32) then (4 : Int32) else ((1 : Int32) <<< ((if 0 < sl then ((sv (0 : Int32)) &&& (3 : Int32)) else (2 : Int32)) &&& 31))) < (if (1 : Int32) < sl then ((sv (1 : Int32)) &&& (15 : Int32)) else (3 : Int32)) then (if (if 0 < sl then ((sv (0 : Int32)) &&& (3 : Int32)) else (2 : Int32)) < (2 : Int32) then (4 : Int32) else ((1 : Int32) <<< ((if 0 < sl then ((sv (0 : Int32)) &&& (3 : Int32)) else (2 : Int32)) &&& 31))) else (if (1 : Int32) < sl then ((sv (1 : Int32)) &&& (15 : Int32)) else (3 : Int32)))) : Int32) = (if (if 0 < sl then ((sv (0 : Int32)) &&& (3 : Int32)) else (2 : Int32)) < (2 : Int32) then (4 : Int32) else ((1 : Int32) <<< ((if 0 < sl then ((sv (0 : Int32)) &&& (3 : Int32)) else (2 : Int32)) &&& 31))) from Eq.trans (if_neg q8) <| if_pos q9] at J11; exact J11) | exact J11 | (simp only [if_neg q8, if_pos q9] at J11 ⊢; exact J11)
        · refine Wk.iconst o_L_law_59 (z := (1 : Int32)) (by decide) ?_
          refine Wk.goto o_L_law_60 ?_
          first | (rw [show ((if (if (1 : Int32) < sl then ((sv (1 : Int32)) &&& (15 : Int32)) else (3 : Int32)) < (1 : Int32) then (1 : Int32) else (if (if (if 0 < sl then ((sv (0 : Int32)) &&& (3 : Int32)) else (2 : Int32)) < (2 : Int32) then (4 : Int32) else ((1 : Int32) <<< ((if 0 < sl then ((sv (0 : Int32)) &&& (3 : Int32)) else (2 : Int32)) &&& 31))) < (if (1 : Int32) < sl then ((sv (1 : Int32)) &&& (15 : Int32)) else (3 : Int32)) then (if (if 0 < sl then ((sv (0 : Int32)) &&& (3 : Int32)) else (2 : Int32)) < (2 : Int32) then (4 : Int32) else ((1 : Int32) <<< ((if 0 < sl then ((sv (0 : Int32)) &&& (3 : Int32)) else (2 : Int32)) &&& 31))) else (if (1 : Int32) < sl then ((sv (1 : Int32)) &&& (15 : Int32)) else (3 : Int32)))) : Int32) = (1 : Int32) from if_pos q8] at J11; exact J11) | exact J11 | (simp only [if_pos q8] at J11 ⊢; exact J11)
      refine Wk.icmp_ge o_L_law_42 (fun q6 => ?_) (fun q6 => ?_)
      · refine Wk.iconst o_L_law_49 (z := (1 : Int32)) (by decide) ?_
        refine Wk.iloadN o_L_law_50 rfl ?_
        refine Wk.ishl o_L_law_51 ?_
        first | (rw [show ((if (if 0 < sl then ((sv (0 : Int32)) &&& (3 : Int32)) else (2 : Int32)) < (2 : Int32) then (4 : Int32) else ((1 : Int32) <<< ((if 0 < sl then ((sv (0 : Int32)) &&& (3 : Int32)) else (2 : Int32)) &&& 31))) : Int32) = ((1 : Int32) <<< ((if 0 < sl then ((sv (0 : Int32)) &&& (3 : Int32)) else (2 : Int32)) &&& 31)) from if_neg q6] at J7; exact J7) | exact J7 | (simp only [if_neg q6] at J7 ⊢; exact J7)
      · refine Wk.iconst o_L_law_45 (z := (4 : Int32)) (by decide) ?_
        refine Wk.goto o_L_law_46 ?_
        first | (rw [show ((if (if 0 < sl then ((sv (0 : Int32)) &&& (3 : Int32)) else (2 : Int32)) < (2 : Int32) then (4 : Int32) else ((1 : Int32) <<< ((if 0 < sl then ((sv (0 : Int32)) &&& (3 : Int32)) else (2 : Int32)) &&& 31))) : Int32) = (4 : Int32) from if_pos q6] at J7; exact J7) | exact J7 | (simp only [if_pos q6] at J7 ⊢; exact J7)
    refine Wk.icmp_le o_L_law_19 (fun q4 => ?_) (fun q4 => ?_)
    · first | (rw [show ((if (1 : Int32) < sl then ((sv (1 : Int32)) &&& (15 : Int32)) else (3 : Int32)) : Int32) = (3 : Int32) from if_neg q4] at J5; exact J5) | exact J5 | (simp only [if_neg q4] at J5 ⊢; exact J5)
    · refine Wk.aloadN o_L_law_22 rfl ?_
      refine Wk.iconst o_L_law_23 (z := (1 : Int32)) (by decide) ?_
      refine Wk.ialoadL (by decide) q4 o_L_law_24 ?_
      refine Wk.bipush o_L_law_25 (z := (15 : Int32)) (by decide) ?_
      refine Wk.iand o_L_law_27 ?_
      refine Wk.istoreN o_L_law_28 (Or.inr ⟨_, rfl, rfl⟩) (L' := [.val (.ref 0), .val (.int sl), .val (.int (if 0 < sl then ((sv (0 : Int32)) &&& (3 : Int32)) else (2 : Int32))), .val (.int ((sv (1 : Int32)) &&& (15 : Int32))), .unset, .unset, .unset, .unset, .unset, .unset, .unset, .unset, .unset, .unset, .unset, .unset, .unset]) rfl ?_
      first | (rw [show ((if (1 : Int32) < sl then ((sv (1 : Int32)) &&& (15 : Int32)) else (3 : Int32)) : Int32) = ((sv (1 : Int32)) &&& (15 : Int32)) from if_pos q4] at J5; exact J5) | exact J5 | (simp only [if_pos q4] at J5 ⊢; exact J5)
  refine Wk.if_le o_L_law_8 (fun q1 => ?_) (fun q1 => ?_)
  · first | (rw [show ((if 0 < sl then ((sv (0 : Int32)) &&& (3 : Int32)) else (2 : Int32)) : Int32) = (2 : Int32) from if_neg q1] at J3; exact J3) | exact J3 | (simp only [if_neg q1] at J3 ⊢; exact J3)
  · refine Wk.aloadN o_L_law_11 rfl ?_
    refine Wk.iconst o_L_law_12 (z := (0 : Int32)) (by decide) ?_
    refine Wk.ialoadL (by decide) (s2 q1) o_L_law_13 ?_
    refine Wk.iconst o_L_law_14 (z := (3 : Int32)) (by decide) ?_
    refine Wk.iand o_L_law_15 ?_
    refine Wk.istoreN o_L_law_16 (Or.inr ⟨_, rfl, rfl⟩) (L' := [.val (.ref 0), .val (.int sl), .val (.int ((sv (0 : Int32)) &&& (3 : Int32))), .val (.int (3 : Int32)), .unset, .unset, .unset, .unset, .unset, .unset, .unset, .unset, .unset, .unset, .unset, .unset, .unset]) rfl ?_
    first | (rw [show ((if 0 < sl then ((sv (0 : Int32)) &&& (3 : Int32)) else (2 : Int32)) : Int32) = ((sv (0 : Int32)) &&& (3 : Int32)) from if_pos q1] at J3; exact J3) | exact J3 | (simp only [if_pos q1] at J3 ⊢; exact J3)

set_option maxRecDepth 65536 in
set_option maxHeartbeats 4000000 in
theorem wp_L_law_158 {l : Launch} {Z : State} {a0 : Array Value} (H : OK Z a0) (sl : Int32) (sv : Int32 → Int32) (F1 : Nat → Int32) (G1 : Nat → Int64) (A1 : Nat → Int32 → Int32) (B1 : Nat → Int32 → Int64) (v1 : Int32) (v5 : Int32) (v6 : Int32) (v8 : Int32) (v9 : Int32) (v10 : Int32) (v11 : Int32) {Q : Option Value → WL → Prop} (h2 : ¬ (v11 + (2 : Int32)) < v1 → Q (some (.int (1 : Int32))) (sl, sv, [(1, F1, G1, A1, B1)])) (s3 : (v11 + (2 : Int32)) < v1 → ¬ v11 < 0) (s4 : (v11 + (2 : Int32)) < v1 → v11 < sl) (s5 : (v11 + (2 : Int32)) < v1 → ¬ (v11 + (1 : Int32)) < 0) (s6 : (v11 + (2 : Int32)) < v1 → (v11 + (1 : Int32)) < sl) (s9 : (v11 + (2 : Int32)) < v1 → ¬ (v11 + (2 : Int32)) < 0) (s10 : (v11 + (2 : Int32)) < v1 → (v11 + (2 : Int32)) < sl) (h15 : (v11 + (2 : Int32)) < v1 → ¬ ((sv v11) &&& (15 : Int32)) < (7 : Int32) → ¬ ((sv v11) &&& (15 : Int32)) < (14 : Int32) → ¬ ((sv v11) &&& (15 : Int32)) = (14 : Int32) → ¬ (f_L_check (F_reset F1) (A_reset A1) (0 : Int32) (0 : Int32) (0 : Int32) v5 v6) = 0) (h16 : (v11 + (2 : Int32)) < v1 → ¬ ((sv v11) &&& (15 : Int32)) < (7 : Int32) → ¬ ((sv v11) &&& (15 : Int32)) < (14 : Int32) → ¬ ((sv v11) &&& (15 : Int32)) = (14 : Int32) → Wk l Z (MoL Z cdC "CdcFifoL6" true) md_L_law 158 [.val (.ref 0), .val (.int v1), .unset, .unset, .val (.ref 1), .val (.int v5), .val (.int v6), .unset, .val (.int (0 : Int32)), .val (.int (0 : Int32)), .val (.int (0 : Int32)), .val (.int (v11 + (3 : Int32))), .unset, .unset, .unset, .unset, .unset] [] (sl, sv, [(1, (F_reset F1), G1, (A_reset A1), B1)]) 2 36 Q) (h18 : (v11 + (2 : Int32)) < v1 → ¬ ((sv v11) &&& (15 : Int32)) < (7 : Int32) → ¬ ((sv v11) &&& (15 : Int32)) < (14 : Int32) → ((sv v11) &&& (15 : Int32)) = (14 : Int32) → (f_writeEdge F1 (0 : Int32) (99 : Int32) (sv (v11 + (2 : Int32)))) = 0) (h20 : (v11 + (2 : Int32)) < v1 → ¬ ((sv v11) &&& (15 : Int32)) < (7 : Int32) → ¬ ((sv v11) &&& (15 : Int32)) < (14 : Int32) → ((sv v11) &&& (15 : Int32)) = (14 : Int32) → (f_readEdge (F_writeEdge F1 (0 : Int32) (99 : Int32) (sv (v11 + (2 : Int32)))) (0 : Int32) (sv (v11 + (2 : Int32)))) = 0) (h22 : (v11 + (2 : Int32)) < v1 → ¬ ((sv v11) &&& (15 : Int32)) < (7 : Int32) → ¬ ((sv v11) &&& (15 : Int32)) < (14 : Int32) → ((sv v11) &&& (15 : Int32)) = (14 : Int32) → ¬ (f_L_check (F_readEdge (F_writeEdge F1 (0 : Int32) (99 : Int32) (sv (v11 + (2 : Int32)))) (A_writeEdge F1 A1 (0 : Int32) (99 : Int32) (sv (v11 + (2 : Int32)))) (0 : Int32) (sv (v11 + (2 : Int32)))) (A_writeEdge F1 A1 (0 : Int32) (99 : Int32) (sv (v11 + (2 : Int32)))) v8 v9 v10 v5 v6) = 0) (h23 : (v11 + (2 : Int32)) < v1 → ¬ ((sv v11) &&& (15 : Int32)) < (7 : Int32) → ¬ ((sv v11) &&& (15 : Int32)) < (14 : Int32) → ((sv v11) &&& (15 : Int32)) = (14 : Int32) → Wk l Z (MoL Z cdC "CdcFifoL6" true) md_L_law 158 [.val (.ref 0), .val (.int v1), .unset, .unset, .val (.ref 1), .val (.int v5), .val (.int v6), .unset, .val (.int v8), .val (.int v9), .val (.int v10), .val (.int (v11 + (3 : Int32))), .unset, .unset, .unset, .unset, .unset] [] (sl, sv, [(1, (F_readEdge (F_writeEdge F1 (0 : Int32) (99 : Int32) (sv (v11 + (2 : Int32)))) (A_writeEdge F1 A1 (0 : Int32) (99 : Int32) (sv (v11 + (2 : Int32)))) (0 : Int32) (sv (v11 + (2 : Int32)))), G1, (A_writeEdge F1 A1 (0 : Int32) (99 : Int32) (sv (v11 + (2 : Int32)))), B1)]) 2 36 Q) (h27 : (v11 + (2 : Int32)) < v1 → ¬ ((sv v11) &&& (15 : Int32)) < (7 : Int32) → ((sv v11) &&& (15 : Int32)) < (14 : Int32) → ¬ (if ((sv (v11 + (1 : Int32))) &&& (7 : Int32)) = 0 then (0 : Int32) else (1 : Int32)) = 0 → (f_isEmpty F1) = 0 → (f_readEdge F1 (if ((sv (v11 + (1 : Int32))) &&& (7 : Int32)) = 0 then (0 : Int32) else (1 : Int32)) (sv (v11 + (2 : Int32)))) = (3 : Int32)) (h29 : (v11 + (2 : Int32)) < v1 → ¬ ((sv v11) &&& (15 : Int32)) < (7 : Int32) → ((sv v11) &&& (15 : Int32)) < (14 : Int32) → ¬ (if ((sv (v11 + (1 : Int32))) &&& (7 : Int32)) = 0 then (0 : Int32) else (1 : Int32)) = 0 → (f_isEmpty F1) = 0 → ¬ (f_L_check (F_readEdge F1 A1 (if ((sv (v11 + (1 : Int32))) &&& (7 : Int32)) = 0 then (0 : Int32) else (1 : Int32)) (sv (v11 + (2 : Int32)))) A1 v8 (v9 + (1 : Int32)) ((v9 * (7 : Int32)) + (3 : Int32)) v5 v6) = 0) (h30 : (v11 + (2 : Int32)) < v1 → ¬ ((sv v11) &&& (15 : Int32)) < (7 : Int32) → ((sv v11) &&& (15 : Int32)) < (14 : Int32) → ¬ (if ((sv (v11 + (1 : Int32))) &&& (7 : Int32)) = 0 then (0 : Int32) else (1 : Int32)) = 0 → (f_isEmpty F1) = 0 → Wk l Z (MoL Z cdC "CdcFifoL6" true) md_L_law 158 [.val (.ref 0), .val (.int v1), .unset, .unset, .val (.ref 1), .val (.int v5), .val (.int v6), .unset, .val (.int v8), .val (.int (v9 + (1 : Int32))), .val (.int ((v9 * (7 : Int32)) + (3 : Int32))), .val (.int (v11 + (3 : Int32))), .unset, .unset, .unset, .unset, .unset] [] (sl, sv, [(1, (F_readEdge F1 A1 (if ((sv (v11 + (1 : Int32))) &&& (7 : Int32)) = 0 then (0 : Int32) else (1 : Int32)) (sv (v11 + (2 : Int32)))), G1, A1, B1)]) 2 36 Q) (h32 : (v11 + (2 : Int32)) < v1 → ¬ ((sv v11) &&& (15 : Int32)) < (7 : Int32) → ((sv v11) &&& (15 : Int32)) < (14 : Int32) → ¬ (if ((sv (v11 + (1 : Int32))) &&& (7 : Int32)) = 0 then (0 : Int32) else (1 : Int32)) = 0 → ¬ (f_isEmpty F1) = 0 → (f_readEdge F1 (if ((sv (v11 + (1 : Int32))) &&& (7 : Int32)) = 0 then (0 : Int32) else (1 : Int32)) (sv (v11 + (2 : Int32)))) = (4 : Int32)) (h34 : (v11 + (2 : Int32)) < v1 → ¬ ((sv v11) &&& (15 : Int32)) < (7 : Int32) → ((sv v11) &&& (15 : Int32)) < (14 : Int32) → ¬ (if ((sv (v11 + (1 : Int32))) &&& (7 : Int32)) = 0 then (0 : Int32) else (1 : Int32)) = 0 → ¬ (f_isEmpty F1) = 0 → ¬ (f_L_check (F_readEdge F1 A1 (if ((sv (v11 + (1 : Int32))) &&& (7 : Int32)) = 0 then (0 : Int32) else (1 : Int32)) (sv (v11 + (2 : Int32)))) A1 v8 v9 v10 v5 v6) = 0) (h35 : (v11 + (2 : Int32)) < v1 → ¬ ((sv v11) &&& (15 : Int32)) < (7 : Int32) → ((sv v11) &&& (15 : Int32)) < (14 : Int32) → ¬ (if ((sv (v11 + (1 : Int32))) &&& (7 : Int32)) = 0 then (0 : Int32) else (1 : Int32)) = 0 → ¬ (f_isEmpty F1) = 0 → Wk l Z (MoL Z cdC "CdcFifoL6" true) md_L_law 158 [.val (.ref 0), .val (.int v1), .unset, .unset, .val (.ref 1), .val (.int v5), .val (.int v6), .unset, .val (.int v8), .val (.int v9), .val (.int v10), .val (.int (v11 + (3 : Int32))), .unset, .unset, .unset, .unset, .unset] [] (sl, sv, [(1, (F_readEdge F1 A1 (if ((sv (v11 + (1 : Int32))) &&& (7 : Int32)) = 0 then (0 : Int32) else (1 : Int32)) (sv (v11 + (2 : Int32)))), G1, A1, B1)]) 2 36 Q) (h37 : (v11 + (2 : Int32)) < v1 → ¬ ((sv v11) &&& (15 : Int32)) < (7 : Int32) → ((sv v11) &&& (15 : Int32)) < (14 : Int32) → (if ((sv (v11 + (1 : Int32))) &&& (7 : Int32)) = 0 then (0 : Int32) else (1 : Int32)) = 0 → (f_readEdge F1 (if ((sv (v11 + (1 : Int32))) &&& (7 : Int32)) = 0 then (0 : Int32) else (1 : Int32)) (sv (v11 + (2 : Int32)))) = 0) (h39 : (v11 + (2 : Int32)) < v1 → ¬ ((sv v11) &&& (15 : Int32)) < (7 : Int32) → ((sv v11) &&& (15 : Int32)) < (14 : Int32) → (if ((sv (v11 + (1 : Int32))) &&& (7 : Int32)) = 0 then (0 : Int32) else (1 : Int32)) = 0 → ¬ (f_L_check (F_readEdge F1 A1 (if ((sv (v11 + (1 : Int32))) &&& (7 : Int32)) = 0 then (0 : Int32) else (1 : Int32)) (sv (v11 + (2 : Int32)))) A1 v8 v9 v10 v5 v6) = 0) (h40 : (v11 + (2 : Int32)) < v1 → ¬ ((sv v11) &&& (15 : Int32)) < (7 : Int32) → ((sv v11) &&& (15 : Int32)) < (14 : Int32) → (if ((sv (v11 + (1 : Int32))) &&& (7 : Int32)) = 0 then (0 : Int32) else (1 : Int32)) = 0 → Wk l Z (MoL Z cdC "CdcFifoL6" true) md_L_law 158 [.val (.ref 0), .val (.int v1), .unset, .unset, .val (.ref 1), .val (.int v5), .val (.int v6), .unset, .val (.int v8), .val (.int v9), .val (.int v10), .val (.int (v11 + (3 : Int32))), .unset, .unset, .unset, .unset, .unset] [] (sl, sv, [(1, (F_readEdge F1 A1 (if ((sv (v11 + (1 : Int32))) &&& (7 : Int32)) = 0 then (0 : Int32) else (1 : Int32)) (sv (v11 + (2 : Int32)))), G1, A1, B1)]) 2 36 Q) (h44 : (v11 + (2 : Int32)) < v1 → ((sv v11) &&& (15 : Int32)) < (7 : Int32) → ¬ (if ((sv (v11 + (1 : Int32))) &&& (7 : Int32)) = 0 then (0 : Int32) else (1 : Int32)) = 0 → (f_isFull F1) = 0 → (f_writeEdge F1 (if ((sv (v11 + (1 : Int32))) &&& (7 : Int32)) = 0 then (0 : Int32) else (1 : Int32)) ((v8 * (7 : Int32)) + (3 : Int32)) (sv (v11 + (2 : Int32)))) = (1 : Int32)) (h46 : (v11 + (2 : Int32)) < v1 → ((sv v11) &&& (15 : Int32)) < (7 : Int32) → ¬ (if ((sv (v11 + (1 : Int32))) &&& (7 : Int32)) = 0 then (0 : Int32) else (1 : Int32)) = 0 → (f_isFull F1) = 0 → ¬ (f_L_check (F_writeEdge F1 (if ((sv (v11 + (1 : Int32))) &&& (7 : Int32)) = 0 then (0 : Int32) else (1 : Int32)) ((v8 * (7 : Int32)) + (3 : Int32)) (sv (v11 + (2 : Int32)))) (A_writeEdge F1 A1 (if ((sv (v11 + (1 : Int32))) &&& (7 : Int32)) = 0 then (0 : Int32) else (1 : Int32)) ((v8 * (7 : Int32)) + (3 : Int32)) (sv (v11 + (2 : Int32)))) (v8 + (1 : Int32)) v9 v10 v5 v6) = 0) (h47 : (v11 + (2 : Int32)) < v1 → ((sv v11) &&& (15 : Int32)) < (7 : Int32) → ¬ (if ((sv (v11 + (1 : Int32))) &&& (7 : Int32)) = 0 then (0 : Int32) else (1 : Int32)) = 0 → (f_isFull F1) = 0 → Wk l Z (MoL Z cdC "CdcFifoL6" true) md_L_law 158 [.val (.ref 0), .val (.int v1), .unset, .unset, .val (.ref 1), .val (.int v5), .val (.int v6), .unset, .val (.int (v8 + (1 : Int32))), .val (.int v9), .val (.int v10), .val (.int (v11 + (3 : Int32))), .unset, .unset, .unset, .unset, .unset] [] (sl, sv, [(1, (F_writeEdge F1 (if ((sv (v11 + (1 : Int32))) &&& (7 : Int32)) = 0 then (0 : Int32) else (1 : Int32)) ((v8 * (7 : Int32)) + (3 : Int32)) (sv (v11 + (2 : Int32)))), G1, (A_writeEdge F1 A1 (if ((sv (v11 + (1 : Int32))) &&& (7 : Int32)) = 0 then (0 : Int32) else (1 : Int32)) ((v8 * (7 : Int32)) + (3 : Int32)) (sv (v11 + (2 : Int32)))), B1)]) 2 36 Q) (h49 : (v11 + (2 : Int32)) < v1 → ((sv v11) &&& (15 : Int32)) < (7 : Int32) → ¬ (if ((sv (v11 + (1 : Int32))) &&& (7 : Int32)) = 0 then (0 : Int32) else (1 : Int32)) = 0 → ¬ (f_isFull F1) = 0 → (f_writeEdge F1 (if ((sv (v11 + (1 : Int32))) &&& (7 : Int32)) = 0 then (0 : Int32) else (1 : Int32)) ((v8 * (7 : Int32)) + (3 : Int32)) (sv (v11 + (2 : Int32)))) = (2 : Int32)) (h51 : (v11 + (2 : Int32)) < v1 → ((sv v11) &&& (15 : Int32)) < (7 : Int32) → ¬ (if ((sv (v11 + (1 : Int32))) &&& (7 : Int32)) = 0 then (0 : Int32) else (1 : Int32)) = 0 → ¬ (f_isFull F1) = 0 → ¬ (f_L_check (F_writeEdge F1 (if ((sv (v11 + (1 : Int32))) &&& (7 : Int32)) = 0 then (0 : Int32) else (1 : Int32)) ((v8 * (7 : Int32)) + (3 : Int32)) (sv (v11 + (2 : Int32)))) (A_writeEdge F1 A1 (if ((sv (v11 + (1 : Int32))) &&& (7 : Int32)) = 0 then (0 : Int32) else (1 : Int32)) ((v8 * (7 : Int32)) + (3 : Int32)) (sv (v11 + (2 : Int32)))) v8 v9 v10 v5 v6) = 0) (h52 : (v11 + (2 : Int32)) < v1 → ((sv v11) &&& (15 : Int32)) < (7 : Int32) → ¬ (if ((sv (v11 + (1 : Int32))) &&& (7 : Int32)) = 0 then (0 : Int32) else (1 : Int32)) = 0 → ¬ (f_isFull F1) = 0 → Wk l Z (MoL Z cdC "CdcFifoL6" true) md_L_law 158 [.val (.ref 0), .val (.int v1), .unset, .unset, .val (.ref 1), .val (.int v5), .val (.int v6), .unset, .val (.int v8), .val (.int v9), .val (.int v10), .val (.int (v11 + (3 : Int32))), .unset, .unset, .unset, .unset, .unset] [] (sl, sv, [(1, (F_writeEdge F1 (if ((sv (v11 + (1 : Int32))) &&& (7 : Int32)) = 0 then (0 : Int32) else (1 : Int32)) ((v8 * (7 : Int32)) + (3 : Int32)) (sv (v11 + (2 : Int32)))), G1, (A_writeEdge F1 A1 (if ((sv (v11 + (1 : Int32))) &&& (7 : Int32)) = 0 then (0 : Int32) else (1 : Int32)) ((v8 * (7 : Int32)) + (3 : Int32)) (sv (v11 + (2 : Int32)))), B1)]) 2 36 Q) (h54 : (v11 + (2 : Int32)) < v1 → ((sv v11) &&& (15 : Int32)) < (7 : Int32) → (if ((sv (v11 + (1 : Int32))) &&& (7 : Int32)) = 0 then (0 : Int32) else (1 : Int32)) = 0 → (f_writeEdge F1 (if ((sv (v11 + (1 : Int32))) &&& (7 : Int32)) = 0 then (0 : Int32) else (1 : Int32)) ((v8 * (7 : Int32)) + (3 : Int32)) (sv (v11 + (2 : Int32)))) = 0) (h56 : (v11 + (2 : Int32)) < v1 → ((sv v11) &&& (15 : Int32)) < (7 : Int32) → (if ((sv (v11 + (1 : Int32))) &&& (7 : Int32)) = 0 then (0 : Int32) else (1 : Int32)) = 0 → ¬ (f_L_check (F_writeEdge F1 (if ((sv (v11 + (1 : Int32))) &&& (7 : Int32)) = 0 then (0 : Int32) else (1 : Int32)) ((v8 * (7 : Int32)) + (3 : Int32)) (sv (v11 + (2 : Int32)))) (A_writeEdge F1 A1 (if ((sv (v11 + (1 : Int32))) &&& (7 : Int32)) = 0 then (0 : Int32) else (1 : Int32)) ((v8 * (7 : Int32)) + (3 : Int32)) (sv (v11 + (2 : Int32)))) v8 v9 v10 v5 v6) = 0) (h57 : (v11 + (2 : Int32)) < v1 → ((sv v11) &&& (15 : Int32)) < (7 : Int32) → (if ((sv (v11 + (1 : Int32))) &&& (7 : Int32)) = 0 then (0 : Int32) else (1 : Int32)) = 0 → Wk l Z (MoL Z cdC "CdcFifoL6" true) md_L_law 158 [.val (.ref 0), .val (.int v1), .unset, .unset, .val (.ref 1), .val (.int v5), .val (.int v6), .unset, .val (.int v8), .val (.int v9), .val (.int v10), .val (.int (v11 + (3 : Int32))), .unset, .unset, .unset, .unset, .unset] [] (sl, sv, [(1, (F_writeEdge F1 (if ((sv (v11 + (1 : Int32))) &&& (7 : Int32)) = 0 then (0 : Int32) else (1 : Int32)) ((v8 * (7 : Int32)) + (3 : Int32)) (sv (v11 + (2 : Int32)))), G1, (A_writeEdge F1 A1 (if ((sv (v11 + (1 : Int32))) &&& (7 : Int32)) = 0 then (0 : Int32) else (1 : Int32)) ((v8 * (7 : Int32)) + (3 : Int32)) (sv (v11 + (2 : Int32)))), B1)]) 2 36 Q) :
    Wk l Z (MoL Z cdC "CdcFifoL6" true) md_L_law 158 [.val (.ref 0), .val (.int v1), .unset, .unset, .val (.ref 1), .val (.int v5), .val (.int v6), .unset, .val (.int v8), .val (.int v9), .val (.int v10), .val (.int v11), .unset, .unset, .unset, .unset, .unset] [] (sl, sv, [(1, F1, G1, A1, B1)]) 2 36 Q := by
  refine Wk.iload o_L_law_158 rfl ?_
  refine Wk.iconst o_L_law_160 (z := (2 : Int32)) (by decide) ?_
  refine Wk.iadd o_L_law_161 ?_
  refine Wk.iloadN o_L_law_162 rfl ?_
  refine Wk.icmp_ge o_L_law_163 (fun q1 => ?_) (fun q1 => ?_)
  · refine Wk.iconst o_L_law_421 (z := (1 : Int32)) (by decide) ?_
    exact Wk.zreturn mrL rfl o_L_law_422 rfl (by decide) (by decide) (y := (1 : Int32)) (by decide) (h2 q1)
  · refine Wk.aloadN o_L_law_166 rfl ?_
    refine Wk.iload o_L_law_167 rfl ?_
    refine Wk.ialoadL (s3 q1) (s4 q1) o_L_law_169 ?_
    refine Wk.bipush o_L_law_170 (z := (15 : Int32)) (by decide) ?_
    refine Wk.iand o_L_law_172 ?_
    refine Wk.istore o_L_law_173 (Or.inl rfl) (L' := [.val (.ref 0), .val (.int v1), .unset, .unset, .val (.ref 1), .val (.int v5), .val (.int v6), .unset, .val (.int v8), .val (.int v9), .val (.int v10), .val (.int v11), .val (.int ((sv v11) &&& (15 : Int32))), .unset, .unset, .unset, .unset]) rfl ?_
    refine Wk.aloadN o_L_law_175 rfl ?_
    refine Wk.iload o_L_law_176 rfl ?_
    refine Wk.iconst o_L_law_178 (z := (1 : Int32)) (by decide) ?_
    refine Wk.iadd o_L_law_179 ?_
    refine Wk.ialoadL (s5 q1) (s6 q1) o_L_law_180 ?_
    refine Wk.bipush o_L_law_181 (z := (7 : Int32)) (by decide) ?_
    refine Wk.iand o_L_law_183 ?_
    have J8 : Wk l Z (MoL Z cdC "CdcFifoL6" true) md_L_law 192 [.val (.ref 0), .val (.int v1), .unset, .unset, .val (.ref 1), .val (.int v5), .val (.int v6), .unset, .val (.int v8), .val (.int v9), .val (.int v10), .val (.int v11), .val (.int ((sv v11) &&& (15 : Int32))), .unset, .unset, .unset, .unset] [.int (if ((sv (v11 + (1 : Int32))) &&& (7 : Int32)) = 0 then (0 : Int32) else (1 : Int32))] (sl, sv, [(1, F1, G1, A1, B1)]) 2 36 Q := by
      refine Wk.istore o_L_law_192 (Or.inl rfl) (L' := [.val (.ref 0), .val (.int v1), .unset, .unset, .val (.ref 1), .val (.int v5), .val (.int v6), .unset, .val (.int v8), .val (.int v9), .val (.int v10), .val (.int v11), .val (.int ((sv v11) &&& (15 : Int32))), .val (.int (if ((sv (v11 + (1 : Int32))) &&& (7 : Int32)) = 0 then (0 : Int32) else (1 : Int32))), .unset, .unset, .unset]) rfl ?_
      refine Wk.aloadN o_L_law_194 rfl ?_
      refine Wk.iload o_L_law_195 rfl ?_
      refine Wk.iconst o_L_law_197 (z := (2 : Int32)) (by decide) ?_
      refine Wk.iadd o_L_law_198 ?_
      refine Wk.ialoadL (s9 q1) (s10 q1) o_L_law_199 ?_
      refine Wk.istore o_L_law_200 (Or.inl rfl) (L' := [.val (.ref 0), .val (.int v1), .unset, .unset, .val (.ref 1), .val (.int v5), .val (.int v6), .unset, .val (.int v8), .val (.int v9), .val (.int v10), .val (.int v11), .val (.int ((sv v11) &&& (15 : Int32))), .val (.int (if ((sv (v11 + (1 : Int32))) &&& (7 : Int32)) = 0 then (0 : Int32) else (1 : Int32))), .val (.int (sv (v11 + (2 : Int32)))), .unset, .unset]) rfl ?_
      refine Wk.iload o_L_law_202 rfl ?_
      refine Wk.bipush o_L_law_204 (z := (7 : Int32)) (by decide) ?_
      refine Wk.icmp_ge o_L_law_206 (fun q11 => ?_) (fun q11 => ?_)
      · refine Wk.iload o_L_law_273 rfl ?_
        refine Wk.bipush o_L_law_275 (z := (14 : Int32)) (by decide) ?_
        refine Wk.icmp_ge o_L_law_277 (fun q12 => ?_) (fun q12 => ?_)
        · refine Wk.iload o_L_law_346 rfl ?_
          refine Wk.bipush o_L_law_348 (z := (14 : Int32)) (by decide) ?_
          refine Wk.icmp_ne o_L_law_350 (fun q13 => ?_) (fun q13 => ?_)
          · refine Wk.aload o_L_law_381 rfl ?_
            refine Wk.callLU (coC H) [] 0 [] (i' := 1) (H.w 206 rfl) (cv_reset H) o_L_law_383 (run_reset H F1 G1 A1 B1) (wt := 0) (cu' := 2) (su' := 36) (by decide) trivial rfl rfl rfl rfl rfl rfl rfl rfl rfl rfl (ws' := [(1, (F_reset F1), G1, (A_reset A1), B1)]) rfl ?_
            refine Wk.iconst o_L_law_386 (z := (0 : Int32)) (by decide) ?_
            refine Wk.istore o_L_law_387 (Or.inr ⟨_, rfl, rfl⟩) (L' := [.val (.ref 0), .val (.int v1), .unset, .unset, .val (.ref 1), .val (.int v5), .val (.int v6), .unset, .val (.int (0 : Int32)), .val (.int v9), .val (.int v10), .val (.int v11), .val (.int ((sv v11) &&& (15 : Int32))), .val (.int (if ((sv (v11 + (1 : Int32))) &&& (7 : Int32)) = 0 then (0 : Int32) else (1 : Int32))), .val (.int (sv (v11 + (2 : Int32)))), .unset, .unset]) rfl ?_
            refine Wk.iconst o_L_law_389 (z := (0 : Int32)) (by decide) ?_
            refine Wk.istore o_L_law_390 (Or.inr ⟨_, rfl, rfl⟩) (L' := [.val (.ref 0), .val (.int v1), .unset, .unset, .val (.ref 1), .val (.int v5), .val (.int v6), .unset, .val (.int (0 : Int32)), .val (.int (0 : Int32)), .val (.int v10), .val (.int v11), .val (.int ((sv v11) &&& (15 : Int32))), .val (.int (if ((sv (v11 + (1 : Int32))) &&& (7 : Int32)) = 0 then (0 : Int32) else (1 : Int32))), .val (.int (sv (v11 + (2 : Int32)))), .unset, .unset]) rfl ?_
            refine Wk.iconst o_L_law_392 (z := (0 : Int32)) (by decide) ?_
            refine Wk.istore o_L_law_393 (Or.inr ⟨_, rfl, rfl⟩) (L' := [.val (.ref 0), .val (.int v1), .unset, .unset, .val (.ref 1), .val (.int v5), .val (.int v6), .unset, .val (.int (0 : Int32)), .val (.int (0 : Int32)), .val (.int (0 : Int32)), .val (.int v11), .val (.int ((sv v11) &&& (15 : Int32))), .val (.int (if ((sv (v11 + (1 : Int32))) &&& (7 : Int32)) = 0 then (0 : Int32) else (1 : Int32))), .val (.int (sv (v11 + (2 : Int32)))), .unset, .unset]) rfl ?_
            refine Wk.aload o_L_law_395 rfl ?_
            refine Wk.iload o_L_law_397 rfl ?_
            refine Wk.iload o_L_law_399 rfl ?_
            refine Wk.iload o_L_law_401 rfl ?_
            refine Wk.iload o_L_law_403 rfl ?_
            refine Wk.iload o_L_law_405 rfl ?_
            refine Wk.callSF mtL [.ref 1, .int (0 : Int32), .int (0 : Int32), .int (0 : Int32), .int v5, .int v6] [] (H.w 79 rfl) (cv_L_check H) o_L_law_407 (run_L_check H sl sv (F_reset F1) G1 (A_reset A1) B1 (0 : Int32) (0 : Int32) (0 : Int32) v5 v6) (wt := 0) (cu' := 2) (su' := 36) (by decide) rfl rfl (al_L_check _ _ _ _ _ _) rfl rfl rfl ?_
            refine Wk.if_ne o_L_law_410 (fun q14 => ?_) (fun q => absurd q (h15 q1 q11 q12 q13))
            refine Wk.iinc o_L_law_415 rfl (z := (v11 + (3 : Int32))) rfl (L' := [.val (.ref 0), .val (.int v1), .unset, .unset, .val (.ref 1), .val (.int v5), .val (.int v6), .unset, .val (.int (0 : Int32)), .val (.int (0 : Int32)), .val (.int (0 : Int32)), .val (.int (v11 + (3 : Int32))), .val (.int ((sv v11) &&& (15 : Int32))), .val (.int (if ((sv (v11 + (1 : Int32))) &&& (7 : Int32)) = 0 then (0 : Int32) else (1 : Int32))), .val (.int (sv (v11 + (2 : Int32)))), .unset, .unset]) rfl ?_
            refine Wk.goto o_L_law_418 ?_
            refine Wk.forget [false, false, false, false, false, false, false, false, false, false, false, false, true, true, true, false, false] (L' := [.val (.ref 0), .val (.int v1), .unset, .unset, .val (.ref 1), .val (.int v5), .val (.int v6), .unset, .val (.int (0 : Int32)), .val (.int (0 : Int32)), .val (.int (0 : Int32)), .val (.int (v11 + (3 : Int32))), .unset, .unset, .unset, .unset, .unset]) rfl rfl ?_
            exact (h16 q1 q11 q12 q13)
          · refine Wk.aload o_L_law_353 rfl ?_
            refine Wk.iconst o_L_law_355 (z := (0 : Int32)) (by decide) ?_
            refine Wk.bipush o_L_law_356 (z := (99 : Int32)) (by decide) ?_
            refine Wk.iload o_L_law_358 rfl ?_
            refine Wk.callLF (coC H) [.int (0 : Int32), .int (99 : Int32), .int (sv (v11 + (2 : Int32)))] 0 [] (i' := 1) (H.w 160 rfl) (cv_writeEdge H) o_L_law_360 (run_writeEdge H F1 G1 A1 B1 (0 : Int32) (99 : Int32) (sv (v11 + (2 : Int32)))) (wt := 0) (cu' := 2) (su' := 36) (by decide) trivial rfl rfl rfl rfl rfl rfl rfl rfl rfl rfl (ws' := [(1, (F_writeEdge F1 (0 : Int32) (99 : Int32) (sv (v11 + (2 : Int32)))), G1, (A_writeEdge F1 A1 (0 : Int32) (99 : Int32) (sv (v11 + (2 : Int32)))), B1)]) rfl ?_
            refine Wk.if_eq o_L_law_363 (fun q17 => ?_) (fun q => absurd (h18 q1 q11 q12 q13) q)
            refine Wk.aload o_L_law_368 rfl ?_
            refine Wk.iconst o_L_law_370 (z := (0 : Int32)) (by decide) ?_
            refine Wk.iload o_L_law_371 rfl ?_
            refine Wk.callLF (coC H) [.int (0 : Int32), .int (sv (v11 + (2 : Int32)))] 0 [] (i' := 1) (H.w 193 rfl) (cv_readEdge H) o_L_law_373 (run_readEdge H (F_writeEdge F1 (0 : Int32) (99 : Int32) (sv (v11 + (2 : Int32)))) G1 (A_writeEdge F1 A1 (0 : Int32) (99 : Int32) (sv (v11 + (2 : Int32)))) B1 (0 : Int32) (sv (v11 + (2 : Int32)))) (wt := 0) (cu' := 2) (su' := 36) (by decide) trivial rfl rfl rfl rfl rfl rfl rfl rfl rfl rfl (ws' := [(1, (F_readEdge (F_writeEdge F1 (0 : Int32) (99 : Int32) (sv (v11 + (2 : Int32)))) (A_writeEdge F1 A1 (0 : Int32) (99 : Int32) (sv (v11 + (2 : Int32)))) (0 : Int32) (sv (v11 + (2 : Int32)))), G1, (A_writeEdge F1 A1 (0 : Int32) (99 : Int32) (sv (v11 + (2 : Int32)))), B1)]) rfl ?_
            refine Wk.if_eq o_L_law_376 (fun q19 => ?_) (fun q => absurd (h20 q1 q11 q12 q13) q)
            refine Wk.aload o_L_law_395 rfl ?_
            refine Wk.iload o_L_law_397 rfl ?_
            refine Wk.iload o_L_law_399 rfl ?_
            refine Wk.iload o_L_law_401 rfl ?_
            refine Wk.iload o_L_law_403 rfl ?_
            refine Wk.iload o_L_law_405 rfl ?_
            refine Wk.callSF mtL [.ref 1, .int v8, .int v9, .int v10, .int v5, .int v6] [] (H.w 79 rfl) (cv_L_check H) o_L_law_407 (run_L_check H sl sv (F_readEdge (F_writeEdge F1 (0 : Int32) (99 : Int32) (sv (v11 + (2 : Int32)))) (A_writeEdge F1 A1 (0 : Int32) (99 : Int32) (sv (v11 + (2 : Int32)))) (0 : Int32) (sv (v11 + (2 : Int32)))) G1 (A_writeEdge F1 A1 (0 : Int32) (99 : Int32) (sv (v11 + (2 : Int32)))) B1 v8 v9 v10 v5 v6) (wt := 0) (cu' := 2) (su' := 36) (by decide) rfl rfl (al_L_check _ _ _ _ _ _) rfl rfl rfl ?_
            refine Wk.if_ne o_L_law_410 (fun q21 => ?_) (fun q => absurd q (h22 q1 q11 q12 q13))
            refine Wk.iinc o_L_law_415 rfl (z := (v11 + (3 : Int32))) rfl (L' := [.val (.ref 0), .val (.int v1), .unset, .unset, .val (.ref 1), .val (.int v5), .val (.int v6), .unset, .val (.int v8), .val (.int v9), .val (.int v10), .val (.int (v11 + (3 : Int32))), .val (.int ((sv v11) &&& (15 : Int32))), .val (.int (if ((sv (v11 + (1 : Int32))) &&& (7 : Int32)) = 0 then (0 : Int32) else (1 : Int32))), .val (.int (sv (v11 + (2 : Int32)))), .unset, .unset]) rfl ?_
            refine Wk.goto o_L_law_418 ?_
            refine Wk.forget [false, false, false, false, false, false, false, false, false, false, false, false, true, true, true, false, false] (L' := [.val (.ref 0), .val (.int v1), .unset, .unset, .val (.ref 1), .val (.int v5), .val (.int v6), .unset, .val (.int v8), .val (.int v9), .val (.int v10), .val (.int (v11 + (3 : Int32))), .unset, .unset, .unset, .unset, .unset]) rfl rfl ?_
            exact (h23 q1 q11 q12 q13)
        · refine Wk.aload o_L_law_280 rfl ?_
          refine Wk.callLF (coC H) [] 0 [] (i' := 1) (H.w 141 rfl) (cv_isEmpty H) o_L_law_282 (run_isEmpty H F1 G1 A1 B1) (wt := 0) (cu' := 2) (su' := 36) (by decide) trivial rfl rfl rfl rfl rfl rfl rfl rfl rfl rfl (ws' := [(1, F1, G1, A1, B1)]) rfl ?_
          refine Wk.istore o_L_law_285 (Or.inl rfl) (L' := [.val (.ref 0), .val (.int v1), .unset, .unset, .val (.ref 1), .val (.int v5), .val (.int v6), .unset, .val (.int v8), .val (.int v9), .val (.int v10), .val (.int v11), .val (.int ((sv v11) &&& (15 : Int32))), .val (.int (if ((sv (v11 + (1 : Int32))) &&& (7 : Int32)) = 0 then (0 : Int32) else (1 : Int32))), .val (.int (sv (v11 + (2 : Int32)))), .val (.int (f_isEmpty F1)), .unset]) rfl ?_
          refine Wk.aload o_L_law_287 rfl ?_
          refine Wk.iload o_L_law_289 rfl ?_
          refine Wk.iload o_L_law_291 rfl ?_
          refine Wk.callLF (coC H) [.int (if ((sv (v11 + (1 : Int32))) &&& (7 : Int32)) = 0 then (0 : Int32) else (1 : Int32)), .int (sv (v11 + (2 : Int32)))] 0 [] (i' := 1) (H.w 193 rfl) (cv_readEdge H) o_L_law_293 (run_readEdge H F1 G1 A1 B1 (if ((sv (v11 + (1 : Int32))) &&& (7 : Int32)) = 0 then (0 : Int32) else (1 : Int32)) (sv (v11 + (2 : Int32)))) (wt := 0) (cu' := 2) (su' := 36) (by decide) trivial rfl rfl rfl rfl rfl rfl rfl rfl rfl rfl (ws' := [(1, (F_readEdge F1 A1 (if ((sv (v11 + (1 : Int32))) &&& (7 : Int32)) = 0 then (0 : Int32) else (1 : Int32)) (sv (v11 + (2 : Int32)))), G1, A1, B1)]) rfl ?_
          refine Wk.istore o_L_law_296 (Or.inl rfl) (L' := [.val (.ref 0), .val (.int v1), .unset, .unset, .val (.ref 1), .val (.int v5), .val (.int v6), .unset, .val (.int v8), .val (.int v9), .val (.int v10), .val (.int v11), .val (.int ((sv v11) &&& (15 : Int32))), .val (.int (if ((sv (v11 + (1 : Int32))) &&& (7 : Int32)) = 0 then (0 : Int32) else (1 : Int32))), .val (.int (sv (v11 + (2 : Int32)))), .val (.int (f_isEmpty F1)), .val (.int (f_readEdge F1 (if ((sv (v11 + (1 : Int32))) &&& (7 : Int32)) = 0 then (0 : Int32) else (1 : Int32)) (sv (v11 + (2 : Int32)))))]) rfl ?_
          refine Wk.iload o_L_law_298 rfl ?_
          refine Wk.if_ne o_L_law_300 (fun q24 => ?_) (fun q24 => ?_)
          · refine Wk.iload o_L_law_310 rfl ?_
            refine Wk.if_eq o_L_law_312 (fun q25 => ?_) (fun q25 => ?_)
            · refine Wk.iload o_L_law_323 rfl ?_
              refine Wk.iconst o_L_law_325 (z := (3 : Int32)) (by decide) ?_
              refine Wk.icmp_eq o_L_law_326 (fun q26 => ?_) (fun q => absurd (h27 q1 q11 q12 q24 q25) q)
              refine Wk.iload o_L_law_331 rfl ?_
              refine Wk.bipush o_L_law_333 (z := (7 : Int32)) (by decide) ?_
              refine Wk.imul o_L_law_335 ?_
              refine Wk.iconst o_L_law_336 (z := (3 : Int32)) (by decide) ?_
              refine Wk.iadd o_L_law_337 ?_
              refine Wk.istore o_L_law_338 (Or.inr ⟨_, rfl, rfl⟩) (L' := [.val (.ref 0), .val (.int v1), .unset, .unset, .val (.ref 1), .val (.int v5), .val (.int v6), .unset, .val (.int v8), .val (.int v9), .val (.int ((v9 * (7 : Int32)) + (3 : Int32))), .val (.int v11), .val (.int ((sv v11) &&& (15 : Int32))), .val (.int (if ((sv (v11 + (1 : Int32))) &&& (7 : Int32)) = 0 then (0 : Int32) else (1 : Int32))), .val (.int (sv (v11 + (2 : Int32)))), .val (.int (f_isEmpty F1)), .val (.int (f_readEdge F1 (if ((sv (v11 + (1 : Int32))) &&& (7 : Int32)) = 0 then (0 : Int32) else (1 : Int32)) (sv (v11 + (2 : Int32)))))]) rfl ?_
              refine Wk.iinc o_L_law_340 rfl (z := (v9 + (1 : Int32))) rfl (L' := [.val (.ref 0), .val (.int v1), .unset, .unset, .val (.ref 1), .val (.int v5), .val (.int v6), .unset, .val (.int v8), .val (.int (v9 + (1 : Int32))), .val (.int ((v9 * (7 : Int32)) + (3 : Int32))), .val (.int v11), .val (.int ((sv v11) &&& (15 : Int32))), .val (.int (if ((sv (v11 + (1 : Int32))) &&& (7 : Int32)) = 0 then (0 : Int32) else (1 : Int32))), .val (.int (sv (v11 + (2 : Int32)))), .val (.int (f_isEmpty F1)), .val (.int (f_readEdge F1 (if ((sv (v11 + (1 : Int32))) &&& (7 : Int32)) = 0 then (0 : Int32) else (1 : Int32)) (sv (v11 + (2 : Int32)))))]) rfl ?_
              refine Wk.goto o_L_law_343 ?_
              refine Wk.aload o_L_law_395 rfl ?_
              refine Wk.iload o_L_law_397 rfl ?_
              refine Wk.iload o_L_law_399 rfl ?_
              refine Wk.iload o_L_law_401 rfl ?_
              refine Wk.iload o_L_law_403 rfl ?_
              refine Wk.iload o_L_law_405 rfl ?_
              refine Wk.callSF mtL [.ref 1, .int v8, .int (v9 + (1 : Int32)), .int ((v9 * (7 : Int32)) + (3 : Int32)), .int v5, .int v6] [] (H.w 79 rfl) (cv_L_check H) o_L_law_407 (run_L_check H sl sv (F_readEdge F1 A1 (if ((sv (v11 + (1 : Int32))) &&& (7 : Int32)) = 0 then (0 : Int32) else (1 : Int32)) (sv (v11 + (2 : Int32)))) G1 A1 B1 v8 (v9 + (1 : Int32)) ((v9 * (7 : Int32)) + (3 : Int32)) v5 v6) (wt := 0) (cu' := 2) (su' := 36) (by decide) rfl rfl (al_L_check _ _ _ _ _ _) rfl rfl rfl ?_
              refine Wk.if_ne o_L_law_410 (fun q28 => ?_) (fun q => absurd q (h29 q1 q11 q12 q24 q25))
              refine Wk.iinc o_L_law_415 rfl (z := (v11 + (3 : Int32))) rfl (L' := [.val (.ref 0), .val (.int v1), .unset, .unset, .val (.ref 1), .val (.int v5), .val (.int v6), .unset, .val (.int v8), .val (.int (v9 + (1 : Int32))), .val (.int ((v9 * (7 : Int32)) + (3 : Int32))), .val (.int (v11 + (3 : Int32))), .val (.int ((sv v11) &&& (15 : Int32))), .val (.int (if ((sv (v11 + (1 : Int32))) &&& (7 : Int32)) = 0 then (0 : Int32) else (1 : Int32))), .val (.int (sv (v11 + (2 : Int32)))), .val (.int (f_isEmpty F1)), .val (.int (f_readEdge F1 (if ((sv (v11 + (1 : Int32))) &&& (7 : Int32)) = 0 then (0 : Int32) else (1 : Int32)) (sv (v11 + (2 : Int32)))))]) rfl ?_
              refine Wk.goto o_L_law_418 ?_
              refine Wk.forget [false, false, false, false, false, false, false, false, false, false, false, false, true, true, true, true, true] (L' := [.val (.ref 0), .val (.int v1), .unset, .unset, .val (.ref 1), .val (.int v5), .val (.int v6), .unset, .val (.int v8), .val (.int (v9 + (1 : Int32))), .val (.int ((v9 * (7 : Int32)) + (3 : Int32))), .val (.int (v11 + (3 : Int32))), .unset, .unset, .unset, .unset, .unset]) rfl rfl ?_
              exact (h30 q1 q11 q12 q24 q25)
            · refine Wk.iload o_L_law_315 rfl ?_
              refine Wk.iconst o_L_law_317 (z := (4 : Int32)) (by decide) ?_
              refine Wk.icmp_eq o_L_law_318 (fun q31 => ?_) (fun q => absurd (h32 q1 q11 q12 q24 q25) q)
              refine Wk.goto o_L_law_343 ?_
              refine Wk.aload o_L_law_395 rfl ?_
              refine Wk.iload o_L_law_397 rfl ?_
              refine Wk.iload o_L_law_399 rfl ?_
              refine Wk.iload o_L_law_401 rfl ?_
              refine Wk.iload o_L_law_403 rfl ?_
              refine Wk.iload o_L_law_405 rfl ?_
              refine Wk.callSF mtL [.ref 1, .int v8, .int v9, .int v10, .int v5, .int v6] [] (H.w 79 rfl) (cv_L_check H) o_L_law_407 (run_L_check H sl sv (F_readEdge F1 A1 (if ((sv (v11 + (1 : Int32))) &&& (7 : Int32)) = 0 then (0 : Int32) else (1 : Int32)) (sv (v11 + (2 : Int32)))) G1 A1 B1 v8 v9 v10 v5 v6) (wt := 0) (cu' := 2) (su' := 36) (by decide) rfl rfl (al_L_check _ _ _ _ _ _) rfl rfl rfl ?_
              refine Wk.if_ne o_L_law_410 (fun q33 => ?_) (fun q => absurd q (h34 q1 q11 q12 q24 q25))
              refine Wk.iinc o_L_law_415 rfl (z := (v11 + (3 : Int32))) rfl (L' := [.val (.ref 0), .val (.int v1), .unset, .unset, .val (.ref 1), .val (.int v5), .val (.int v6), .unset, .val (.int v8), .val (.int v9), .val (.int v10), .val (.int (v11 + (3 : Int32))), .val (.int ((sv v11) &&& (15 : Int32))), .val (.int (if ((sv (v11 + (1 : Int32))) &&& (7 : Int32)) = 0 then (0 : Int32) else (1 : Int32))), .val (.int (sv (v11 + (2 : Int32)))), .val (.int (f_isEmpty F1)), .val (.int (f_readEdge F1 (if ((sv (v11 + (1 : Int32))) &&& (7 : Int32)) = 0 then (0 : Int32) else (1 : Int32)) (sv (v11 + (2 : Int32)))))]) rfl ?_
              refine Wk.goto o_L_law_418 ?_
              refine Wk.forget [false, false, false, false, false, false, false, false, false, false, false, false, true, true, true, true, true] (L' := [.val (.ref 0), .val (.int v1), .unset, .unset, .val (.ref 1), .val (.int v5), .val (.int v6), .unset, .val (.int v8), .val (.int v9), .val (.int v10), .val (.int (v11 + (3 : Int32))), .unset, .unset, .unset, .unset, .unset]) rfl rfl ?_
              exact (h35 q1 q11 q12 q24 q25)
          · refine Wk.iload o_L_law_303 rfl ?_
            refine Wk.if_eq o_L_law_305 (fun q36 => ?_) (fun q => absurd (h37 q1 q11 q12 q24) q)
            refine Wk.goto o_L_law_343 ?_
            refine Wk.aload o_L_law_395 rfl ?_
            refine Wk.iload o_L_law_397 rfl ?_
            refine Wk.iload o_L_law_399 rfl ?_
            refine Wk.iload o_L_law_401 rfl ?_
            refine Wk.iload o_L_law_403 rfl ?_
            refine Wk.iload o_L_law_405 rfl ?_
            refine Wk.callSF mtL [.ref 1, .int v8, .int v9, .int v10, .int v5, .int v6] [] (H.w 79 rfl) (cv_L_check H) o_L_law_407 (run_L_check H sl sv (F_readEdge F1 A1 (if ((sv (v11 + (1 : Int32))) &&& (7 : Int32)) = 0 then (0 : Int32) else (1 : Int32)) (sv (v11 + (2 : Int32)))) G1 A1 B1 v8 v9 v10 v5 v6) (wt := 0) (cu' := 2) (su' := 36) (by decide) rfl rfl (al_L_check _ _ _ _ _ _) rfl rfl rfl ?_
            refine Wk.if_ne o_L_law_410 (fun q38 => ?_) (fun q => absurd q (h39 q1 q11 q12 q24))
            refine Wk.iinc o_L_law_415 rfl (z := (v11 + (3 : Int32))) rfl (L' := [.val (.ref 0), .val (.int v1), .unset, .unset, .val (.ref 1), .val (.int v5), .val (.int v6), .unset, .val (.int v8), .val (.int v9), .val (.int v10), .val (.int (v11 + (3 : Int32))), .val (.int ((sv v11) &&& (15 : Int32))), .val (.int (if ((sv (v11 + (1 : Int32))) &&& (7 : Int32)) = 0 then (0 : Int32) else (1 : Int32))), .val (.int (sv (v11 + (2 : Int32)))), .val (.int (f_isEmpty F1)), .val (.int (f_readEdge F1 (if ((sv (v11 + (1 : Int32))) &&& (7 : Int32)) = 0 then (0 : Int32) else (1 : Int32)) (sv (v11 + (2 : Int32)))))]) rfl ?_
            refine Wk.goto o_L_law_418 ?_
            refine Wk.forget [false, false, false, false, false, false, false, false, false, false, false, false, true, true, true, true, true] (L' := [.val (.ref 0), .val (.int v1), .unset, .unset, .val (.ref 1), .val (.int v5), .val (.int v6), .unset, .val (.int v8), .val (.int v9), .val (.int v10), .val (.int (v11 + (3 : Int32))), .unset, .unset, .unset, .unset, .unset]) rfl rfl ?_
            exact (h40 q1 q11 q12 q24)
      · refine Wk.aload o_L_law_209 rfl ?_
        refine Wk.callLF (coC H) [] 0 [] (i' := 1) (H.w 132 rfl) (cv_isFull H) o_L_law_211 (run_isFull H F1 G1 A1 B1) (wt := 0) (cu' := 2) (su' := 36) (by decide) trivial rfl rfl rfl rfl rfl rfl rfl rfl rfl rfl (ws' := [(1, F1, G1, A1, B1)]) rfl ?_
        refine Wk.istore o_L_law_214 (Or.inl rfl) (L' := [.val (.ref 0), .val (.int v1), .unset, .unset, .val (.ref 1), .val (.int v5), .val (.int v6), .unset, .val (.int v8), .val (.int v9), .val (.int v10), .val (.int v11), .val (.int ((sv v11) &&& (15 : Int32))), .val (.int (if ((sv (v11 + (1 : Int32))) &&& (7 : Int32)) = 0 then (0 : Int32) else (1 : Int32))), .val (.int (sv (v11 + (2 : Int32)))), .val (.int (f_isFull F1)), .unset]) rfl ?_
        refine Wk.aload o_L_law_216 rfl ?_
        refine Wk.iload o_L_law_218 rfl ?_
        refine Wk.iload o_L_law_220 rfl ?_
        refine Wk.bipush o_L_law_222 (z := (7 : Int32)) (by decide) ?_
        refine Wk.imul o_L_law_224 ?_
        refine Wk.iconst o_L_law_225 (z := (3 : Int32)) (by decide) ?_
        refine Wk.iadd o_L_law_226 ?_
        refine Wk.iload o_L_law_227 rfl ?_
        refine Wk.callLF (coC H) [.int (if ((sv (v11 + (1 : Int32))) &&& (7 : Int32)) = 0 then (0 : Int32) else (1 : Int32)), .int ((v8 * (7 : Int32)) + (3 : Int32)), .int (sv (v11 + (2 : Int32)))] 0 [] (i' := 1) (H.w 160 rfl) (cv_writeEdge H) o_L_law_229 (run_writeEdge H F1 G1 A1 B1 (if ((sv (v11 + (1 : Int32))) &&& (7 : Int32)) = 0 then (0 : Int32) else (1 : Int32)) ((v8 * (7 : Int32)) + (3 : Int32)) (sv (v11 + (2 : Int32)))) (wt := 0) (cu' := 2) (su' := 36) (by decide) trivial rfl rfl rfl rfl rfl rfl rfl rfl rfl rfl (ws' := [(1, (F_writeEdge F1 (if ((sv (v11 + (1 : Int32))) &&& (7 : Int32)) = 0 then (0 : Int32) else (1 : Int32)) ((v8 * (7 : Int32)) + (3 : Int32)) (sv (v11 + (2 : Int32)))), G1, (A_writeEdge F1 A1 (if ((sv (v11 + (1 : Int32))) &&& (7 : Int32)) = 0 then (0 : Int32) else (1 : Int32)) ((v8 * (7 : Int32)) + (3 : Int32)) (sv (v11 + (2 : Int32)))), B1)]) rfl ?_
        refine Wk.istore o_L_law_232 (Or.inl rfl) (L' := [.val (.ref 0), .val (.int v1), .unset, .unset, .val (.ref 1), .val (.int v5), .val (.int v6), .unset, .val (.int v8), .val (.int v9), .val (.int v10), .val (.int v11), .val (.int ((sv v11) &&& (15 : Int32))), .val (.int (if ((sv (v11 + (1 : Int32))) &&& (7 : Int32)) = 0 then (0 : Int32) else (1 : Int32))), .val (.int (sv (v11 + (2 : Int32)))), .val (.int (f_isFull F1)), .val (.int (f_writeEdge F1 (if ((sv (v11 + (1 : Int32))) &&& (7 : Int32)) = 0 then (0 : Int32) else (1 : Int32)) ((v8 * (7 : Int32)) + (3 : Int32)) (sv (v11 + (2 : Int32)))))]) rfl ?_
        refine Wk.iload o_L_law_234 rfl ?_
        refine Wk.if_ne o_L_law_236 (fun q41 => ?_) (fun q41 => ?_)
        · refine Wk.iload o_L_law_246 rfl ?_
          refine Wk.if_eq o_L_law_248 (fun q42 => ?_) (fun q42 => ?_)
          · refine Wk.iload o_L_law_259 rfl ?_
            refine Wk.iconst o_L_law_261 (z := (1 : Int32)) (by decide) ?_
            refine Wk.icmp_eq o_L_law_262 (fun q43 => ?_) (fun q => absurd (h44 q1 q11 q41 q42) q)
            refine Wk.iinc o_L_law_267 rfl (z := (v8 + (1 : Int32))) rfl (L' := [.val (.ref 0), .val (.int v1), .unset, .unset, .val (.ref 1), .val (.int v5), .val (.int v6), .unset, .val (.int (v8 + (1 : Int32))), .val (.int v9), .val (.int v10), .val (.int v11), .val (.int ((sv v11) &&& (15 : Int32))), .val (.int (if ((sv (v11 + (1 : Int32))) &&& (7 : Int32)) = 0 then (0 : Int32) else (1 : Int32))), .val (.int (sv (v11 + (2 : Int32)))), .val (.int (f_isFull F1)), .val (.int (f_writeEdge F1 (if ((sv (v11 + (1 : Int32))) &&& (7 : Int32)) = 0 then (0 : Int32) else (1 : Int32)) ((v8 * (7 : Int32)) + (3 : Int32)) (sv (v11 + (2 : Int32)))))]) rfl ?_
            refine Wk.goto o_L_law_270 ?_
            refine Wk.aload o_L_law_395 rfl ?_
            refine Wk.iload o_L_law_397 rfl ?_
            refine Wk.iload o_L_law_399 rfl ?_
            refine Wk.iload o_L_law_401 rfl ?_
            refine Wk.iload o_L_law_403 rfl ?_
            refine Wk.iload o_L_law_405 rfl ?_
            refine Wk.callSF mtL [.ref 1, .int (v8 + (1 : Int32)), .int v9, .int v10, .int v5, .int v6] [] (H.w 79 rfl) (cv_L_check H) o_L_law_407 (run_L_check H sl sv (F_writeEdge F1 (if ((sv (v11 + (1 : Int32))) &&& (7 : Int32)) = 0 then (0 : Int32) else (1 : Int32)) ((v8 * (7 : Int32)) + (3 : Int32)) (sv (v11 + (2 : Int32)))) G1 (A_writeEdge F1 A1 (if ((sv (v11 + (1 : Int32))) &&& (7 : Int32)) = 0 then (0 : Int32) else (1 : Int32)) ((v8 * (7 : Int32)) + (3 : Int32)) (sv (v11 + (2 : Int32)))) B1 (v8 + (1 : Int32)) v9 v10 v5 v6) (wt := 0) (cu' := 2) (su' := 36) (by decide) rfl rfl (al_L_check _ _ _ _ _ _) rfl rfl rfl ?_
            refine Wk.if_ne o_L_law_410 (fun q45 => ?_) (fun q => absurd q (h46 q1 q11 q41 q42))
            refine Wk.iinc o_L_law_415 rfl (z := (v11 + (3 : Int32))) rfl (L' := [.val (.ref 0), .val (.int v1), .unset, .unset, .val (.ref 1), .val (.int v5), .val (.int v6), .unset, .val (.int (v8 + (1 : Int32))), .val (.int v9), .val (.int v10), .val (.int (v11 + (3 : Int32))), .val (.int ((sv v11) &&& (15 : Int32))), .val (.int (if ((sv (v11 + (1 : Int32))) &&& (7 : Int32)) = 0 then (0 : Int32) else (1 : Int32))), .val (.int (sv (v11 + (2 : Int32)))), .val (.int (f_isFull F1)), .val (.int (f_writeEdge F1 (if ((sv (v11 + (1 : Int32))) &&& (7 : Int32)) = 0 then (0 : Int32) else (1 : Int32)) ((v8 * (7 : Int32)) + (3 : Int32)) (sv (v11 + (2 : Int32)))))]) rfl ?_
            refine Wk.goto o_L_law_418 ?_
            refine Wk.forget [false, false, false, false, false, false, false, false, false, false, false, false, true, true, true, true, true] (L' := [.val (.ref 0), .val (.int v1), .unset, .unset, .val (.ref 1), .val (.int v5), .val (.int v6), .unset, .val (.int (v8 + (1 : Int32))), .val (.int v9), .val (.int v10), .val (.int (v11 + (3 : Int32))), .unset, .unset, .unset, .unset, .unset]) rfl rfl ?_
            exact (h47 q1 q11 q41 q42)
          · refine Wk.iload o_L_law_251 rfl ?_
            refine Wk.iconst o_L_law_253 (z := (2 : Int32)) (by decide) ?_
            refine Wk.icmp_eq o_L_law_254 (fun q48 => ?_) (fun q => absurd (h49 q1 q11 q41 q42) q)
            refine Wk.goto o_L_law_270 ?_
            refine Wk.aload o_L_law_395 rfl ?_
            refine Wk.iload o_L_law_397 rfl ?_
            refine Wk.iload o_L_law_399 rfl ?_
            refine Wk.iload o_L_law_401 rfl ?_
            refine Wk.iload o_L_law_403 rfl ?_
            refine Wk.iload o_L_law_405 rfl ?_
            refine Wk.callSF mtL [.ref 1, .int v8, .int v9, .int v10, .int v5, .int v6] [] (H.w 79 rfl) (cv_L_check H) o_L_law_407 (run_L_check H sl sv (F_writeEdge F1 (if ((sv (v11 + (1 : Int32))) &&& (7 : Int32)) = 0 then (0 : Int32) else (1 : Int32)) ((v8 * (7 : Int32)) + (3 : Int32)) (sv (v11 + (2 : Int32)))) G1 (A_writeEdge F1 A1 (if ((sv (v11 + (1 : Int32))) &&& (7 : Int32)) = 0 then (0 : Int32) else (1 : Int32)) ((v8 * (7 : Int32)) + (3 : Int32)) (sv (v11 + (2 : Int32)))) B1 v8 v9 v10 v5 v6) (wt := 0) (cu' := 2) (su' := 36) (by decide) rfl rfl (al_L_check _ _ _ _ _ _) rfl rfl rfl ?_
            refine Wk.if_ne o_L_law_410 (fun q50 => ?_) (fun q => absurd q (h51 q1 q11 q41 q42))
            refine Wk.iinc o_L_law_415 rfl (z := (v11 + (3 : Int32))) rfl (L' := [.val (.ref 0), .val (.int v1), .unset, .unset, .val (.ref 1), .val (.int v5), .val (.int v6), .unset, .val (.int v8), .val (.int v9), .val (.int v10), .val (.int (v11 + (3 : Int32))), .val (.int ((sv v11) &&& (15 : Int32))), .val (.int (if ((sv (v11 + (1 : Int32))) &&& (7 : Int32)) = 0 then (0 : Int32) else (1 : Int32))), .val (.int (sv (v11 + (2 : Int32)))), .val (.int (f_isFull F1)), .val (.int (f_writeEdge F1 (if ((sv (v11 + (1 : Int32))) &&& (7 : Int32)) = 0 then (0 : Int32) else (1 : Int32)) ((v8 * (7 : Int32)) + (3 : Int32)) (sv (v11 + (2 : Int32)))))]) rfl ?_
            refine Wk.goto o_L_law_418 ?_
            refine Wk.forget [false, false, false, false, false, false, false, false, false, false, false, false, true, true, true, true, true] (L' := [.val (.ref 0), .val (.int v1), .unset, .unset, .val (.ref 1), .val (.int v5), .val (.int v6), .unset, .val (.int v8), .val (.int v9), .val (.int v10), .val (.int (v11 + (3 : Int32))), .unset, .unset, .unset, .unset, .unset]) rfl rfl ?_
            exact (h52 q1 q11 q41 q42)
        · refine Wk.iload o_L_law_239 rfl ?_
          refine Wk.if_eq o_L_law_241 (fun q53 => ?_) (fun q => absurd (h54 q1 q11 q41) q)
          refine Wk.goto o_L_law_270 ?_
          refine Wk.aload o_L_law_395 rfl ?_
          refine Wk.iload o_L_law_397 rfl ?_
          refine Wk.iload o_L_law_399 rfl ?_
          refine Wk.iload o_L_law_401 rfl ?_
          refine Wk.iload o_L_law_403 rfl ?_
          refine Wk.iload o_L_law_405 rfl ?_
          refine Wk.callSF mtL [.ref 1, .int v8, .int v9, .int v10, .int v5, .int v6] [] (H.w 79 rfl) (cv_L_check H) o_L_law_407 (run_L_check H sl sv (F_writeEdge F1 (if ((sv (v11 + (1 : Int32))) &&& (7 : Int32)) = 0 then (0 : Int32) else (1 : Int32)) ((v8 * (7 : Int32)) + (3 : Int32)) (sv (v11 + (2 : Int32)))) G1 (A_writeEdge F1 A1 (if ((sv (v11 + (1 : Int32))) &&& (7 : Int32)) = 0 then (0 : Int32) else (1 : Int32)) ((v8 * (7 : Int32)) + (3 : Int32)) (sv (v11 + (2 : Int32)))) B1 v8 v9 v10 v5 v6) (wt := 0) (cu' := 2) (su' := 36) (by decide) rfl rfl (al_L_check _ _ _ _ _ _) rfl rfl rfl ?_
          refine Wk.if_ne o_L_law_410 (fun q55 => ?_) (fun q => absurd q (h56 q1 q11 q41))
          refine Wk.iinc o_L_law_415 rfl (z := (v11 + (3 : Int32))) rfl (L' := [.val (.ref 0), .val (.int v1), .unset, .unset, .val (.ref 1), .val (.int v5), .val (.int v6), .unset, .val (.int v8), .val (.int v9), .val (.int v10), .val (.int (v11 + (3 : Int32))), .val (.int ((sv v11) &&& (15 : Int32))), .val (.int (if ((sv (v11 + (1 : Int32))) &&& (7 : Int32)) = 0 then (0 : Int32) else (1 : Int32))), .val (.int (sv (v11 + (2 : Int32)))), .val (.int (f_isFull F1)), .val (.int (f_writeEdge F1 (if ((sv (v11 + (1 : Int32))) &&& (7 : Int32)) = 0 then (0 : Int32) else (1 : Int32)) ((v8 * (7 : Int32)) + (3 : Int32)) (sv (v11 + (2 : Int32)))))]) rfl ?_
          refine Wk.goto o_L_law_418 ?_
          refine Wk.forget [false, false, false, false, false, false, false, false, false, false, false, false, true, true, true, true, true] (L' := [.val (.ref 0), .val (.int v1), .unset, .unset, .val (.ref 1), .val (.int v5), .val (.int v6), .unset, .val (.int v8), .val (.int v9), .val (.int v10), .val (.int (v11 + (3 : Int32))), .unset, .unset, .unset, .unset, .unset]) rfl rfl ?_
          exact (h57 q1 q11 q41)
    refine Wk.if_eq o_L_law_184 (fun q7 => ?_) (fun q7 => ?_)
    · refine Wk.iconst o_L_law_191 (z := (0 : Int32)) (by decide) ?_
      first | (rw [show ((if ((sv (v11 + (1 : Int32))) &&& (7 : Int32)) = 0 then (0 : Int32) else (1 : Int32)) : Int32) = (0 : Int32) from if_pos q7] at J8; exact J8) | exact J8 | (simp only [if_pos q7] at J8 ⊢; exact J8)
    · refine Wk.iconst o_L_law_187 (z := (1 : Int32)) (by decide) ?_
      refine Wk.goto o_L_law_188 ?_
      first | (rw [show ((if ((sv (v11 + (1 : Int32))) &&& (7 : Int32)) = 0 then (0 : Int32) else (1 : Int32)) : Int32) = (1 : Int32) from if_neg q7] at J8; exact J8) | exact J8 | (simp only [if_neg q7] at J8 ⊢; exact J8)
theorem scan {σ : Type} (At : Int32 → σ → Prop) (Inv : Int32 → σ → Prop) (sl : Int32) (step : ∀ i s, Inv i s → (∀ j s', i.toInt < j.toInt → j.toInt ≤ sl.toInt → Inv j s' → At j s') → At i s) : ∀ i s, Inv i s → At i s := by
  have key : ∀ (n : Nat) (i : Int32) (s : σ), (sl.toInt - i.toInt).toNat ≤ n → Inv i s → At i s := by
    intro n
    induction n with
    | zero => exact fun i s hn hI => step i s hI fun j s' h1 h2 hJ => absurd h1 (by omega)
    | succ n ih => exact fun i s hn hI => step i s hI fun j s' h1 h2 hJ => ih j s' (by omega) hJ
  exact fun i s h => key _ i s (Nat.le_refl _) h
theorem adv (i sl c : Int32) (k : Nat) (hc : c.toInt = k) (hk : k ≤ 16) (h0 : ¬ i < 0) (h1 : ¬ 260 < i) : (i + c).toInt = i.toInt + k := by
  rw [lt_i] at h0 h1
  have z : (0 : Int32).toInt = 0 := by decide
  have z2 : (260 : Int32).toInt = 260 := by decide
  rw [z] at h0; rw [z2] at h1
  rw [add_toInt (by omega) (by omega), hc]
theorem nn_i {i : Int32} (h : ¬ i < 0) : 0 ≤ i.toInt := by
  rw [lt_i] at h; have z : (0 : Int32).toInt = 0 := by decide
  omega
theorem le_260 {i : Int32} (h : ¬ 260 < i) : i.toInt ≤ 260 := by
  rw [lt_i] at h; have z : (260 : Int32).toInt = 260 := by decide
  omega
theorem i_nn {i : Int32} (h : 0 ≤ i.toInt) : ¬ i < 0 := by
  rw [lt_i]; have z : (0 : Int32).toInt = 0 := by decide
  omega
theorem i_260 {i : Int32} (h : i.toInt ≤ 260) : ¬ 260 < i := by
  rw [lt_i]; have z : (260 : Int32).toInt = 260 := by decide
  omega
/-- i + b < sl, then on by c = b + 1 -/
theorem advS {i sl b c : Int32} (k : Nat) (hb : b.toInt = k) (hc : c.toInt = k + 1) (hk : k ≤ 15) (h0 : ¬ i < 0) (h1 : ¬ 260 < i) (hs : ¬ 260 < sl) (q : i + b < sl) : i.toInt < (i + c).toInt ∧ (i + c).toInt ≤ sl.toInt ∧ ¬ i + c < 0 ∧ ¬ 260 < i + c := by
  have e1 := adv i sl b k hb (by omega) h0 h1
  have e2 := adv i sl c (k + 1) (by rw [hc]; rfl) (by omega) h0 h1
  have a := nn_i h0
  have b' := le_260 hs
  have q' := lt_i.mp q
  refine ⟨by omega, by omega, i_nn (by omega), i_260 (by omega)⟩
/-! the FIFO counted: w words written, r read; the pointers that have come through stand at a1, a2 (write side) and b1, b2 (read side) -/
def gy (x : Int32) : Int32 := x ^^^ XT.ushr x 1
def pt (N n : Nat) : Int32 := Int32.ofNat (n % (2 * N))
def gp (N n : Nat) : Int32 := gy (pt N n)
def CfN (F : Nat → Int32) (N : Nat) : Prop := (N = 4 ∧ F 0 = 4 ∧ F 2 = 3 ∧ F 3 = 8) ∨ (N = 8 ∧ F 0 = 8 ∧ F 2 = 4 ∧ F 3 = 16) ∨ (N = 16 ∧ F 0 = 16 ∧ F 2 = 5 ∧ F 3 = 32)
theorem mod_eq (F : Nat → Int32) (x : Int32) : f_modPointer F x = x &&& (F 3 - 1) := by
  rw [e_modPointer, e_pointerMask]
theorem mod_congr {F F' : Nat → Int32} (h : F' 3 = F 3) (x : Int32) : f_modPointer F' x = f_modPointer F x := by
  rw [mod_eq, mod_eq, h]
theorem gray_congr {F F' : Nat → Int32} (h : F' 3 = F 3) (x : Int32) : f_gray F' x = f_gray F x := by
  rw [e_gray, e_gray, mod_congr h]
theorem sample_congr {F F' : Nat → Int32} (h : F' 3 = F 3) (a b c d : Int32) : f_sample F' a b c d = f_sample F a b c d := by
  rw [e_sample, e_sample, mod_congr h, e_pointerMask, e_pointerMask, h]
theorem dec_congr {F F' : Nat → Int32} (h2 : F' 2 = F 2) (h : F' 3 = F 3) (x : Int32) : f_decode F' x = f_decode F x := by
  rw [e_decode, e_decode, mod_congr h, h2]
theorem cell_congr {F F' : Nat → Int32} (h : F' 0 = F 0) (A : Nat → Int32 → Int32) (x : Int32) : f_readCell F' A x = f_readCell F A x := by
  rw [e_readCell, e_readCell, e_slotOf, e_slotOf, h]
theorem wcell_congr {F F' : Nat → Int32} (h : F' 0 = F 0) (A : Nat → Int32 → Int32) (x y : Int32) : A_writeCell F' A x y = A_writeCell F A x y := by
  rw [eA_writeCell, eA_writeCell, e_slotOf, e_slotOf, h]
theorem ups_n {β : Type} (f : Nat → β) (i j : Nat) (x : β) (h : j ≠ i) : ups f i x j = f j := ups_ne _ _ h
theorem smp0 (F : Nat → Int32) (a b m : Int32) : f_sample F a b 0 m = a := by
  rw [e_sample, if_pos rfl]
theorem bit_and (m b : Int32) (k : Nat) (hb : b.toBitVec = BitVec.twoPow 32 k) : b &&& m = 0 ∨ b &&& m = b := by
  have h : (b &&& m).toBitVec = if m.toBitVec.getLsbD k then BitVec.twoPow 32 k else 0#32 := by
    show b.toBitVec &&& m.toBitVec = _
    rw [BitVec.and_comm, hb, BitVec.and_twoPow]
  cases c : m.toBitVec.getLsbD k with
  | true => right; apply Int32.toBitVec_inj.mp; rw [h, c, hb]; rfl
  | false => left; apply Int32.toBitVec_inj.mp; rw [h, c]; rfl
theorem toN (n : Nat) (h : n < 2147483648) : (Int32.ofNat n).toInt = n := Int32.toInt_ofNat_of_lt (by omega)
theorem on_inj {x y : Nat} (hx : x < 2147483648) (hy : y < 2147483648) : Int32.ofNat x = Int32.ofNat y ↔ x = y :=
  ⟨fun e => by have := congrArg Int32.toInt e; rw [toN _ hx, toN _ hy] at this; omega, fun e => by rw [e]⟩
theorem on_lt {x y : Nat} (hx : x < 2147483648) (hy : y < 2147483648) : Int32.ofNat x < Int32.ofNat y ↔ x < y := by
  rw [lt_i, toN _ hx, toN _ hy]; omega
theorem on_nn {x : Nat} (hx : x < 2147483648) : ¬ Int32.ofNat x < 0 := by
  rw [lt_i, toN _ hx]; have z : (0 : Int32).toInt = 0 := by decide
  omega
theorem on_succ (w : Nat) : Int32.ofNat w + 1 = Int32.ofNat (w + 1) := (Int32.ofNat_add w 1).symm
theorem on_16 {x : Nat} (hx : x < 16) : Int32.ofNat x < 16 := (on_lt (x := x) (y := 16) (by omega) (by decide)).mpr hx
theorem c_dec4 : ∀ k : Fin (2 * 4), decGo (3 : Int32).toInt.toNat (gy (Int32.ofNat k.1) &&& ((8 : Int32) - 1)) (XT.ushr (gy (Int32.ofNat k.1) &&& ((8 : Int32) - 1)) 1) = Int32.ofNat k.1 := by decide +kernel
theorem c_mod4 : ∀ k : Fin (2 * 4), Int32.ofNat k.1 &&& ((8 : Int32) - 1) = Int32.ofNat k.1 := by decide +kernel
theorem c_suc4 : ∀ k : Fin (2 * 4), (Int32.ofNat k.1 + 1) &&& ((8 : Int32) - 1) = Int32.ofNat ((k.1 + 1) % (2 * 4)) := by decide +kernel
theorem c_sub4 : ∀ i j : Fin (2 * 4), (Int32.ofNat i.1 - Int32.ofNat j.1) &&& ((8 : Int32) - 1) = Int32.ofNat ((i.1 + 2 * 4 - j.1) % (2 * 4)) := by decide +kernel
theorem c_slo4 : ∀ k : Fin (2 * 4), Int32.ofNat k.1 &&& ((4 : Int32) - 1) = Int32.ofNat (k.1 % 4) := by decide +kernel
theorem c_slk4 : ∀ (i : Fin (2 * 4)) (k : Fin 17), (Int32.ofNat i.1 + Int32.ofNat k.1) &&& ((4 : Int32) - 1) = Int32.ofNat ((i.1 + k.1) % 4) := by decide +kernel
theorem c_smp4 : ∀ k : Fin (2 * 4), (gy (Int32.ofNat k.1) ^^^ gy (Int32.ofNat ((k.1 + 1) % (2 * 4))) = 1 ∨ gy (Int32.ofNat k.1) ^^^ gy (Int32.ofNat ((k.1 + 1) % (2 * 4))) = 2 ∨ gy (Int32.ofNat k.1) ^^^ gy (Int32.ofNat ((k.1 + 1) % (2 * 4))) = 4 ∨ gy (Int32.ofNat k.1) ^^^ gy (Int32.ofNat ((k.1 + 1) % (2 * 4))) = 8 ∨ gy (Int32.ofNat k.1) ^^^ gy (Int32.ofNat ((k.1 + 1) % (2 * 4))) = 16) ∧
    (gy (Int32.ofNat ((k.1 + 1) % (2 * 4))) ^^^ (0 &&& ((8 : Int32) - 1))) &&& ((8 : Int32) - 1) = gy (Int32.ofNat ((k.1 + 1) % (2 * 4))) ∧
    (gy (Int32.ofNat ((k.1 + 1) % (2 * 4))) ^^^ ((gy (Int32.ofNat k.1) ^^^ gy (Int32.ofNat ((k.1 + 1) % (2 * 4)))) &&& ((8 : Int32) - 1))) &&& ((8 : Int32) - 1) = gy (Int32.ofNat k.1) := by decide +kernel
theorem c_dec8 : ∀ k : Fin (2 * 8), decGo (4 : Int32).toInt.toNat (gy (Int32.ofNat k.1) &&& ((16 : Int32) - 1)) (XT.ushr (gy (Int32.ofNat k.1) &&& ((16 : Int32) - 1)) 1) = Int32.ofNat k.1 := by decide +kernel
theorem c_mod8 : ∀ k : Fin (2 * 8), Int32.ofNat k.1 &&& ((16 : Int32) - 1) = Int32.ofNat k.1 := by decide +kernel
theorem c_suc8 : ∀ k : Fin (2 * 8), (Int32.ofNat k.1 + 1) &&& ((16 : Int32) - 1) = Int32.ofNat ((k.1 + 1) % (2 * 8)) := by decide +kernel
theorem c_sub8 : ∀ i j : Fin (2 * 8), (Int32.ofNat i.1 - Int32.ofNat j.1) &&& ((16 : Int32) - 1) = Int32.ofNat ((i.1 + 2 * 8 - j.1) % (2 * 8)) := by decide +kernel
theorem c_slo8 : ∀ k : Fin (2 * 8), Int32.ofNat k.1 &&& ((8 : Int32) - 1) = Int32.ofNat (k.1 % 8) := by decide +kernel
theorem c_slk8 : ∀ (i : Fin (2 * 8)) (k : Fin 17), (Int32.ofNat i.1 + Int32.ofNat k.1) &&& ((8 : Int32) - 1) = Int32.ofNat ((i.1 + k.1) % 8) := by decide +kernel
theorem c_smp8 : ∀ k : Fin (2 * 8), (gy (Int32.ofNat k.1) ^^^ gy (Int32.ofNat ((k.1 + 1) % (2 * 8))) = 1 ∨ gy (Int32.ofNat k.1) ^^^ gy (Int32.ofNat ((k.1 + 1) % (2 * 8))) = 2 ∨ gy (Int32.ofNat k.1) ^^^ gy (Int32.ofNat ((k.1 + 1) % (2 * 8))) = 4 ∨ gy (Int32.ofNat k.1) ^^^ gy (Int32.ofNat ((k.1 + 1) % (2 * 8))) = 8 ∨ gy (Int32.ofNat k.1) ^^^ gy (Int32.ofNat ((k.1 + 1) % (2 * 8))) = 16) ∧
    (gy (Int32.ofNat ((k.1 + 1) % (2 * 8))) ^^^ (0 &&& ((16 : Int32) - 1))) &&& ((16 : Int32) - 1) = gy (Int32.ofNat ((k.1 + 1) % (2 * 8))) ∧
    (gy (Int32.ofNat ((k.1 + 1) % (2 * 8))) ^^^ ((gy (Int32.ofNat k.1) ^^^ gy (Int32.ofNat ((k.1 + 1) % (2 * 8)))) &&& ((16 : Int32) - 1))) &&& ((16 : Int32) - 1) = gy (Int32.ofNat k.1) := by decide +kernel
theorem c_dec16 : ∀ k : Fin (2 * 16), decGo (5 : Int32).toInt.toNat (gy (Int32.ofNat k.1) &&& ((32 : Int32) - 1)) (XT.ushr (gy (Int32.ofNat k.1) &&& ((32 : Int32) - 1)) 1) = Int32.ofNat k.1 := by decide +kernel
theorem c_mod16 : ∀ k : Fin (2 * 16), Int32.ofNat k.1 &&& ((32 : Int32) - 1) = Int32.ofNat k.1 := by decide +kernel
theorem c_suc16 : ∀ k : Fin (2 * 16), (Int32.ofNat k.1 + 1) &&& ((32 : Int32) - 1) = Int32.ofNat ((k.1 + 1) % (2 * 16)) := by decide +kernel
theorem c_sub16 : ∀ i j : Fin (2 * 16), (Int32.ofNat i.1 - Int32.ofNat j.1) &&& ((32 : Int32) - 1) = Int32.ofNat ((i.1 + 2 * 16 - j.1) % (2 * 16)) := by decide +kernel
theorem c_slo16 : ∀ k : Fin (2 * 16), Int32.ofNat k.1 &&& ((16 : Int32) - 1) = Int32.ofNat (k.1 % 16) := by decide +kernel
theorem c_slk16 : ∀ (i : Fin (2 * 16)) (k : Fin 17), (Int32.ofNat i.1 + Int32.ofNat k.1) &&& ((16 : Int32) - 1) = Int32.ofNat ((i.1 + k.1) % 16) := by decide +kernel
theorem c_smp16 : ∀ k : Fin (2 * 16), (gy (Int32.ofNat k.1) ^^^ gy (Int32.ofNat ((k.1 + 1) % (2 * 16))) = 1 ∨ gy (Int32.ofNat k.1) ^^^ gy (Int32.ofNat ((k.1 + 1) % (2 * 16))) = 2 ∨ gy (Int32.ofNat k.1) ^^^ gy (Int32.ofNat ((k.1 + 1) % (2 * 16))) = 4 ∨ gy (Int32.ofNat k.1) ^^^ gy (Int32.ofNat ((k.1 + 1) % (2 * 16))) = 8 ∨ gy (Int32.ofNat k.1) ^^^ gy (Int32.ofNat ((k.1 + 1) % (2 * 16))) = 16) ∧
    (gy (Int32.ofNat ((k.1 + 1) % (2 * 16))) ^^^ (0 &&& ((32 : Int32) - 1))) &&& ((32 : Int32) - 1) = gy (Int32.ofNat ((k.1 + 1) % (2 * 16))) ∧
    (gy (Int32.ofNat ((k.1 + 1) % (2 * 16))) ^^^ ((gy (Int32.ofNat k.1) ^^^ gy (Int32.ofNat ((k.1 + 1) % (2 * 16)))) &&& ((32 : Int32) - 1))) &&& ((32 : Int32) - 1) = gy (Int32.ofNat k.1) := by decide +kernel
section
variable {F : Nat → Int32} {N : Nat}
theorem N_pos (h : CfN F N) : 0 < N ∧ N ≤ 16 := by
  rcases h with ⟨rfl, _⟩ | ⟨rfl, _⟩ | ⟨rfl, _⟩ <;> decide
theorem F0_N (h : CfN F N) : F 0 = Int32.ofNat N := by
  rcases h with ⟨rfl, h0, h2, h3⟩ | ⟨rfl, h0, h2, h3⟩ | ⟨rfl, h0, h2, h3⟩
  · rw [h0]; rfl
  · rw [h0]; rfl
  · rw [h0]; rfl
theorem dec_pt (h : CfN F N) (n : Nat) : f_decode F (gp N n) = pt N n := by
  rw [e_decode, mod_eq]
  rcases h with ⟨rfl, h0, h2, h3⟩ | ⟨rfl, h0, h2, h3⟩ | ⟨rfl, h0, h2, h3⟩ <;> rw [h2, h3]
  · exact c_dec4 ⟨n % (2 * 4), Nat.mod_lt _ (by decide)⟩
  · exact c_dec8 ⟨n % (2 * 8), Nat.mod_lt _ (by decide)⟩
  · exact c_dec16 ⟨n % (2 * 16), Nat.mod_lt _ (by decide)⟩
theorem mod_pt (h : CfN F N) (n : Nat) : f_modPointer F (pt N n) = pt N n := by
  rw [mod_eq]
  rcases h with ⟨rfl, h0, h2, h3⟩ | ⟨rfl, h0, h2, h3⟩ | ⟨rfl, h0, h2, h3⟩ <;> rw [h3]
  · exact c_mod4 ⟨n % (2 * 4), Nat.mod_lt _ (by decide)⟩
  · exact c_mod8 ⟨n % (2 * 8), Nat.mod_lt _ (by decide)⟩
  · exact c_mod16 ⟨n % (2 * 16), Nat.mod_lt _ (by decide)⟩
theorem gray_pt (h : CfN F N) (n : Nat) : f_gray F (pt N n) = gp N n := by
  rw [e_gray, mod_pt h]; rfl
theorem succ_pt (h : CfN F N) (n : Nat) : f_modPointer F (pt N n + 1) = pt N (n + 1) := by
  rw [mod_eq]
  rcases h with ⟨rfl, h0, h2, h3⟩ | ⟨rfl, h0, h2, h3⟩ | ⟨rfl, h0, h2, h3⟩ <;> rw [h3]
  · exact (c_suc4 ⟨n % (2 * 4), Nat.mod_lt _ (by decide)⟩).trans (congrArg Int32.ofNat (show (n % (2 * 4) + 1) % (2 * 4) = (n + 1) % (2 * 4) by omega))
  · exact (c_suc8 ⟨n % (2 * 8), Nat.mod_lt _ (by decide)⟩).trans (congrArg Int32.ofNat (show (n % (2 * 8) + 1) % (2 * 8) = (n + 1) % (2 * 8) by omega))
  · exact (c_suc16 ⟨n % (2 * 16), Nat.mod_lt _ (by decide)⟩).trans (congrArg Int32.ofNat (show (n % (2 * 16) + 1) % (2 * 16) = (n + 1) % (2 * 16) by omega))
theorem sub_pt (h : CfN F N) (i j : Nat) (h1 : j ≤ i) (h4 : i - j < 2 * N) : f_modPointer F (pt N i - pt N j) = Int32.ofNat (i - j) := by
  rw [mod_eq]
  rcases h with ⟨rfl, h0, h2, h3⟩ | ⟨rfl, h0, h2, h3⟩ | ⟨rfl, h0, h2, h3⟩ <;> rw [h3]
  · exact (c_sub4 ⟨i % (2 * 4), Nat.mod_lt _ (by decide)⟩ ⟨j % (2 * 4), Nat.mod_lt _ (by decide)⟩).trans (congrArg Int32.ofNat (show (i % (2 * 4) + 2 * 4 - j % (2 * 4)) % (2 * 4) = i - j by omega))
  · exact (c_sub8 ⟨i % (2 * 8), Nat.mod_lt _ (by decide)⟩ ⟨j % (2 * 8), Nat.mod_lt _ (by decide)⟩).trans (congrArg Int32.ofNat (show (i % (2 * 8) + 2 * 8 - j % (2 * 8)) % (2 * 8) = i - j by omega))
  · exact (c_sub16 ⟨i % (2 * 16), Nat.mod_lt _ (by decide)⟩ ⟨j % (2 * 16), Nat.mod_lt _ (by decide)⟩).trans (congrArg Int32.ofNat (show (i % (2 * 16) + 2 * 16 - j % (2 * 16)) % (2 * 16) = i - j by omega))
theorem slot_pt0 (h : CfN F N) (n : Nat) : f_slotOf F (pt N n) = Int32.ofNat (n % N) := by
  rw [e_slotOf]
  rcases h with ⟨rfl, h0, h2, h3⟩ | ⟨rfl, h0, h2, h3⟩ | ⟨rfl, h0, h2, h3⟩ <;> rw [h0]
  · exact (c_slo4 ⟨n % (2 * 4), Nat.mod_lt _ (by decide)⟩).trans (congrArg Int32.ofNat (show n % (2 * 4) % 4 = n % 4 by omega))
  · exact (c_slo8 ⟨n % (2 * 8), Nat.mod_lt _ (by decide)⟩).trans (congrArg Int32.ofNat (show n % (2 * 8) % 8 = n % 8 by omega))
  · exact (c_slo16 ⟨n % (2 * 16), Nat.mod_lt _ (by decide)⟩).trans (congrArg Int32.ofNat (show n % (2 * 16) % 16 = n % 16 by omega))
theorem slot_pt (h : CfN F N) (n k : Nat) (hk : k ≤ 16) : f_slotOf F (pt N n + Int32.ofNat k) = Int32.ofNat ((n + k) % N) := by
  rw [e_slotOf]
  rcases h with ⟨rfl, h0, h2, h3⟩ | ⟨rfl, h0, h2, h3⟩ | ⟨rfl, h0, h2, h3⟩ <;> rw [h0]
  · exact (c_slk4 ⟨n % (2 * 4), Nat.mod_lt _ (by decide)⟩ ⟨k, by omega⟩).trans (congrArg Int32.ofNat (show (n % (2 * 4) + k) % 4 = (n + k) % 4 by omega))
  · exact (c_slk8 ⟨n % (2 * 8), Nat.mod_lt _ (by decide)⟩ ⟨k, by omega⟩).trans (congrArg Int32.ofNat (show (n % (2 * 8) + k) % 8 = (n + k) % 8 by omega))
  · exact (c_slk16 ⟨n % (2 * 16), Nat.mod_lt _ (by decide)⟩ ⟨k, by omega⟩).trans (congrArg Int32.ofNat (show (n % (2 * 16) + k) % 16 = (n + k) % 16 by omega))
theorem smp_gen (s p m M : Int32) (hb : p ^^^ s = 1 ∨ p ^^^ s = 2 ∨ p ^^^ s = 4 ∨ p ^^^ s = 8 ∨ p ^^^ s = 16) (h1 : (s ^^^ (0 &&& M)) &&& M = s) (h2 : (s ^^^ ((p ^^^ s) &&& M)) &&& M = p) :
    (s ^^^ (((p ^^^ s) &&& m) &&& M)) &&& M = s ∨ (s ^^^ (((p ^^^ s) &&& m) &&& M)) &&& M = p := by
  have e : (p ^^^ s) &&& m = 0 ∨ (p ^^^ s) &&& m = p ^^^ s := by
    rcases hb with e | e | e | e | e <;> rw [e]
    · exact bit_and m 1 0 (by decide)
    · exact bit_and m 2 1 (by decide)
    · exact bit_and m 4 2 (by decide)
    · exact bit_and m 8 3 (by decide)
    · exact bit_and m 16 4 (by decide)
  rcases e with e | e
  · rw [e]; exact Or.inl h1
  · rw [e]; exact Or.inr h2
theorem smp_pt (h : CfN F N) (n : Nat) (m : Int32) : f_sample F (gp N (n + 1)) (gp N n) 1 m = gp N (n + 1) ∨ f_sample F (gp N (n + 1)) (gp N n) 1 m = gp N n := by
  rw [e_sample, if_neg (by decide), e_pointerMask, mod_eq]
  rcases h with ⟨rfl, h0, h2, h3⟩ | ⟨rfl, h0, h2, h3⟩ | ⟨rfl, h0, h2, h3⟩ <;> rw [h3]
  · obtain ⟨c1, c2, c3⟩ := c_smp4 ⟨n % (2 * 4), Nat.mod_lt _ (by decide)⟩
    have e : gp 4 (n + 1) = gy (Int32.ofNat ((n % (2 * 4) + 1) % (2 * 4))) := congrArg (fun z => gy (Int32.ofNat z)) (show (n + 1) % (2 * 4) = (n % (2 * 4) + 1) % (2 * 4) by omega)
    rw [e]
    exact smp_gen _ (gp 4 n) m _ c1 c2 c3
  · obtain ⟨c1, c2, c3⟩ := c_smp8 ⟨n % (2 * 8), Nat.mod_lt _ (by decide)⟩
    have e : gp 8 (n + 1) = gy (Int32.ofNat ((n % (2 * 8) + 1) % (2 * 8))) := congrArg (fun z => gy (Int32.ofNat z)) (show (n + 1) % (2 * 8) = (n % (2 * 8) + 1) % (2 * 8) by omega)
    rw [e]
    exact smp_gen _ (gp 8 n) m _ c1 c2 c3
  · obtain ⟨c1, c2, c3⟩ := c_smp16 ⟨n % (2 * 16), Nat.mod_lt _ (by decide)⟩
    have e : gp 16 (n + 1) = gy (Int32.ofNat ((n % (2 * 16) + 1) % (2 * 16))) := congrArg (fun z => gy (Int32.ofNat z)) (show (n + 1) % (2 * 16) = (n % (2 * 16) + 1) % (2 * 16) by omega)
    rw [e]
    exact smp_gen _ (gp 16 n) m _ c1 c2 c3
theorem slot_lt (h : CfN F N) (n : Nat) : n % N < 16 := by
  have := N_pos h
  have := Nat.mod_lt n this.1
  omega
theorem rc (h : CfN F N) (A : Nat → Int32 → Int32) (n k : Nat) (hk : k ≤ 16) : f_readCell F A (pt N n + Int32.ofNat k) = A 0 (Int32.ofNat ((n + k) % N)) := by
  have := slot_lt h (n + k)
  rw [e_readCell, slot_pt h n k hk, if_neg (on_nn (by omega)), if_pos (on_16 this)]
theorem rc0 (h : CfN F N) (A : Nat → Int32 → Int32) (n : Nat) : f_readCell F A (pt N n) = A 0 (Int32.ofNat (n % N)) := by
  have := slot_lt h n
  rw [e_readCell, slot_pt0 h n, if_neg (on_nn (by omega)), if_pos (on_16 this)]
theorem wc (h : CfN F N) (A : Nat → Int32 → Int32) (n : Nat) (x : Int32) : A_writeCell F A (pt N n) x = ups A 0 (ups (A 0) (Int32.ofNat (n % N)) x) := by
  have := slot_lt h n
  rw [eA_writeCell, slot_pt0 h n, if_neg (on_nn (by omega)), if_pos (on_16 this)]
theorem slot_ne (h : CfN F N) {j w : Nat} (h1 : j < w) (h2 : w < j + N) : Int32.ofNat (j % N) ≠ Int32.ofNat (w % N) := by
  have a := slot_lt h j
  have b := slot_lt h w
  intro e
  have e := (on_inj (by omega) (by omega)).mp e
  rcases h with ⟨rfl, _⟩ | ⟨rfl, _⟩ | ⟨rfl, _⟩ <;> omega
theorem CfN.of {F' : Nat → Int32} (h : CfN F N) (h0 : F' 0 = F 0) (h2 : F' 2 = F 2) (h3 : F' 3 = F 3) : CfN F' N := by
  unfold CfN at *; rw [h0, h2, h3]; exact h
end
def Fi (F : Nat → Int32) (N w r a1 a2 b1 b2 : Nat) : Prop :=
  CfN F N ∧ F 4 = pt N w ∧ F 5 = gp N w ∧ F 8 = pt N r ∧ F 9 = gp N r ∧ F 12 = gp N a1 ∧ F 13 = gp N a2 ∧ F 14 = gp N b1 ∧ F 15 = gp N b2 ∧
  (F 7 = 0 ∨ ∃ w', w = w' + 1 ∧ b1 ≤ w' ∧ F 7 = 1 ∧ F 6 = gp N w') ∧ (F 11 = 0 ∨ ∃ r', r = r' + 1 ∧ a1 ≤ r' ∧ F 11 = 1 ∧ F 10 = gp N r') ∧
  F 17 = Int32.ofNat w ∧ F 18 = Int32.ofNat r ∧ a2 ≤ a1 ∧ a1 ≤ r ∧ r ≤ b2 ∧ b2 ≤ b1 ∧ b1 ≤ w ∧ w ≤ a2 + N
section
variable {F : Nat → Int32} {N w r a1 a2 b1 b2 : Nat}
theorem Fi.cnt (h : Fi F N w r a1 a2 b1 b2) : f_countValue F = Int32.ofNat (w - r) := by
  obtain ⟨hc, h4, h5, h8, h9, h12, h13, h14, h15, h7, h11, h17, h18, o1, o2, o3, o4, o5, o6⟩ := h
  have := N_pos hc
  rw [e_countValue, h4, h8]; exact sub_pt hc w r (by omega) (by omega)
theorem Fi.wf (h : Fi F N w r a1 a2 b1 b2) : f_writeFillValue F = Int32.ofNat (w - a2) := by
  obtain ⟨hc, h4, h5, h8, h9, h12, h13, h14, h15, h7, h11, h17, h18, o1, o2, o3, o4, o5, o6⟩ := h
  have := N_pos hc
  rw [e_writeFillValue, h4, h13, dec_pt hc]; exact sub_pt hc w a2 (by omega) (by omega)
theorem Fi.rf (h : Fi F N w r a1 a2 b1 b2) : f_readFillValue F = Int32.ofNat (b2 - r) := by
  obtain ⟨hc, h4, h5, h8, h9, h12, h13, h14, h15, h7, h11, h17, h18, o1, o2, o3, o4, o5, o6⟩ := h
  have := N_pos hc
  rw [e_readFillValue, h8, h15, dec_pt hc]; exact sub_pt hc b2 r (by omega) (by omega)
theorem Fi.ord (h : Fi F N w r a1 a2 b1 b2) : a2 ≤ r ∧ r ≤ b2 ∧ b2 ≤ w ∧ w ≤ a2 + N ∧ 0 < N ∧ N ≤ 16 := by
  obtain ⟨hc, h4, h5, h8, h9, h12, h13, h14, h15, h7, h11, h17, h18, o1, o2, o3, o4, o5, o6⟩ := h
  have := N_pos hc
  omega
theorem Fi.full (h : Fi F N w r a1 a2 b1 b2) : f_fullNow F = if w - a2 = N then 1 else 0 := by
  have o := h.ord
  rw [e_fullNow, h.wf, F0_N h.1]
  by_cases e : w - a2 = N
  · rw [if_pos (by rw [e]), if_pos e]; exact nar1
  · rw [if_neg (fun q => e ((on_inj (by omega) (by omega)).mp q)), if_neg e]; exact nar0
theorem Fi.empty (h : Fi F N w r a1 a2 b1 b2) : f_emptyNow F = if b2 = r then 1 else 0 := by
  have o := h.ord
  rw [e_emptyNow, h.rf]
  by_cases e : b2 = r
  · rw [if_pos (show Int32.ofNat (b2 - r) = 0 by rw [e, Nat.sub_self]; rfl), if_pos e]; exact nar1
  · rw [if_neg (fun q => e (by have := (on_inj (x := b2 - r) (y := 0) (by omega) (by decide)).mp q; omega)), if_neg e]; exact nar0
theorem Fi.smp_w (h : Fi F N w r a1 a2 b1 b2) (m : Int32) : ∃ a, f_sample F (F 9) (F 10) (F 11) m = gp N a ∧ a1 ≤ a ∧ a ≤ r := by
  obtain ⟨hc, h4, h5, h8, h9, h12, h13, h14, h15, h7, h11, h17, h18, o1, o2, o3, o4, o5, o6⟩ := h
  rcases h11 with e | ⟨r', e0, e1, e2, e3⟩
  · exact ⟨r, by rw [e, smp0, h9], o2, Nat.le_refl _⟩
  · subst e0
    rw [h9, e3, e2]
    rcases smp_pt hc r' m with q | q
    · exact ⟨r' + 1, q, by omega, Nat.le_refl _⟩
    · exact ⟨r', q, e1, by omega⟩
theorem Fi.smp_r (h : Fi F N w r a1 a2 b1 b2) (m : Int32) : ∃ b, f_sample F (F 5) (F 6) (F 7) m = gp N b ∧ b1 ≤ b ∧ b ≤ w := by
  obtain ⟨hc, h4, h5, h8, h9, h12, h13, h14, h15, h7, h11, h17, h18, o1, o2, o3, o4, o5, o6⟩ := h
  rcases h7 with e | ⟨w', e0, e1, e2, e3⟩
  · exact ⟨w, by rw [e, smp0, h5], o5, Nat.le_refl _⟩
  · subst e0
    rw [h5, e3, e2]
    rcases smp_pt hc w' m with q | q
    · exact ⟨w' + 1, q, by omega, Nat.le_refl _⟩
    · exact ⟨w', q, e1, by omega⟩
theorem Fi.push (h : Fi F N w r a1 a2 b1 b2) (a x m : Int32) (ha : ¬ a = 0) (hf : ¬ w - a2 = N) : ∃ a1', Fi (F_writeEdge F a x m) N (w + 1) r a1' a1 b1 b2 := by
  obtain ⟨s, hs, s1, s2⟩ := h.smp_w m
  have f0 : f_fullNow F = 0 := by rw [h.full, if_neg hf]
  obtain ⟨hc, h4, h5, h8, h9, h12, h13, h14, h15, h7, h11, h17, h18, o1, o2, o3, o4, o5, o6⟩ := h
  have u3 : (F_shiftWriteSync F m) 3 = F 3 := F_shiftWriteSync_3 F m
  have u4 : (F_shiftWriteSync F m) 4 = pt N w := (F_shiftWriteSync_4 F m).trans h4
  have v3 : ups (F_shiftWriteSync F m) 6 ((F_shiftWriteSync F m) 5) 3 = F 3 := (ups_n _ 6 3 _ (by decide)).trans u3
  have w3 : ∀ z, ups (ups (F_shiftWriteSync F m) 6 ((F_shiftWriteSync F m) 5)) 4 z 3 = F 3 := fun z => (ups_n _ 4 3 _ (by decide)).trans v3
  refine ⟨s, hc.of (F_writeEdge_0 F a x m) (F_writeEdge_2 F a x m) (F_writeEdge_3 F a x m), ?_, ?_, (F_writeEdge_8 F a x m).trans h8, (F_writeEdge_9 F a x m).trans h9, ?_, (F_writeEdge_13 F a x m).trans h12, (F_writeEdge_14 F a x m).trans h14, (F_writeEdge_15 F a x m).trans h15,
    Or.inr ⟨w, rfl, o5, ?_, ?_⟩, Or.inl (F_writeEdge_11 F a x m), ?_, (F_writeEdge_18 F a x m).trans h18, s1, s2, o3, o4, by omega, by omega⟩
  · rw [F_writeEdge_4, if_neg ha, if_pos f0, u4, mod_congr v3]; exact succ_pt hc w
  · rw [F_writeEdge_5, if_neg ha, if_pos f0, u4, gray_congr (w3 _), mod_congr v3, succ_pt hc w]; exact gray_pt hc (w + 1)
  · rw [F_writeEdge_12, sample_congr (ups_n _ 13 3 _ (by decide))]; exact hs
  · rw [F_writeEdge_7, if_neg ha, if_pos f0]
  · rw [F_writeEdge_6, if_neg ha, if_pos f0, F_shiftWriteSync_5, h5]
  · rw [F_writeEdge_17, if_neg ha, if_pos f0, F_shiftWriteSync_17, h17]; exact on_succ w
theorem Fi.push_A (h : Fi F N w r a1 a2 b1 b2) (A : Nat → Int32 → Int32) (a x m : Int32) (ha : ¬ a = 0) (hf : ¬ w - a2 = N) : A_writeEdge F A a x m = ups A 0 (ups (A 0) (Int32.ofNat (w % N)) x) := by
  have f0 : f_fullNow F = 0 := by rw [h.full, if_neg hf]
  rw [eA_writeEdge, if_neg ha, if_pos f0, eA_acceptWrite, F_shiftWriteSync_4, h.2.1, wcell_congr (F_shiftWriteSync_0 F m), wc h.1]
theorem Fi.idle (h : Fi F N w r a1 a2 b1 b2) (a x m : Int32) (hf : a = 0 ∨ w - a2 = N) : ∃ a1', Fi (F_writeEdge F a x m) N w r a1' a1 b1 b2 := by
  obtain ⟨s, hs, s1, s2⟩ := h.smp_w m
  have hf' : a = 0 ∨ f_fullNow F ≠ 0 := hf.imp id fun e => by rw [h.full, if_pos e]; decide
  obtain ⟨hc, h4, h5, h8, h9, h12, h13, h14, h15, h7, h11, h17, h18, o1, o2, o3, o4, o5, o6⟩ := h
  have e : ∀ {T : Type} (u v w : T), w = u → (if a = 0 then u else if f_fullNow F = 0 then v else w) = u := by
    intro T u v w hw
    rcases hf' with hf | hf
    · rw [if_pos hf]
    · rw [if_neg hf, hw, ite_self]
  refine ⟨s, hc.of (F_writeEdge_0 F a x m) (F_writeEdge_2 F a x m) (F_writeEdge_3 F a x m), ?_, ?_, (F_writeEdge_8 F a x m).trans h8, (F_writeEdge_9 F a x m).trans h9, ?_, (F_writeEdge_13 F a x m).trans h12, (F_writeEdge_14 F a x m).trans h14, (F_writeEdge_15 F a x m).trans h15,
    ?_, Or.inl (F_writeEdge_11 F a x m), ?_, (F_writeEdge_18 F a x m).trans h18, s1, s2, o3, o4, o5, by omega⟩
  · rw [F_writeEdge_4, e _ _ _ rfl, h4]
  · rw [F_writeEdge_5, e _ _ _ rfl, h5]
  · rw [F_writeEdge_12, sample_congr (ups_n _ 13 3 _ (by decide))]; exact hs
  · rw [F_writeEdge_7, F_writeEdge_6, e _ _ _ rfl, e _ _ _ rfl]; exact h7
  · rw [F_writeEdge_17, e _ _ _ rfl, h17]
theorem idle_A (A : Nat → Int32 → Int32) (a x m : Int32) (hf : a = 0 ∨ f_fullNow F ≠ 0) : A_writeEdge F A a x m = A := by
  rw [eA_writeEdge]
  rcases hf with hf | hf
  · rw [if_pos hf]
  · rw [if_neg hf, ite_self]
theorem Fi.pop (h : Fi F N w r a1 a2 b1 b2) (A : Nat → Int32 → Int32) (a m : Int32) (ha : ¬ a = 0) (hf : ¬ b2 = r) : ∃ b1', Fi (F_readEdge F A a m) N w (r + 1) a1 a2 b1' b1 := by
  obtain ⟨s, hs, s1, s2⟩ := h.smp_r m
  have f0 : f_emptyNow F = 0 := by rw [h.empty, if_neg hf]
  obtain ⟨hc, h4, h5, h8, h9, h12, h13, h14, h15, h7, h11, h17, h18, o1, o2, o3, o4, o5, o6⟩ := h
  have u3 : (F_shiftReadSync F m) 3 = F 3 := F_shiftReadSync_3 F m
  have u8 : (F_shiftReadSync F m) 8 = pt N r := (F_shiftReadSync_8 F m).trans h8
  have v3 : ∀ y z, ups (ups (F_shiftReadSync F m) 16 y) 10 z 3 = F 3 := fun y z => (ups_n _ 10 3 _ (by decide)).trans ((ups_n _ 16 3 _ (by decide)).trans u3)
  have w3 : ∀ x y z, ups (ups (ups (F_shiftReadSync F m) 16 x) 10 y) 8 z 3 = F 3 := fun x y z => (ups_n _ 8 3 _ (by decide)).trans (v3 x y)
  refine ⟨s, hc.of (F_readEdge_0 F A a m) (F_readEdge_2 F A a m) (F_readEdge_3 F A a m), (F_readEdge_4 F A a m).trans h4, (F_readEdge_5 F A a m).trans h5, ?_, ?_, (F_readEdge_12 F A a m).trans h12, (F_readEdge_13 F A a m).trans h13, ?_, (F_readEdge_15 F A a m).trans h14,
    Or.inl (F_readEdge_7 F A a m), Or.inr ⟨r, rfl, o2, ?_, ?_⟩, (F_readEdge_17 F A a m).trans h17, ?_, o1, by omega, by omega, s1, s2, o6⟩
  · rw [F_readEdge_8, if_neg ha, if_pos f0, u8, mod_congr (v3 _ _)]; exact succ_pt hc r
  · rw [F_readEdge_9, if_neg ha, if_pos f0, u8, gray_congr (w3 _ _ _), mod_congr (v3 _ _), succ_pt hc r]; exact gray_pt hc (r + 1)
  · rw [F_readEdge_14, sample_congr (ups_n _ 15 3 _ (by decide))]; exact hs
  · rw [F_readEdge_11, if_neg ha, if_pos f0]
  · rw [F_readEdge_10, if_neg ha, if_pos f0, F_shiftReadSync_9, h9]
  · rw [F_readEdge_18, if_neg ha, if_pos f0, F_shiftReadSync_18, h18]; exact on_succ r
theorem Fi.pop_l (h : Fi F N w r a1 a2 b1 b2) (A : Nat → Int32 → Int32) (a m : Int32) (ha : ¬ a = 0) (hf : ¬ b2 = r) : F_readEdge F A a m 16 = A 0 (Int32.ofNat (r % N)) := by
  have f0 : f_emptyNow F = 0 := by rw [h.empty, if_neg hf]
  rw [F_readEdge_16, if_neg ha, if_pos f0, F_shiftReadSync_8, h.2.2.2.1, cell_congr (F_shiftReadSync_0 F m), rc0 h.1]
theorem Fi.wait (h : Fi F N w r a1 a2 b1 b2) (A : Nat → Int32 → Int32) (a m : Int32) (hf : a = 0 ∨ b2 = r) : (∃ b1', Fi (F_readEdge F A a m) N w r a1 a2 b1' b1) ∧ F_readEdge F A a m 16 = F 16 := by
  obtain ⟨s, hs, s1, s2⟩ := h.smp_r m
  have hf' : a = 0 ∨ f_emptyNow F ≠ 0 := hf.imp id fun e => by rw [h.empty, if_pos e]; decide
  obtain ⟨hc, h4, h5, h8, h9, h12, h13, h14, h15, h7, h11, h17, h18, o1, o2, o3, o4, o5, o6⟩ := h
  have e : ∀ {T : Type} (u v w : T), w = u → (if a = 0 then u else if f_emptyNow F = 0 then v else w) = u := by
    intro T u v w hw
    rcases hf' with hf | hf
    · rw [if_pos hf]
    · rw [if_neg hf, hw, ite_self]
  refine ⟨⟨s, hc.of (F_readEdge_0 F A a m) (F_readEdge_2 F A a m) (F_readEdge_3 F A a m), (F_readEdge_4 F A a m).trans h4, (F_readEdge_5 F A a m).trans h5, ?_, ?_, (F_readEdge_12 F A a m).trans h12, (F_readEdge_13 F A a m).trans h13, ?_, (F_readEdge_15 F A a m).trans h14,
    Or.inl (F_readEdge_7 F A a m), ?_, (F_readEdge_17 F A a m).trans h17, ?_, o1, o2, by omega, s1, s2, o6⟩, ?_⟩
  · rw [F_readEdge_8, e _ _ _ rfl, h8]
  · rw [F_readEdge_9, e _ _ _ rfl, h9]
  · rw [F_readEdge_14, sample_congr (ups_n _ 15 3 _ (by decide))]; exact hs
  · rw [F_readEdge_11, F_readEdge_10, e _ _ _ rfl, e _ _ _ rfl]; exact h11
  · rw [F_readEdge_18, e _ _ _ rfl, h18]
  · rw [F_readEdge_16, e _ _ _ rfl]
theorem Fi.wr (h : Fi F N w r a1 a2 b1 b2) (A : Nat → Int32 → Int32) (g x m : Int32) :
    (f_writeEdge F g x m = 1 ∧ ¬ g = 0 ∧ w < a2 + N ∧ A_writeEdge F A g x m = ups A 0 (ups (A 0) (Int32.ofNat (w % N)) x) ∧ ∃ a1', Fi (F_writeEdge F g x m) N (w + 1) r a1' a1 b1 b2) ∨
    (¬ f_writeEdge F g x m = 1 ∧ A_writeEdge F A g x m = A ∧ (∃ a1', Fi (F_writeEdge F g x m) N w r a1' a1 b1 b2) ∧ ((g = 0 ∧ f_writeEdge F g x m = 0) ∨ (¬ g = 0 ∧ w = a2 + N ∧ f_writeEdge F g x m = 2))) := by
  have o := h.ord
  by_cases ha : g = 0
  · have e : f_writeEdge F g x m = 0 := by rw [e_writeEdge, if_pos ha]
    exact Or.inr ⟨by rw [e]; decide, idle_A A g x m (Or.inl ha), h.idle g x m (Or.inl ha), Or.inl ⟨ha, e⟩⟩
  · by_cases hf : w - a2 = N
    · have f1 : f_fullNow F ≠ 0 := by rw [h.full, if_pos hf]; decide
      have e : f_writeEdge F g x m = 2 := by rw [e_writeEdge, if_neg ha, if_neg f1]
      exact Or.inr ⟨by rw [e]; decide, idle_A A g x m (Or.inr f1), h.idle g x m (Or.inr hf), Or.inr ⟨ha, by omega, e⟩⟩
    · have f0 : f_fullNow F = 0 := by rw [h.full, if_neg hf]
      exact Or.inl ⟨by rw [e_writeEdge, if_neg ha, if_pos f0], ha, by omega, h.push_A A g x m ha hf, h.push g x m ha hf⟩
theorem Fi.rd (h : Fi F N w r a1 a2 b1 b2) (A : Nat → Int32 → Int32) (g m : Int32) :
    (f_readEdge F g m = 3 ∧ ¬ g = 0 ∧ r < b2 ∧ F_readEdge F A g m 16 = A 0 (Int32.ofNat (r % N)) ∧ ∃ b1', Fi (F_readEdge F A g m) N w (r + 1) a1 a2 b1' b1) ∨
    (¬ f_readEdge F g m = 3 ∧ F_readEdge F A g m 16 = F 16 ∧ (∃ b1', Fi (F_readEdge F A g m) N w r a1 a2 b1' b1) ∧ ((g = 0 ∧ f_readEdge F g m = 0) ∨ (¬ g = 0 ∧ b2 = r ∧ f_readEdge F g m = 4))) := by
  have o := h.ord
  by_cases ha : g = 0
  · have e : f_readEdge F g m = 0 := by rw [e_readEdge, if_pos ha]
    exact Or.inr ⟨by rw [e]; decide, (h.wait A g m (Or.inl ha)).2, (h.wait A g m (Or.inl ha)).1, Or.inl ⟨ha, e⟩⟩
  · by_cases hf : b2 = r
    · have f1 : f_emptyNow F ≠ 0 := by rw [h.empty, if_pos hf]; decide
      have e : f_readEdge F g m = 4 := by rw [e_readEdge, if_neg ha, if_neg f1]
      exact Or.inr ⟨by rw [e]; decide, (h.wait A g m (Or.inr hf)).2, (h.wait A g m (Or.inr hf)).1, Or.inr ⟨ha, hf, e⟩⟩
    · have f0 : f_emptyNow F = 0 := by rw [h.empty, if_neg hf]
      exact Or.inl ⟨by rw [e_readEdge, if_neg ha, if_pos f0], ha, by omega, h.pop_l A g m ha hf, h.pop A g m ha hf⟩
theorem Fi.reset (h : Fi F N w r a1 a2 b1 b2) : Fi (F_reset F) N 0 0 0 0 0 0 := by
  have z : gp N 0 = 0 := by
    unfold gp pt; rw [Nat.zero_mod]; decide
  have z2 : pt N 0 = 0 := by
    unfold pt; rw [Nat.zero_mod]; decide
  refine ⟨h.1.of (F_reset_0 F) (F_reset_2 F) (F_reset_3 F), ?_, ?_, ?_, ?_, ?_, ?_, ?_, ?_, Or.inl (F_reset_7 F), Or.inl (F_reset_11 F), F_reset_17 F, F_reset_18 F, by omega, by omega, by omega, by omega, by omega, by omega⟩
  · rw [F_reset_4, z2]
  · rw [F_reset_5, z]
  · rw [F_reset_8, z2]
  · rw [F_reset_9, z]
  · rw [F_reset_12, z]
  · rw [F_reset_13, z]
  · rw [F_reset_14, z]
  · rw [F_reset_15, z]
end
theorem clamp_cases (p : Int32) : f_clampInt p 2 4 = 2 ∨ f_clampInt p 2 4 = 3 ∨ f_clampInt p 2 4 = 4 := by
  rw [e_clampInt]; grind
theorem cfn_init (p1 p2 : Int32) : (f_clampInt p1 2 4 = 2 ∧ CfN (F_init p1 p2) 4) ∨ (f_clampInt p1 2 4 = 3 ∧ CfN (F_init p1 p2) 8) ∨ (f_clampInt p1 2 4 = 4 ∧ CfN (F_init p1 p2) 16) := by
  unfold CfN
  rw [F_init_0, F_init_2, F_init_3]
  rcases clamp_cases p1 with h | h | h <;> rw [h]
  · exact .inl ⟨rfl, .inl ⟨rfl, by decide, by decide, by decide⟩⟩
  · exact .inr (.inl ⟨rfl, .inr (.inl ⟨rfl, by decide, by decide, by decide⟩)⟩)
  · exact .inr (.inr ⟨rfl, .inr (.inr ⟨rfl, by decide, by decide, by decide⟩)⟩)
theorem Fi.init {N : Nat} (p1 p2 : Int32) (hc : CfN (F_init p1 p2) N) : Fi (F_init p1 p2) N 0 0 0 0 0 0 := by
  have z : gp N 0 = 0 := by
    unfold gp pt; rw [Nat.zero_mod]; decide
  have z2 : pt N 0 = 0 := by
    unfold pt; rw [Nat.zero_mod]; decide
  refine ⟨hc, ?_, ?_, ?_, ?_, ?_, ?_, ?_, ?_, Or.inl (F_init_7 _ _), Or.inl (F_init_11 _ _), F_init_17 _ _, F_init_18 _ _, by omega, by omega, by omega, by omega, by omega, by omega⟩
  · rw [F_init_4, z2]
  · rw [F_init_5, z]
  · rw [F_init_8, z2]
  · rw [F_init_9, z]
  · rw [F_init_12, z]
  · rw [F_init_13, z]
  · rw [F_init_14, z]
  · rw [F_init_15, z]
/-! what the FIFO shows -/
section
variable {F : Nat → Int32} {N w r a1 a2 b1 b2 : Nat}
theorem Fi.gc (h : Fi F N w r a1 a2 b1 b2) : f_getCount F = Int32.ofNat (w - r) := by rw [e_getCount, h.cnt]
theorem Fi.t0 (h : Fi F N w r a1 a2 b1 b2) : f_getTotal F 0 = Int32.ofNat w := by
  rw [e_getTotal, if_pos rfl]; exact h.2.2.2.2.2.2.2.2.2.2.2.1
theorem Fi.t1 (h : Fi F N w r a1 a2 b1 b2) : f_getTotal F 1 = Int32.ofNat r := by
  rw [e_getTotal, if_neg (by decide), if_pos rfl]; exact h.2.2.2.2.2.2.2.2.2.2.2.2.1
theorem Fi.fl0 (h : Fi F N w r a1 a2 b1 b2) : f_getFill F 0 = Int32.ofNat (w - a2) := by
  rw [e_getFill, if_pos rfl, h.wf]
theorem Fi.fl1 (h : Fi F N w r a1 a2 b1 b2) : f_getFill F 1 = Int32.ofNat (b2 - r) := by
  rw [e_getFill, if_neg (by decide), if_pos rfl, h.rf]
theorem Fi.unr (h : Fi F N w r a1 a2 b1 b2) (A : Nat → Int32 → Int32) (k : Nat) (hk : k < w - r) : f_getUnread F A (Int32.ofNat k) = A 0 (Int32.ofNat ((r + k) % N)) := by
  have o := h.ord
  rw [e_getUnread, if_neg (on_nn (by omega)), h.cnt, if_pos ((on_lt (by omega) (by omega)).mpr hk), h.2.2.2.1, rc h.1 A r k (by omega)]
theorem Fi.unr0 (h : Fi F N w r a1 a2 b1 b2) (A : Nat → Int32 → Int32) (x : Int32) (hx : x < 0 ∨ ¬ x < Int32.ofNat (w - r)) : f_getUnread F A x = 0 := by
  rw [e_getUnread, h.cnt]
  rcases hx with hx | hx
  · rw [if_pos hx]
  · rw [if_neg hx, ite_self]
end
theorem on_sub {w r : Nat} (h : r ≤ w) : Int32.ofNat w - Int32.ofNat r = Int32.ofNat (w - r) := by
  have e2 : Int32.ofNat w = Int32.ofNat (w - r) + Int32.ofNat r := by
    rw [← Int32.ofNat_add, Nat.sub_add_cancel h]
  rw [e2, Int32.add_sub_cancel]
theorem lt_irr (x : Int32) : ¬ x < x := by rw [lt_i]; omega
section
variable {F : Nat → Int32} {N w r a1 a2 b1 b2 : Nat}
theorem Fi.pg0 (h : Fi F N w r a1 a2 b1 b2) : f_getPointerGray F 0 = gp N w := by
  rw [e_getPointerGray, if_pos rfl]; exact h.2.2.1
theorem Fi.pg1 (h : Fi F N w r a1 a2 b1 b2) : f_getPointerGray F 1 = gp N r := by
  rw [e_getPointerGray, if_neg (by decide), if_pos rfl]; exact h.2.2.2.2.1
theorem on_pred {k : Nat} (h : 0 < k) : Int32.ofNat k - 1 = Int32.ofNat (k - 1) := by
  obtain ⟨j, rfl⟩ : ∃ j, k = j + 1 := ⟨k - 1, by omega⟩
  rw [← on_succ, Nat.add_sub_cancel, Int32.add_sub_cancel]
/-- an accepted word leaves the unread ones -/
theorem Fi.keep (h : Fi F N w r a1 a2 b1 b2) {F' : Nat → Int32} {a1' : Nat} (A : Nat → Int32 → Int32) (x : Int32) (h' : Fi F' N (w + 1) r a1' a1 b1 b2) (hw : w < a2 + N) (k : Nat) (hk : k < w - r) :
    f_getUnread F' (ups A 0 (ups (A 0) (Int32.ofNat (w % N)) x)) (Int32.ofNat k) = f_getUnread F A (Int32.ofNat k) := by
  have o := h.ord
  rw [h'.unr _ k (by omega), h.unr A k hk, ups_at, ups_ne _ _ (slot_ne h.1 (by omega) (by omega))]
end
def I8 (F : Nat → Int32) (A : Nat → Int32 → Int32) (W R la nn al i : Int32) : Prop :=
  ∃ N w r a1 a2 b1 b2, Fi F N w r a1 a2 b1 b2 ∧ W = Int32.ofNat w ∧ R = Int32.ofNat r ∧ F 16 = la ∧ nn = Int32.ofNat N ∧ F 1 = al ∧ (w : Int) ≤ i.toInt ∧ ∀ j, r ≤ j → j < w → A 0 (Int32.ofNat (j % N)) = Int32.ofNat j * 7 + 3
theorem isE (F : Nat → Int32) : f_isEmpty F = f_emptyNow F := by rw [e_isEmpty, bz_emptyNow]
theorem isF (F : Nat → Int32) : f_isFull F = f_fullNow F := by rw [e_isFull, bz_fullNow]
theorem i8_rd {F : Nat → Int32} {A : Nat → Int32 → Int32} {W R la nn al i : Int32} (hI : I8 F A W R la nn al i) (g m j : Int32) (hj : i.toInt < j.toInt) :
    (¬ g = 0 → f_isEmpty F = 0 → I8 (F_readEdge F A g m) A W (R + 1) (R * 7 + 3) nn al j) ∧ ((g = 0 ∨ ¬ f_isEmpty F = 0) → I8 (F_readEdge F A g m) A W R la nn al j) := by
  obtain ⟨N, w, r, a1, a2, b1, b2, h, eW, eR, e16, eN, e1, hb, ct⟩ := hI
  have o := h.ord
  rw [isE]
  rcases h.rd A g m with ⟨e, hg, hr, e16', b', h'⟩ | ⟨e, e16', ⟨b', h'⟩, _⟩
  · refine ⟨fun _ _ => ⟨N, w, r + 1, a1, a2, b', b1, h', eW, by rw [eR, on_succ], by rw [e16', ct r (Nat.le_refl _) (by omega), eR], eN, by rw [F_readEdge_1, e1], by omega, fun k h1 h2 => ct k (by omega) h2⟩, fun c => ?_⟩
    rw [h.empty, if_neg (by omega)] at c
    exact absurd rfl (c.resolve_left hg)
  · refine ⟨fun hg he => absurd (show f_readEdge F g m = 3 by rw [e_readEdge, if_neg hg, if_pos he]) e, fun _ => ⟨N, w, r, a1, a2, b', b1, h', eW, eR, e16'.trans e16, eN, by rw [F_readEdge_1, e1], by omega, ct⟩⟩
theorem i8_wr {F : Nat → Int32} {A : Nat → Int32 → Int32} {W R la nn al i : Int32} (hI : I8 F A W R la nn al i) (g x m j : Int32) (hj : i.toInt < j.toInt) :
    (¬ g = 0 → f_isFull F = 0 → x = W * 7 + 3 → I8 (F_writeEdge F g x m) (A_writeEdge F A g x m) (W + 1) R la nn al j) ∧ ((g = 0 ∨ ¬ f_isFull F = 0) → I8 (F_writeEdge F g x m) (A_writeEdge F A g x m) W R la nn al j) := by
  obtain ⟨N, w, r, a1, a2, b1, b2, h, eW, eR, e16, eN, e1, hb, ct⟩ := hI
  have o := h.ord
  rw [isF]
  rcases h.wr A g x m with ⟨e, hg, hw, hA, a', h'⟩ | ⟨e, hA, ⟨a', h'⟩, _⟩
  · refine ⟨fun _ _ ex => ⟨N, w + 1, r, a', a1, b1, b2, h', by rw [eW, on_succ], eR, by rw [F_writeEdge_16, e16], eN, by rw [F_writeEdge_1, e1], by omega, fun k h1 h2 => ?_⟩, fun c => ?_⟩
    · rw [hA, ups_at]
      by_cases q : k = w
      · rw [q, ups_at, ex, eW]
      · rw [ups_ne _ _ (slot_ne h.1 (by omega) (by omega))]; exact ct k h1 (by omega)
    · rw [h.full, if_neg (by omega)] at c
      exact absurd rfl (c.resolve_left hg)
  · refine ⟨fun hg he => absurd (show f_writeEdge F g x m = 1 by rw [e_writeEdge, if_neg hg, if_pos he]) e, fun _ => ⟨N, w, r, a', a1, b1, b2, h', eW, eR, by rw [F_writeEdge_16, e16], eN, by rw [F_writeEdge_1, e1], by omega, by rw [hA]; exact ct⟩⟩
theorem i8_reset {F : Nat → Int32} {A : Nat → Int32 → Int32} {W R la nn al i : Int32} (hI : I8 F A W R la nn al i) (j : Int32) (hj : ¬ j < 0) : I8 (F_reset F) (A_reset A) 0 0 0 nn al j := by
  obtain ⟨N, w, r, a1, a2, b1, b2, h, eW, eR, e16, eN, e1, hb, ct⟩ := hI
  have z := nn_i hj
  exact ⟨N, 0, 0, 0, 0, 0, 0, h.reset, rfl, rfl, F_reset_16 F, eN, by rw [F_reset_1, e1], by omega, fun k h1 h2 => absurd h2 (by omega)⟩
theorem msk {F : Nat → Int32} {N : Nat} (hc : CfN F N) (n : Nat) (hn : n < 2147483648) : Int32.ofNat n &&& (2 * Int32.ofNat N - 1) = pt N n := by
  apply Int32.toInt_inj.mp
  unfold pt
  rcases hc with ⟨rfl, _⟩ | ⟨rfl, _⟩ | ⟨rfl, _⟩
  · rw [and_mask _ _ 3 (by decide) (by decide), toN n hn, toN _ (by omega)]; omega
  · rw [and_mask _ _ 4 (by decide) (by decide), toN n hn, toN _ (by omega)]; omega
  · rw [and_mask _ _ 5 (by decide) (by decide), toN n hn, toN _ (by omega)]; omega
theorem chk {F : Nat → Int32} {A : Nat → Int32 → Int32} {W R la nn al i : Int32} (hI : I8 F A W R la nn al i) (hi : ¬ 260 < i) : ¬ f_L_check F A W R la nn al = 0 := by
  obtain ⟨N, w, r, a1, a2, b1, b2, h, rfl, rfl, e16, rfl, e1, hb, ct⟩ := hI
  have o := h.ord
  have hi := le_260 hi
  have x5 := h.gc
  have x6 : f_getLastRead F = la := by rw [e_getLastRead, e16]
  have x7 : f_getPointerGray F 0 = (Int32.ofNat w &&& (2 * Int32.ofNat N - 1)) ^^^ XT.ushr (Int32.ofNat w &&& (2 * Int32.ofNat N - 1)) 1 := by
    rw [msk h.1 w (by omega)]; exact h.pg0
  have x8 : f_getPointerGray F 1 = (Int32.ofNat r &&& (2 * Int32.ofNat N - 1)) ^^^ XT.ushr (Int32.ofNat r &&& (2 * Int32.ofNat N - 1)) 1 := by
    rw [msk h.1 r (by omega)]; exact h.pg1
  have y1 : ¬ Int32.ofNat (w - r) < 0 := on_nn (by omega)
  have y2 : ¬ Int32.ofNat N < Int32.ofNat (w - r) := fun q => by have := (on_lt (by omega) (by omega)).mp q; omega
  have y3 : ¬ f_getFill F 1 < 0 := by rw [h.fl1]; exact on_nn (by omega)
  have y4 : ¬ Int32.ofNat (w - r) < f_getFill F 1 := by
    rw [h.fl1]; exact fun q => by have := (on_lt (by omega) (by omega)).mp q; omega
  have y5 : ¬ f_getFill F 0 < Int32.ofNat (w - r) := by
    rw [h.fl0]; exact fun q => by have := (on_lt (by omega) (by omega)).mp q; omega
  have y6 : ¬ Int32.ofNat N < f_getFill F 0 := by
    rw [h.fl0]; exact fun q => by have := (on_lt (by omega) (by omega)).mp q; omega
  have z1 : f_isFull F = if f_getFill F 0 = Int32.ofNat N then (1 : Int32) else (0 : Int32) := by
    rw [isF, h.full, h.fl0]
    by_cases e : w - a2 = N
    · rw [if_pos e, if_pos (by rw [e])]
    · rw [if_neg e, if_neg (fun q => e ((on_inj (by omega) (by omega)).mp q))]
  have z2 : f_isEmpty F = if f_getFill F 1 = 0 then (1 : Int32) else (0 : Int32) := by
    rw [isE, h.empty, h.fl1]
    by_cases e : b2 = r
    · rw [if_pos e, if_pos (show Int32.ofNat (b2 - r) = 0 by rw [e, Nat.sub_self]; rfl)]
    · rw [if_neg e, if_neg (fun q => e (by have := (on_inj (x := b2 - r) (y := 0) (by omega) (by decide)).mp q; omega))]
  have z3 : f_isAlmostFull F = if f_getFill F 0 < al then (0 : Int32) else (1 : Int32) := by
    rw [e_isAlmostFull, e_getFill, if_pos rfl, e1]
    split
    · exact nar0
    · exact nar1
  have u1 : f_getUnread F A (Int32.ofNat (w - r)) = 0 := h.unr0 A _ (Or.inr (lt_irr _))
  have u2 : f_getUnread F A (-1) = 0 := h.unr0 A _ (Or.inl (by decide))
  rw [e_L_check, on_sub (by omega), if_pos h.t0, if_pos h.t1, if_neg y1, if_neg y2, if_pos x5, if_pos x6, if_pos x7, if_pos x8, if_neg y3, if_neg y4, if_neg y5, if_neg y6, if_pos z1, if_pos z2, if_pos z3]
  by_cases c : w - r = 0
  · rw [if_neg (show ¬ (0 : Int32) < Int32.ofNat (w - r) by rw [c]; decide), if_pos u1, if_pos u2]; decide
  · have p0 : (0 : Int32) < Int32.ofNat (w - r) := (on_lt (x := 0) (by decide) (by omega)).mpr (by omega)
    have u3 : f_getUnread F A 0 = Int32.ofNat r * 7 + 3 := by
      have := h.unr A 0 (by omega)
      rw [show r + 0 = r from rfl, ct r (Nat.le_refl _) (by omega)] at this
      exact this
    have u4 : f_getUnread F A (Int32.ofNat (w - r) - 1) = (Int32.ofNat w - 1) * 7 + 3 := by
      rw [on_pred (by omega), h.unr A (w - r - 1) (by omega), show r + (w - r - 1) = w - 1 by omega, ct (w - 1) (by omega) (by omega), on_pred (by omega)]
    rw [if_pos p0, if_pos u3, if_pos u4, if_pos u1, if_pos u2]; decide
theorem and3 (x : Int32) : x &&& 3 = 0 ∨ x &&& 3 = 1 ∨ x &&& 3 = 2 ∨ x &&& 3 = 3 := by
  have h := and_mask x 3 2 (by decide) (by decide)
  have e : ((2 ^ 2 : Nat) : Int) = 4 := rfl
  rw [e] at h
  have q : (x &&& 3).toInt = 0 ∨ (x &&& 3).toInt = 1 ∨ (x &&& 3).toInt = 2 ∨ (x &&& 3).toInt = 3 := by omega
  rcases q with q | q | q | q
  · exact .inl (Int32.toInt_inj.mp (q.trans (by decide)))
  · exact .inr (.inl (Int32.toInt_inj.mp (q.trans (by decide))))
  · exact .inr (.inr (.inl (Int32.toInt_inj.mp (q.trans (by decide)))))
  · exact .inr (.inr (.inr (Int32.toInt_inj.mp (q.trans (by decide)))))
theorem dl_cases (sl : Int32) (sv : Int32 → Int32) : (if 0 < sl then ((sv (0 : Int32)) &&& (3 : Int32)) else (2 : Int32)) = 0 ∨ (if 0 < sl then ((sv (0 : Int32)) &&& (3 : Int32)) else (2 : Int32)) = 1 ∨ (if 0 < sl then ((sv (0 : Int32)) &&& (3 : Int32)) else (2 : Int32)) = 2 ∨ (if 0 < sl then ((sv (0 : Int32)) &&& (3 : Int32)) else (2 : Int32)) = 3 := by
  split
  · exact and3 _
  · exact .inr (.inr (.inl rfl))
theorem cl4 (d : Int32) (hd : d = 0 ∨ d = 1 ∨ d = 2 ∨ d = 3) : (1 : Int32) <<< (f_clampInt d 2 4 &&& 31) = (if d < 2 then (4 : Int32) else (1 : Int32) <<< (d &&& 31)) ∧ f_clampInt d 2 4 + 1 = (if d < 2 then (3 : Int32) else d + 1) := by
  rw [e_clampInt]
  rcases hd with rfl | rfl | rfl | rfl <;> decide
theorem nn_init (d al : Int32) (hd : d = 0 ∨ d = 1 ∨ d = 2 ∨ d = 3) : ∃ N, CfN (F_init d al) N ∧ (if d < 2 then (4 : Int32) else (1 : Int32) <<< (d &&& 31)) = Int32.ofNat N := by
  have c := (cl4 d hd).1
  rcases cfn_init d al with ⟨e, h⟩ | ⟨e, h⟩ | ⟨e, h⟩ <;> refine ⟨_, h, ?_⟩ <;> rw [← c, e] <;> decide
theorem i8_init (d al : Int32) (hd : d = 0 ∨ d = 1 ∨ d = 2 ∨ d = 3) (nn a' : Int32) (e1 : (if d < 2 then (4 : Int32) else (1 : Int32) <<< (d &&& 31)) = nn) (e2 : F_init d al 1 = a') : I8 (F_init d al) (A_init d al) 0 0 0 nn a' 2 := by
  obtain ⟨N, hc, e⟩ := nn_init d al hd
  exact ⟨N, 0, 0, 0, 0, 0, 0, Fi.init d al hc, rfl, rfl, F_init_16 _ _, by rw [← e1, e], e2, by decide, fun k h1 h2 => absurd h2 (by omega)⟩
theorem j14 {F : Nat → Int32} {A : Nat → Int32 → Int32} {W R la nn al i : Int32} (hI : I8 F A W R la nn al i) (x m j : Int32) (hj : i.toInt < j.toInt) :
    I8 (F_readEdge (F_writeEdge F 0 x m) (A_writeEdge F A 0 x m) 0 m) (A_writeEdge F A 0 x m) W R la nn al j := by
  obtain ⟨N, w, r, a1, a2, b1, b2, h, eW, eR, e16, eN, e1, hb, ct⟩ := hI
  rcases h.wr A 0 x m with ⟨_, ne, _⟩ | ⟨_, hA, ⟨a', h'⟩, _⟩
  · exact absurd rfl ne
  rw [hA]
  rcases h'.rd A 0 m with ⟨_, ne, _⟩ | ⟨_, e16', ⟨b', h2⟩, _⟩
  · exact absurd rfl ne
  exact ⟨N, w, r, _, _, _, _, h2, eW, eR, by rw [e16', F_writeEdge_16, e16], eN, by rw [F_readEdge_1, F_writeEdge_1, e1], by omega, ct⟩
set_option maxRecDepth 65536 in
set_option maxHeartbeats 4000000 in
theorem own_p_s3 (sl : Int32) (sv : Int32 → Int32) (F1 : Nat → Int32) (G1 : Nat → Int64) (A1 : Nat → Int32 → Int32) (B1 : Nat → Int32 → Int64) (v1 : Int32) (v5 : Int32) (v6 : Int32) (v8 : Int32) (v9 : Int32) (v10 : Int32) (v11 : Int32) (hI : I8 F1 A1 v8 v9 v10 v5 v6 v11) (h0 : ¬ v11 < 0) (h1 : ¬ 260 < v11) (hs : ¬ 260 < sl) (e1 : v1 = sl) : (v11 + (2 : Int32)) < v1 → ¬ v11 < 0 := by
  exact fun _ => h0
set_option maxRecDepth 65536 in
set_option maxHeartbeats 4000000 in
theorem own_p_s4 (sl : Int32) (sv : Int32 → Int32) (F1 : Nat → Int32) (G1 : Nat → Int64) (A1 : Nat → Int32 → Int32) (B1 : Nat → Int32 → Int64) (v1 : Int32) (v5 : Int32) (v6 : Int32) (v8 : Int32) (v9 : Int32) (v10 : Int32) (v11 : Int32) (hI : I8 F1 A1 v8 v9 v10 v5 v6 v11) (h0 : ¬ v11 < 0) (h1 : ¬ 260 < v11) (hs : ¬ 260 < sl) (e1 : v1 = sl) : (v11 + (2 : Int32)) < v1 → v11 < sl := by
  intro q; subst e1; grind
set_option maxRecDepth 65536 in
set_option maxHeartbeats 4000000 in
theorem own_p_s5 (sl : Int32) (sv : Int32 → Int32) (F1 : Nat → Int32) (G1 : Nat → Int64) (A1 : Nat → Int32 → Int32) (B1 : Nat → Int32 → Int64) (v1 : Int32) (v5 : Int32) (v6 : Int32) (v8 : Int32) (v9 : Int32) (v10 : Int32) (v11 : Int32) (hI : I8 F1 A1 v8 v9 v10 v5 v6 v11) (h0 : ¬ v11 < 0) (h1 : ¬ 260 < v11) (hs : ¬ 260 < sl) (e1 : v1 = sl) : (v11 + (2 : Int32)) < v1 → ¬ (v11 + (1 : Int32)) < 0 := by
  intro q; subst e1; grind
set_option maxRecDepth 65536 in
set_option maxHeartbeats 4000000 in
theorem own_p_s6 (sl : Int32) (sv : Int32 → Int32) (F1 : Nat → Int32) (G1 : Nat → Int64) (A1 : Nat → Int32 → Int32) (B1 : Nat → Int32 → Int64) (v1 : Int32) (v5 : Int32) (v6 : Int32) (v8 : Int32) (v9 : Int32) (v10 : Int32) (v11 : Int32) (hI : I8 F1 A1 v8 v9 v10 v5 v6 v11) (h0 : ¬ v11 < 0) (h1 : ¬ 260 < v11) (hs : ¬ 260 < sl) (e1 : v1 = sl) : (v11 + (2 : Int32)) < v1 → (v11 + (1 : Int32)) < sl := by
  intro q; subst e1; grind
set_option maxRecDepth 65536 in
set_option maxHeartbeats 4000000 in
theorem own_p_s9 (sl : Int32) (sv : Int32 → Int32) (F1 : Nat → Int32) (G1 : Nat → Int64) (A1 : Nat → Int32 → Int32) (B1 : Nat → Int32 → Int64) (v1 : Int32) (v5 : Int32) (v6 : Int32) (v8 : Int32) (v9 : Int32) (v10 : Int32) (v11 : Int32) (hI : I8 F1 A1 v8 v9 v10 v5 v6 v11) (h0 : ¬ v11 < 0) (h1 : ¬ 260 < v11) (hs : ¬ 260 < sl) (e1 : v1 = sl) : (v11 + (2 : Int32)) < v1 → ¬ (v11 + (2 : Int32)) < 0 := by
  intro q; subst e1; grind
set_option maxRecDepth 65536 in
set_option maxHeartbeats 4000000 in
theorem own_p_s10 (sl : Int32) (sv : Int32 → Int32) (F1 : Nat → Int32) (G1 : Nat → Int64) (A1 : Nat → Int32 → Int32) (B1 : Nat → Int32 → Int64) (v1 : Int32) (v5 : Int32) (v6 : Int32) (v8 : Int32) (v9 : Int32) (v10 : Int32) (v11 : Int32) (hI : I8 F1 A1 v8 v9 v10 v5 v6 v11) (h0 : ¬ v11 < 0) (h1 : ¬ 260 < v11) (hs : ¬ 260 < sl) (e1 : v1 = sl) : (v11 + (2 : Int32)) < v1 → (v11 + (2 : Int32)) < sl := by
  intro q; subst e1; grind
set_option maxRecDepth 65536 in
set_option maxHeartbeats 4000000 in
theorem own_p_h15 (sl : Int32) (sv : Int32 → Int32) (F1 : Nat → Int32) (G1 : Nat → Int64) (A1 : Nat → Int32 → Int32) (B1 : Nat → Int32 → Int64) (v1 : Int32) (v5 : Int32) (v6 : Int32) (v8 : Int32) (v9 : Int32) (v10 : Int32) (v11 : Int32) (hI : I8 F1 A1 v8 v9 v10 v5 v6 v11) (h0 : ¬ v11 < 0) (h1 : ¬ 260 < v11) (hs : ¬ 260 < sl) (e1 : v1 = sl) : (v11 + (2 : Int32)) < v1 → ¬ ((sv v11) &&& (15 : Int32)) < (7 : Int32) → ¬ ((sv v11) &&& (15 : Int32)) < (14 : Int32) → ¬ ((sv v11) &&& (15 : Int32)) = (14 : Int32) → ¬ (f_L_check (F_reset F1) (A_reset A1) (0 : Int32) (0 : Int32) (0 : Int32) v5 v6) = 0 := by
  intro q _ _ _
  have a := advS (b := 2) (c := 3) 2 (by decide) (by decide) (by decide) h0 h1 hs (e1 ▸ q)
  exact chk (i8_reset hI (v11 + 3) a.2.2.1) a.2.2.2
set_option maxRecDepth 65536 in
set_option maxHeartbeats 4000000 in
theorem own_p_h18 (sl : Int32) (sv : Int32 → Int32) (F1 : Nat → Int32) (G1 : Nat → Int64) (A1 : Nat → Int32 → Int32) (B1 : Nat → Int32 → Int64) (v1 : Int32) (v5 : Int32) (v6 : Int32) (v8 : Int32) (v9 : Int32) (v10 : Int32) (v11 : Int32) (hI : I8 F1 A1 v8 v9 v10 v5 v6 v11) (h0 : ¬ v11 < 0) (h1 : ¬ 260 < v11) (hs : ¬ 260 < sl) (e1 : v1 = sl) : (v11 + (2 : Int32)) < v1 → ¬ ((sv v11) &&& (15 : Int32)) < (7 : Int32) → ¬ ((sv v11) &&& (15 : Int32)) < (14 : Int32) → ((sv v11) &&& (15 : Int32)) = (14 : Int32) → (f_writeEdge F1 (0 : Int32) (99 : Int32) (sv (v11 + (2 : Int32)))) = 0 := by
  intros; rw [e_writeEdge, if_pos rfl]
set_option maxRecDepth 65536 in
set_option maxHeartbeats 4000000 in
theorem own_p_h20 (sl : Int32) (sv : Int32 → Int32) (F1 : Nat → Int32) (G1 : Nat → Int64) (A1 : Nat → Int32 → Int32) (B1 : Nat → Int32 → Int64) (v1 : Int32) (v5 : Int32) (v6 : Int32) (v8 : Int32) (v9 : Int32) (v10 : Int32) (v11 : Int32) (hI : I8 F1 A1 v8 v9 v10 v5 v6 v11) (h0 : ¬ v11 < 0) (h1 : ¬ 260 < v11) (hs : ¬ 260 < sl) (e1 : v1 = sl) : (v11 + (2 : Int32)) < v1 → ¬ ((sv v11) &&& (15 : Int32)) < (7 : Int32) → ¬ ((sv v11) &&& (15 : Int32)) < (14 : Int32) → ((sv v11) &&& (15 : Int32)) = (14 : Int32) → (f_readEdge (F_writeEdge F1 (0 : Int32) (99 : Int32) (sv (v11 + (2 : Int32)))) (0 : Int32) (sv (v11 + (2 : Int32)))) = 0 := by
  intros; rw [e_readEdge, if_pos rfl]
set_option maxRecDepth 65536 in
set_option maxHeartbeats 4000000 in
theorem own_p_h22 (sl : Int32) (sv : Int32 → Int32) (F1 : Nat → Int32) (G1 : Nat → Int64) (A1 : Nat → Int32 → Int32) (B1 : Nat → Int32 → Int64) (v1 : Int32) (v5 : Int32) (v6 : Int32) (v8 : Int32) (v9 : Int32) (v10 : Int32) (v11 : Int32) (hI : I8 F1 A1 v8 v9 v10 v5 v6 v11) (h0 : ¬ v11 < 0) (h1 : ¬ 260 < v11) (hs : ¬ 260 < sl) (e1 : v1 = sl) : (v11 + (2 : Int32)) < v1 → ¬ ((sv v11) &&& (15 : Int32)) < (7 : Int32) → ¬ ((sv v11) &&& (15 : Int32)) < (14 : Int32) → ((sv v11) &&& (15 : Int32)) = (14 : Int32) → ¬ (f_L_check (F_readEdge (F_writeEdge F1 (0 : Int32) (99 : Int32) (sv (v11 + (2 : Int32)))) (A_writeEdge F1 A1 (0 : Int32) (99 : Int32) (sv (v11 + (2 : Int32)))) (0 : Int32) (sv (v11 + (2 : Int32)))) (A_writeEdge F1 A1 (0 : Int32) (99 : Int32) (sv (v11 + (2 : Int32)))) v8 v9 v10 v5 v6) = 0 := by
  intro q _ _ _
  have a := advS (b := 2) (c := 3) 2 (by decide) (by decide) (by decide) h0 h1 hs (e1 ▸ q)
  exact chk (j14 hI _ _ _ a.1) a.2.2.2
set_option maxRecDepth 65536 in
set_option maxHeartbeats 4000000 in
theorem own_p_h27 (sl : Int32) (sv : Int32 → Int32) (F1 : Nat → Int32) (G1 : Nat → Int64) (A1 : Nat → Int32 → Int32) (B1 : Nat → Int32 → Int64) (v1 : Int32) (v5 : Int32) (v6 : Int32) (v8 : Int32) (v9 : Int32) (v10 : Int32) (v11 : Int32) (hI : I8 F1 A1 v8 v9 v10 v5 v6 v11) (h0 : ¬ v11 < 0) (h1 : ¬ 260 < v11) (hs : ¬ 260 < sl) (e1 : v1 = sl) : (v11 + (2 : Int32)) < v1 → ¬ ((sv v11) &&& (15 : Int32)) < (7 : Int32) → ((sv v11) &&& (15 : Int32)) < (14 : Int32) → ¬ (if ((sv (v11 + (1 : Int32))) &&& (7 : Int32)) = 0 then (0 : Int32) else (1 : Int32)) = 0 → (f_isEmpty F1) = 0 → (f_readEdge F1 (if ((sv (v11 + (1 : Int32))) &&& (7 : Int32)) = 0 then (0 : Int32) else (1 : Int32)) (sv (v11 + (2 : Int32)))) = (3 : Int32) := by
  intro _ _ _ g e; rw [isE] at e; rw [e_readEdge, if_neg g, if_pos e]
set_option maxRecDepth 65536 in
set_option maxHeartbeats 4000000 in
theorem own_p_h29 (sl : Int32) (sv : Int32 → Int32) (F1 : Nat → Int32) (G1 : Nat → Int64) (A1 : Nat → Int32 → Int32) (B1 : Nat → Int32 → Int64) (v1 : Int32) (v5 : Int32) (v6 : Int32) (v8 : Int32) (v9 : Int32) (v10 : Int32) (v11 : Int32) (hI : I8 F1 A1 v8 v9 v10 v5 v6 v11) (h0 : ¬ v11 < 0) (h1 : ¬ 260 < v11) (hs : ¬ 260 < sl) (e1 : v1 = sl) : (v11 + (2 : Int32)) < v1 → ¬ ((sv v11) &&& (15 : Int32)) < (7 : Int32) → ((sv v11) &&& (15 : Int32)) < (14 : Int32) → ¬ (if ((sv (v11 + (1 : Int32))) &&& (7 : Int32)) = 0 then (0 : Int32) else (1 : Int32)) = 0 → (f_isEmpty F1) = 0 → ¬ (f_L_check (F_readEdge F1 A1 (if ((sv (v11 + (1 : Int32))) &&& (7 : Int32)) = 0 then (0 : Int32) else (1 : Int32)) (sv (v11 + (2 : Int32)))) A1 v8 (v9 + (1 : Int32)) ((v9 * (7 : Int32)) + (3 : Int32)) v5 v6) = 0 := by
  intro q _ _ g e
  have a := advS (b := 2) (c := 3) 2 (by decide) (by decide) (by decide) h0 h1 hs (e1 ▸ q)
  exact chk ((i8_rd hI _ _ (v11 + 3) a.1).1 g e) a.2.2.2
set_option maxRecDepth 65536 in
set_option maxHeartbeats 4000000 in
theorem own_p_h32 (sl : Int32) (sv : Int32 → Int32) (F1 : Nat → Int32) (G1 : Nat → Int64) (A1 : Nat → Int32 → Int32) (B1 : Nat → Int32 → Int64) (v1 : Int32) (v5 : Int32) (v6 : Int32) (v8 : Int32) (v9 : Int32) (v10 : Int32) (v11 : Int32) (hI : I8 F1 A1 v8 v9 v10 v5 v6 v11) (h0 : ¬ v11 < 0) (h1 : ¬ 260 < v11) (hs : ¬ 260 < sl) (e1 : v1 = sl) : (v11 + (2 : Int32)) < v1 → ¬ ((sv v11) &&& (15 : Int32)) < (7 : Int32) → ((sv v11) &&& (15 : Int32)) < (14 : Int32) → ¬ (if ((sv (v11 + (1 : Int32))) &&& (7 : Int32)) = 0 then (0 : Int32) else (1 : Int32)) = 0 → ¬ (f_isEmpty F1) = 0 → (f_readEdge F1 (if ((sv (v11 + (1 : Int32))) &&& (7 : Int32)) = 0 then (0 : Int32) else (1 : Int32)) (sv (v11 + (2 : Int32)))) = (4 : Int32) := by
  intro _ _ _ g e; rw [isE] at e; rw [e_readEdge, if_neg g, if_neg e]
set_option maxRecDepth 65536 in
set_option maxHeartbeats 4000000 in
theorem own_p_h34 (sl : Int32) (sv : Int32 → Int32) (F1 : Nat → Int32) (G1 : Nat → Int64) (A1 : Nat → Int32 → Int32) (B1 : Nat → Int32 → Int64) (v1 : Int32) (v5 : Int32) (v6 : Int32) (v8 : Int32) (v9 : Int32) (v10 : Int32) (v11 : Int32) (hI : I8 F1 A1 v8 v9 v10 v5 v6 v11) (h0 : ¬ v11 < 0) (h1 : ¬ 260 < v11) (hs : ¬ 260 < sl) (e1 : v1 = sl) : (v11 + (2 : Int32)) < v1 → ¬ ((sv v11) &&& (15 : Int32)) < (7 : Int32) → ((sv v11) &&& (15 : Int32)) < (14 : Int32) → ¬ (if ((sv (v11 + (1 : Int32))) &&& (7 : Int32)) = 0 then (0 : Int32) else (1 : Int32)) = 0 → ¬ (f_isEmpty F1) = 0 → ¬ (f_L_check (F_readEdge F1 A1 (if ((sv (v11 + (1 : Int32))) &&& (7 : Int32)) = 0 then (0 : Int32) else (1 : Int32)) (sv (v11 + (2 : Int32)))) A1 v8 v9 v10 v5 v6) = 0 := by
  intro q _ _ g e
  have a := advS (b := 2) (c := 3) 2 (by decide) (by decide) (by decide) h0 h1 hs (e1 ▸ q)
  exact chk ((i8_rd hI _ _ (v11 + 3) a.1).2 (Or.inr e)) a.2.2.2
set_option maxRecDepth 65536 in
set_option maxHeartbeats 4000000 in
theorem own_p_h37 (sl : Int32) (sv : Int32 → Int32) (F1 : Nat → Int32) (G1 : Nat → Int64) (A1 : Nat → Int32 → Int32) (B1 : Nat → Int32 → Int64) (v1 : Int32) (v5 : Int32) (v6 : Int32) (v8 : Int32) (v9 : Int32) (v10 : Int32) (v11 : Int32) (hI : I8 F1 A1 v8 v9 v10 v5 v6 v11) (h0 : ¬ v11 < 0) (h1 : ¬ 260 < v11) (hs : ¬ 260 < sl) (e1 : v1 = sl) : (v11 + (2 : Int32)) < v1 → ¬ ((sv v11) &&& (15 : Int32)) < (7 : Int32) → ((sv v11) &&& (15 : Int32)) < (14 : Int32) → (if ((sv (v11 + (1 : Int32))) &&& (7 : Int32)) = 0 then (0 : Int32) else (1 : Int32)) = 0 → (f_readEdge F1 (if ((sv (v11 + (1 : Int32))) &&& (7 : Int32)) = 0 then (0 : Int32) else (1 : Int32)) (sv (v11 + (2 : Int32)))) = 0 := by
  intro _ _ _ g; rw [e_readEdge, if_pos g]
set_option maxRecDepth 65536 in
set_option maxHeartbeats 4000000 in
theorem own_p_h39 (sl : Int32) (sv : Int32 → Int32) (F1 : Nat → Int32) (G1 : Nat → Int64) (A1 : Nat → Int32 → Int32) (B1 : Nat → Int32 → Int64) (v1 : Int32) (v5 : Int32) (v6 : Int32) (v8 : Int32) (v9 : Int32) (v10 : Int32) (v11 : Int32) (hI : I8 F1 A1 v8 v9 v10 v5 v6 v11) (h0 : ¬ v11 < 0) (h1 : ¬ 260 < v11) (hs : ¬ 260 < sl) (e1 : v1 = sl) : (v11 + (2 : Int32)) < v1 → ¬ ((sv v11) &&& (15 : Int32)) < (7 : Int32) → ((sv v11) &&& (15 : Int32)) < (14 : Int32) → (if ((sv (v11 + (1 : Int32))) &&& (7 : Int32)) = 0 then (0 : Int32) else (1 : Int32)) = 0 → ¬ (f_L_check (F_readEdge F1 A1 (if ((sv (v11 + (1 : Int32))) &&& (7 : Int32)) = 0 then (0 : Int32) else (1 : Int32)) (sv (v11 + (2 : Int32)))) A1 v8 v9 v10 v5 v6) = 0 := by
  intro q _ _ g
  have a := advS (b := 2) (c := 3) 2 (by decide) (by decide) (by decide) h0 h1 hs (e1 ▸ q)
  exact chk ((i8_rd hI _ _ (v11 + 3) a.1).2 (Or.inl g)) a.2.2.2
set_option maxRecDepth 65536 in
set_option maxHeartbeats 4000000 in
theorem own_p_h44 (sl : Int32) (sv : Int32 → Int32) (F1 : Nat → Int32) (G1 : Nat → Int64) (A1 : Nat → Int32 → Int32) (B1 : Nat → Int32 → Int64) (v1 : Int32) (v5 : Int32) (v6 : Int32) (v8 : Int32) (v9 : Int32) (v10 : Int32) (v11 : Int32) (hI : I8 F1 A1 v8 v9 v10 v5 v6 v11) (h0 : ¬ v11 < 0) (h1 : ¬ 260 < v11) (hs : ¬ 260 < sl) (e1 : v1 = sl) : (v11 + (2 : Int32)) < v1 → ((sv v11) &&& (15 : Int32)) < (7 : Int32) → ¬ (if ((sv (v11 + (1 : Int32))) &&& (7 : Int32)) = 0 then (0 : Int32) else (1 : Int32)) = 0 → (f_isFull F1) = 0 → (f_writeEdge F1 (if ((sv (v11 + (1 : Int32))) &&& (7 : Int32)) = 0 then (0 : Int32) else (1 : Int32)) ((v8 * (7 : Int32)) + (3 : Int32)) (sv (v11 + (2 : Int32)))) = (1 : Int32) := by
  intro _ _ g e; rw [isF] at e; rw [e_writeEdge, if_neg g, if_pos e]
set_option maxRecDepth 65536 in
set_option maxHeartbeats 4000000 in
theorem own_p_h46 (sl : Int32) (sv : Int32 → Int32) (F1 : Nat → Int32) (G1 : Nat → Int64) (A1 : Nat → Int32 → Int32) (B1 : Nat → Int32 → Int64) (v1 : Int32) (v5 : Int32) (v6 : Int32) (v8 : Int32) (v9 : Int32) (v10 : Int32) (v11 : Int32) (hI : I8 F1 A1 v8 v9 v10 v5 v6 v11) (h0 : ¬ v11 < 0) (h1 : ¬ 260 < v11) (hs : ¬ 260 < sl) (e1 : v1 = sl) : (v11 + (2 : Int32)) < v1 → ((sv v11) &&& (15 : Int32)) < (7 : Int32) → ¬ (if ((sv (v11 + (1 : Int32))) &&& (7 : Int32)) = 0 then (0 : Int32) else (1 : Int32)) = 0 → (f_isFull F1) = 0 → ¬ (f_L_check (F_writeEdge F1 (if ((sv (v11 + (1 : Int32))) &&& (7 : Int32)) = 0 then (0 : Int32) else (1 : Int32)) ((v8 * (7 : Int32)) + (3 : Int32)) (sv (v11 + (2 : Int32)))) (A_writeEdge F1 A1 (if ((sv (v11 + (1 : Int32))) &&& (7 : Int32)) = 0 then (0 : Int32) else (1 : Int32)) ((v8 * (7 : Int32)) + (3 : Int32)) (sv (v11 + (2 : Int32)))) (v8 + (1 : Int32)) v9 v10 v5 v6) = 0 := by
  intro q _ g e
  have a := advS (b := 2) (c := 3) 2 (by decide) (by decide) (by decide) h0 h1 hs (e1 ▸ q)
  exact chk ((i8_wr hI _ _ _ (v11 + 3) a.1).1 g e rfl) a.2.2.2
set_option maxRecDepth 65536 in
set_option maxHeartbeats 4000000 in
theorem own_p_h49 (sl : Int32) (sv : Int32 → Int32) (F1 : Nat → Int32) (G1 : Nat → Int64) (A1 : Nat → Int32 → Int32) (B1 : Nat → Int32 → Int64) (v1 : Int32) (v5 : Int32) (v6 : Int32) (v8 : Int32) (v9 : Int32) (v10 : Int32) (v11 : Int32) (hI : I8 F1 A1 v8 v9 v10 v5 v6 v11) (h0 : ¬ v11 < 0) (h1 : ¬ 260 < v11) (hs : ¬ 260 < sl) (e1 : v1 = sl) : (v11 + (2 : Int32)) < v1 → ((sv v11) &&& (15 : Int32)) < (7 : Int32) → ¬ (if ((sv (v11 + (1 : Int32))) &&& (7 : Int32)) = 0 then (0 : Int32) else (1 : Int32)) = 0 → ¬ (f_isFull F1) = 0 → (f_writeEdge F1 (if ((sv (v11 + (1 : Int32))) &&& (7 : Int32)) = 0 then (0 : Int32) else (1 : Int32)) ((v8 * (7 : Int32)) + (3 : Int32)) (sv (v11 + (2 : Int32)))) = (2 : Int32) := by
  intro _ _ g e; rw [isF] at e; rw [e_writeEdge, if_neg g, if_neg e]
set_option maxRecDepth 65536 in
set_option maxHeartbeats 4000000 in
theorem own_p_h51 (sl : Int32) (sv : Int32 → Int32) (F1 : Nat → Int32) (G1 : Nat → Int64) (A1 : Nat → Int32 → Int32) (B1 : Nat → Int32 → Int64) (v1 : Int32) (v5 : Int32) (v6 : Int32) (v8 : Int32) (v9 : Int32) (v10 : Int32) (v11 : Int32) (hI : I8 F1 A1 v8 v9 v10 v5 v6 v11) (h0 : ¬ v11 < 0) (h1 : ¬ 260 < v11) (hs : ¬ 260 < sl) (e1 : v1 = sl) : (v11 + (2 : Int32)) < v1 → ((sv v11) &&& (15 : Int32)) < (7 : Int32) → ¬ (if ((sv (v11 + (1 : Int32))) &&& (7 : Int32)) = 0 then (0 : Int32) else (1 : Int32)) = 0 → ¬ (f_isFull F1) = 0 → ¬ (f_L_check (F_writeEdge F1 (if ((sv (v11 + (1 : Int32))) &&& (7 : Int32)) = 0 then (0 : Int32) else (1 : Int32)) ((v8 * (7 : Int32)) + (3 : Int32)) (sv (v11 + (2 : Int32)))) (A_writeEdge F1 A1 (if ((sv (v11 + (1 : Int32))) &&& (7 : Int32)) = 0 then (0 : Int32) else (1 : Int32)) ((v8 * (7 : Int32)) + (3 : Int32)) (sv (v11 + (2 : Int32)))) v8 v9 v10 v5 v6) = 0 := by
  intro q _ g e
  have a := advS (b := 2) (c := 3) 2 (by decide) (by decide) (by decide) h0 h1 hs (e1 ▸ q)
  exact chk ((i8_wr hI _ _ _ (v11 + 3) a.1).2 (Or.inr e)) a.2.2.2
set_option maxRecDepth 65536 in
set_option maxHeartbeats 4000000 in
theorem own_p_h54 (sl : Int32) (sv : Int32 → Int32) (F1 : Nat → Int32) (G1 : Nat → Int64) (A1 : Nat → Int32 → Int32) (B1 : Nat → Int32 → Int64) (v1 : Int32) (v5 : Int32) (v6 : Int32) (v8 : Int32) (v9 : Int32) (v10 : Int32) (v11 : Int32) (hI : I8 F1 A1 v8 v9 v10 v5 v6 v11) (h0 : ¬ v11 < 0) (h1 : ¬ 260 < v11) (hs : ¬ 260 < sl) (e1 : v1 = sl) : (v11 + (2 : Int32)) < v1 → ((sv v11) &&& (15 : Int32)) < (7 : Int32) → (if ((sv (v11 + (1 : Int32))) &&& (7 : Int32)) = 0 then (0 : Int32) else (1 : Int32)) = 0 → (f_writeEdge F1 (if ((sv (v11 + (1 : Int32))) &&& (7 : Int32)) = 0 then (0 : Int32) else (1 : Int32)) ((v8 * (7 : Int32)) + (3 : Int32)) (sv (v11 + (2 : Int32)))) = 0 := by
  intro _ _ g; rw [e_writeEdge, if_pos g]
set_option maxRecDepth 65536 in
set_option maxHeartbeats 4000000 in
theorem own_p_h56 (sl : Int32) (sv : Int32 → Int32) (F1 : Nat → Int32) (G1 : Nat → Int64) (A1 : Nat → Int32 → Int32) (B1 : Nat → Int32 → Int64) (v1 : Int32) (v5 : Int32) (v6 : Int32) (v8 : Int32) (v9 : Int32) (v10 : Int32) (v11 : Int32) (hI : I8 F1 A1 v8 v9 v10 v5 v6 v11) (h0 : ¬ v11 < 0) (h1 : ¬ 260 < v11) (hs : ¬ 260 < sl) (e1 : v1 = sl) : (v11 + (2 : Int32)) < v1 → ((sv v11) &&& (15 : Int32)) < (7 : Int32) → (if ((sv (v11 + (1 : Int32))) &&& (7 : Int32)) = 0 then (0 : Int32) else (1 : Int32)) = 0 → ¬ (f_L_check (F_writeEdge F1 (if ((sv (v11 + (1 : Int32))) &&& (7 : Int32)) = 0 then (0 : Int32) else (1 : Int32)) ((v8 * (7 : Int32)) + (3 : Int32)) (sv (v11 + (2 : Int32)))) (A_writeEdge F1 A1 (if ((sv (v11 + (1 : Int32))) &&& (7 : Int32)) = 0 then (0 : Int32) else (1 : Int32)) ((v8 * (7 : Int32)) + (3 : Int32)) (sv (v11 + (2 : Int32)))) v8 v9 v10 v5 v6) = 0 := by
  intro q _ g
  have a := advS (b := 2) (c := 3) 2 (by decide) (by decide) (by decide) h0 h1 hs (e1 ▸ q)
  exact chk ((i8_wr hI _ _ _ (v11 + 3) a.1).2 (Or.inl g)) a.2.2.2
set_option maxRecDepth 65536 in
set_option maxHeartbeats 4000000 in
theorem loop_158 {l : Launch} {Z : State} {a0 : Array Value} (H : OK Z a0) (sl : Int32) (sv : Int32 → Int32) (hs : ¬ 260 < sl) (G1 : Nat → Int64) (B1 : Nat → Int32 → Int64) (nn al : Int32) : ∀ (i : Int32) (s : (Nat → Int32) × (Nat → Int32 → Int32) × Int32 × Int32 × Int32), (¬ i < 0 ∧ ¬ 260 < i ∧ I8 s.1 s.2.1 s.2.2.1 s.2.2.2.1 s.2.2.2.2 nn al i) → Wk l Z (MoL Z cdC "CdcFifoL6" true) md_L_law 158 [.val (.ref 0), .val (.int sl), .unset, .unset, .val (.ref 1), .val (.int nn), .val (.int al), .unset, .val (.int s.2.2.1), .val (.int s.2.2.2.1), .val (.int s.2.2.2.2), .val (.int i), .unset, .unset, .unset, .unset, .unset] [] (sl, sv, [(1, s.1, G1, s.2.1, B1)]) 2 36 (fun v _ => v = some (.int (1 : Int32))) :=
  scan (fun i (s : (Nat → Int32) × (Nat → Int32 → Int32) × Int32 × Int32 × Int32) => Wk l Z (MoL Z cdC "CdcFifoL6" true) md_L_law 158 [.val (.ref 0), .val (.int sl), .unset, .unset, .val (.ref 1), .val (.int nn), .val (.int al), .unset, .val (.int s.2.2.1), .val (.int s.2.2.2.1), .val (.int s.2.2.2.2), .val (.int i), .unset, .unset, .unset, .unset, .unset] [] (sl, sv, [(1, s.1, G1, s.2.1, B1)]) 2 36 (fun v _ => v = some (.int (1 : Int32)))) (fun i s => ¬ i < 0 ∧ ¬ 260 < i ∧ I8 s.1 s.2.1 s.2.2.1 s.2.2.2.1 s.2.2.2.2 nn al i) sl fun i s hI ih =>
    wp_L_law_158 H sl sv s.1 G1 s.2.1 B1 sl nn al s.2.2.1 s.2.2.2.1 s.2.2.2.2 i (fun _ => rfl) (own_p_s3 sl sv s.1 G1 s.2.1 B1 sl nn al s.2.2.1 s.2.2.2.1 s.2.2.2.2 i hI.2.2 hI.1 hI.2.1 hs rfl) (own_p_s4 sl sv s.1 G1 s.2.1 B1 sl nn al s.2.2.1 s.2.2.2.1 s.2.2.2.2 i hI.2.2 hI.1 hI.2.1 hs rfl) (own_p_s5 sl sv s.1 G1 s.2.1 B1 sl nn al s.2.2.1 s.2.2.2.1 s.2.2.2.2 i hI.2.2 hI.1 hI.2.1 hs rfl) (own_p_s6 sl sv s.1 G1 s.2.1 B1 sl nn al s.2.2.1 s.2.2.2.1 s.2.2.2.2 i hI.2.2 hI.1 hI.2.1 hs rfl) (own_p_s9 sl sv s.1 G1 s.2.1 B1 sl nn al s.2.2.1 s.2.2.2.1 s.2.2.2.2 i hI.2.2 hI.1 hI.2.1 hs rfl) (own_p_s10 sl sv s.1 G1 s.2.1 B1 sl nn al s.2.2.1 s.2.2.2.1 s.2.2.2.2 i hI.2.2 hI.1 hI.2.1 hs rfl) (own_p_h15 sl sv s.1 G1 s.2.1 B1 sl nn al s.2.2.1 s.2.2.2.1 s.2.2.2.2 i hI.2.2 hI.1 hI.2.1 hs rfl) (fun q _ _ _ => have a := advS (b := 2) (c := 3) 2 (by decide) (by decide) (by decide) hI.1 hI.2.1 hs q; ih (i + 3) ((F_reset (s.1)), (A_reset (s.2.1)), (0 : Int32), (0 : Int32), (0 : Int32)) a.1 a.2.1 ⟨a.2.2.1, a.2.2.2, show I8 (F_reset (s.1)) (A_reset (s.2.1)) (0 : Int32) (0 : Int32) (0 : Int32) nn al (i + 3) from i8_reset hI.2.2 (i + 3) a.2.2.1⟩) (own_p_h18 sl sv s.1 G1 s.2.1 B1 sl nn al s.2.2.1 s.2.2.2.1 s.2.2.2.2 i hI.2.2 hI.1 hI.2.1 hs rfl) (own_p_h20 sl sv s.1 G1 s.2.1 B1 sl nn al s.2.2.1 s.2.2.2.1 s.2.2.2.2 i hI.2.2 hI.1 hI.2.1 hs rfl) (own_p_h22 sl sv s.1 G1 s.2.1 B1 sl nn al s.2.2.1 s.2.2.2.1 s.2.2.2.2 i hI.2.2 hI.1 hI.2.1 hs rfl) (fun q _ _ _ => have a := advS (b := 2) (c := 3) 2 (by decide) (by decide) (by decide) hI.1 hI.2.1 hs q; ih (i + 3) ((F_readEdge (F_writeEdge (s.1) (0 : Int32) (99 : Int32) (sv (i + (2 : Int32)))) (A_writeEdge (s.1) (s.2.1) (0 : Int32) (99 : Int32) (sv (i + (2 : Int32)))) (0 : Int32) (sv (i + (2 : Int32)))), (A_writeEdge (s.1) (s.2.1) (0 : Int32) (99 : Int32) (sv (i + (2 : Int32)))), (s.2.2.1), (s.2.2.2.1), (s.2.2.2.2)) a.1 a.2.1 ⟨a.2.2.1, a.2.2.2, show I8 (F_readEdge (F_writeEdge (s.1) (0 : Int32) (99 : Int32) (sv (i + (2 : Int32)))) (A_writeEdge (s.1) (s.2.1) (0 : Int32) (99 : Int32) (sv (i + (2 : Int32)))) (0 : Int32) (sv (i + (2 : Int32)))) (A_writeEdge (s.1) (s.2.1) (0 : Int32) (99 : Int32) (sv (i + (2 : Int32)))) (s.2.2.1) (s.2.2.2.1) (s.2.2.2.2) nn al (i + 3) from j14 hI.2.2 _ _ _ a.1⟩) (own_p_h27 sl sv s.1 G1 s.2.1 B1 sl nn al s.2.2.1 s.2.2.2.1 s.2.2.2.2 i hI.2.2 hI.1 hI.2.1 hs rfl) (own_p_h29 sl sv s.1 G1 s.2.1 B1 sl nn al s.2.2.1 s.2.2.2.1 s.2.2.2.2 i hI.2.2 hI.1 hI.2.1 hs rfl) (fun q _ _ g e => have a := advS (b := 2) (c := 3) 2 (by decide) (by decide) (by decide) hI.1 hI.2.1 hs q; ih (i + 3) ((F_readEdge (s.1) (s.2.1) (if ((sv (i + (1 : Int32))) &&& (7 : Int32)) = 0 then (0 : Int32) else (1 : Int32)) (sv (i + (2 : Int32)))), (s.2.1), (s.2.2.1), ((s.2.2.2.1) + (1 : Int32)), (((s.2.2.2.1) * (7 : Int32)) + (3 : Int32))) a.1 a.2.1 ⟨a.2.2.1, a.2.2.2, show I8 (F_readEdge (s.1) (s.2.1) (if ((sv (i + (1 : Int32))) &&& (7 : Int32)) = 0 then (0 : Int32) else (1 : Int32)) (sv (i + (2 : Int32)))) (s.2.1) (s.2.2.1) ((s.2.2.2.1) + (1 : Int32)) (((s.2.2.2.1) * (7 : Int32)) + (3 : Int32)) nn al (i + 3) from (i8_rd hI.2.2 _ _ (i + 3) a.1).1 g e⟩) (own_p_h32 sl sv s.1 G1 s.2.1 B1 sl nn al s.2.2.1 s.2.2.2.1 s.2.2.2.2 i hI.2.2 hI.1 hI.2.1 hs rfl) (own_p_h34 sl sv s.1 G1 s.2.1 B1 sl nn al s.2.2.1 s.2.2.2.1 s.2.2.2.2 i hI.2.2 hI.1 hI.2.1 hs rfl) (fun q _ _ g e => have a := advS (b := 2) (c := 3) 2 (by decide) (by decide) (by decide) hI.1 hI.2.1 hs q; ih (i + 3) ((F_readEdge (s.1) (s.2.1) (if ((sv (i + (1 : Int32))) &&& (7 : Int32)) = 0 then (0 : Int32) else (1 : Int32)) (sv (i + (2 : Int32)))), (s.2.1), (s.2.2.1), (s.2.2.2.1), (s.2.2.2.2)) a.1 a.2.1 ⟨a.2.2.1, a.2.2.2, show I8 (F_readEdge (s.1) (s.2.1) (if ((sv (i + (1 : Int32))) &&& (7 : Int32)) = 0 then (0 : Int32) else (1 : Int32)) (sv (i + (2 : Int32)))) (s.2.1) (s.2.2.1) (s.2.2.2.1) (s.2.2.2.2) nn al (i + 3) from (i8_rd hI.2.2 _ _ (i + 3) a.1).2 (Or.inr e)⟩) (own_p_h37 sl sv s.1 G1 s.2.1 B1 sl nn al s.2.2.1 s.2.2.2.1 s.2.2.2.2 i hI.2.2 hI.1 hI.2.1 hs rfl) (own_p_h39 sl sv s.1 G1 s.2.1 B1 sl nn al s.2.2.1 s.2.2.2.1 s.2.2.2.2 i hI.2.2 hI.1 hI.2.1 hs rfl) (fun q _ _ g => have a := advS (b := 2) (c := 3) 2 (by decide) (by decide) (by decide) hI.1 hI.2.1 hs q; ih (i + 3) ((F_readEdge (s.1) (s.2.1) (if ((sv (i + (1 : Int32))) &&& (7 : Int32)) = 0 then (0 : Int32) else (1 : Int32)) (sv (i + (2 : Int32)))), (s.2.1), (s.2.2.1), (s.2.2.2.1), (s.2.2.2.2)) a.1 a.2.1 ⟨a.2.2.1, a.2.2.2, show I8 (F_readEdge (s.1) (s.2.1) (if ((sv (i + (1 : Int32))) &&& (7 : Int32)) = 0 then (0 : Int32) else (1 : Int32)) (sv (i + (2 : Int32)))) (s.2.1) (s.2.2.1) (s.2.2.2.1) (s.2.2.2.2) nn al (i + 3) from (i8_rd hI.2.2 _ _ (i + 3) a.1).2 (Or.inl g)⟩) (own_p_h44 sl sv s.1 G1 s.2.1 B1 sl nn al s.2.2.1 s.2.2.2.1 s.2.2.2.2 i hI.2.2 hI.1 hI.2.1 hs rfl) (own_p_h46 sl sv s.1 G1 s.2.1 B1 sl nn al s.2.2.1 s.2.2.2.1 s.2.2.2.2 i hI.2.2 hI.1 hI.2.1 hs rfl) (fun q _ g e => have a := advS (b := 2) (c := 3) 2 (by decide) (by decide) (by decide) hI.1 hI.2.1 hs q; ih (i + 3) ((F_writeEdge (s.1) (if ((sv (i + (1 : Int32))) &&& (7 : Int32)) = 0 then (0 : Int32) else (1 : Int32)) (((s.2.2.1) * (7 : Int32)) + (3 : Int32)) (sv (i + (2 : Int32)))), (A_writeEdge (s.1) (s.2.1) (if ((sv (i + (1 : Int32))) &&& (7 : Int32)) = 0 then (0 : Int32) else (1 : Int32)) (((s.2.2.1) * (7 : Int32)) + (3 : Int32)) (sv (i + (2 : Int32)))), ((s.2.2.1) + (1 : Int32)), (s.2.2.2.1), (s.2.2.2.2)) a.1 a.2.1 ⟨a.2.2.1, a.2.2.2, show I8 (F_writeEdge (s.1) (if ((sv (i + (1 : Int32))) &&& (7 : Int32)) = 0 then (0 : Int32) else (1 : Int32)) (((s.2.2.1) * (7 : Int32)) + (3 : Int32)) (sv (i + (2 : Int32)))) (A_writeEdge (s.1) (s.2.1) (if ((sv (i + (1 : Int32))) &&& (7 : Int32)) = 0 then (0 : Int32) else (1 : Int32)) (((s.2.2.1) * (7 : Int32)) + (3 : Int32)) (sv (i + (2 : Int32)))) ((s.2.2.1) + (1 : Int32)) (s.2.2.2.1) (s.2.2.2.2) nn al (i + 3) from (i8_wr hI.2.2 _ _ _ (i + 3) a.1).1 g e rfl⟩) (own_p_h49 sl sv s.1 G1 s.2.1 B1 sl nn al s.2.2.1 s.2.2.2.1 s.2.2.2.2 i hI.2.2 hI.1 hI.2.1 hs rfl) (own_p_h51 sl sv s.1 G1 s.2.1 B1 sl nn al s.2.2.1 s.2.2.2.1 s.2.2.2.2 i hI.2.2 hI.1 hI.2.1 hs rfl) (fun q _ g e => have a := advS (b := 2) (c := 3) 2 (by decide) (by decide) (by decide) hI.1 hI.2.1 hs q; ih (i + 3) ((F_writeEdge (s.1) (if ((sv (i + (1 : Int32))) &&& (7 : Int32)) = 0 then (0 : Int32) else (1 : Int32)) (((s.2.2.1) * (7 : Int32)) + (3 : Int32)) (sv (i + (2 : Int32)))), (A_writeEdge (s.1) (s.2.1) (if ((sv (i + (1 : Int32))) &&& (7 : Int32)) = 0 then (0 : Int32) else (1 : Int32)) (((s.2.2.1) * (7 : Int32)) + (3 : Int32)) (sv (i + (2 : Int32)))), (s.2.2.1), (s.2.2.2.1), (s.2.2.2.2)) a.1 a.2.1 ⟨a.2.2.1, a.2.2.2, show I8 (F_writeEdge (s.1) (if ((sv (i + (1 : Int32))) &&& (7 : Int32)) = 0 then (0 : Int32) else (1 : Int32)) (((s.2.2.1) * (7 : Int32)) + (3 : Int32)) (sv (i + (2 : Int32)))) (A_writeEdge (s.1) (s.2.1) (if ((sv (i + (1 : Int32))) &&& (7 : Int32)) = 0 then (0 : Int32) else (1 : Int32)) (((s.2.2.1) * (7 : Int32)) + (3 : Int32)) (sv (i + (2 : Int32)))) (s.2.2.1) (s.2.2.2.1) (s.2.2.2.2) nn al (i + 3) from (i8_wr hI.2.2 _ _ _ (i + 3) a.1).2 (Or.inr e)⟩) (own_p_h54 sl sv s.1 G1 s.2.1 B1 sl nn al s.2.2.1 s.2.2.2.1 s.2.2.2.2 i hI.2.2 hI.1 hI.2.1 hs rfl) (own_p_h56 sl sv s.1 G1 s.2.1 B1 sl nn al s.2.2.1 s.2.2.2.1 s.2.2.2.2 i hI.2.2 hI.1 hI.2.1 hs rfl) (fun q _ g => have a := advS (b := 2) (c := 3) 2 (by decide) (by decide) (by decide) hI.1 hI.2.1 hs q; ih (i + 3) ((F_writeEdge (s.1) (if ((sv (i + (1 : Int32))) &&& (7 : Int32)) = 0 then (0 : Int32) else (1 : Int32)) (((s.2.2.1) * (7 : Int32)) + (3 : Int32)) (sv (i + (2 : Int32)))), (A_writeEdge (s.1) (s.2.1) (if ((sv (i + (1 : Int32))) &&& (7 : Int32)) = 0 then (0 : Int32) else (1 : Int32)) (((s.2.2.1) * (7 : Int32)) + (3 : Int32)) (sv (i + (2 : Int32)))), (s.2.2.1), (s.2.2.2.1), (s.2.2.2.2)) a.1 a.2.1 ⟨a.2.2.1, a.2.2.2, show I8 (F_writeEdge (s.1) (if ((sv (i + (1 : Int32))) &&& (7 : Int32)) = 0 then (0 : Int32) else (1 : Int32)) (((s.2.2.1) * (7 : Int32)) + (3 : Int32)) (sv (i + (2 : Int32)))) (A_writeEdge (s.1) (s.2.1) (if ((sv (i + (1 : Int32))) &&& (7 : Int32)) = 0 then (0 : Int32) else (1 : Int32)) (((s.2.2.1) * (7 : Int32)) + (3 : Int32)) (sv (i + (2 : Int32)))) (s.2.2.1) (s.2.2.2.1) (s.2.2.2.2) nn al (i + 3) from (i8_wr hI.2.2 _ _ _ (i + 3) a.1).2 (Or.inl g)⟩)
set_option maxRecDepth 65536 in
set_option maxHeartbeats 4000000 in
theorem own_e_s2 (sl : Int32) (sv : Int32 → Int32) : 0 < sl → (0 : Int32) < sl := by
  exact fun q => q
set_option maxRecDepth 65536 in
set_option maxHeartbeats 4000000 in
theorem own_e_h15 (sl : Int32) (sv : Int32 → Int32) : (f_getConfig (F_init (if 0 < sl then ((sv (0 : Int32)) &&& (3 : Int32)) else (2 : Int32)) (if (1 : Int32) < sl then ((sv (1 : Int32)) &&& (15 : Int32)) else (3 : Int32))) (0 : Int32)) = (if (if 0 < sl then ((sv (0 : Int32)) &&& (3 : Int32)) else (2 : Int32)) < (2 : Int32) then (4 : Int32) else ((1 : Int32) <<< ((if 0 < sl then ((sv (0 : Int32)) &&& (3 : Int32)) else (2 : Int32)) &&& 31))) := by
  rw [e_getConfig, if_pos rfl, F_init_0]; exact (cl4 _ (dl_cases sl sv)).1
set_option maxRecDepth 65536 in
set_option maxHeartbeats 4000000 in
theorem own_e_h17 (sl : Int32) (sv : Int32 → Int32) : (f_getConfig (F_init (if 0 < sl then ((sv (0 : Int32)) &&& (3 : Int32)) else (2 : Int32)) (if (1 : Int32) < sl then ((sv (1 : Int32)) &&& (15 : Int32)) else (3 : Int32))) (1 : Int32)) = (if (if (1 : Int32) < sl then ((sv (1 : Int32)) &&& (15 : Int32)) else (3 : Int32)) < (1 : Int32) then (1 : Int32) else (if (if (if 0 < sl then ((sv (0 : Int32)) &&& (3 : Int32)) else (2 : Int32)) < (2 : Int32) then (4 : Int32) else ((1 : Int32) <<< ((if 0 < sl then ((sv (0 : Int32)) &&& (3 : Int32)) else (2 : Int32)) &&& 31))) < (if (1 : Int32) < sl then ((sv (1 : Int32)) &&& (15 : Int32)) else (3 : Int32)) then (if (if 0 < sl then ((sv (0 : Int32)) &&& (3 : Int32)) else (2 : Int32)) < (2 : Int32) then (4 : Int32) else ((1 : Int32) <<< ((if 0 < sl then ((sv (0 : Int32)) &&& (3 : Int32)) else (2 : Int32)) &&& 31))) else (if (1 : Int32) < sl then ((sv (1 : Int32)) &&& (15 : Int32)) else (3 : Int32)))) := by
  rw [e_getConfig, if_neg (by decide), if_pos rfl, F_init_1, (cl4 _ (dl_cases sl sv)).1, e_clampInt]
set_option maxRecDepth 65536 in
set_option maxHeartbeats 4000000 in
theorem own_e_h19 (sl : Int32) (sv : Int32 → Int32) : (f_getConfig (F_init (if 0 < sl then ((sv (0 : Int32)) &&& (3 : Int32)) else (2 : Int32)) (if (1 : Int32) < sl then ((sv (1 : Int32)) &&& (15 : Int32)) else (3 : Int32))) (2 : Int32)) = (if (if 0 < sl then ((sv (0 : Int32)) &&& (3 : Int32)) else (2 : Int32)) < (2 : Int32) then (3 : Int32) else ((if 0 < sl then ((sv (0 : Int32)) &&& (3 : Int32)) else (2 : Int32)) + (1 : Int32))) := by
  rw [e_getConfig, if_neg (by decide), if_neg (by decide), if_pos rfl, F_init_2]; exact (cl4 _ (dl_cases sl sv)).2
set_option maxRecDepth 65536 in
set_option maxHeartbeats 4000000 in
theorem own_e_h21 (sl : Int32) (sv : Int32 → Int32) : ¬ (f_L_check (F_init (if 0 < sl then ((sv (0 : Int32)) &&& (3 : Int32)) else (2 : Int32)) (if (1 : Int32) < sl then ((sv (1 : Int32)) &&& (15 : Int32)) else (3 : Int32))) (A_init (if 0 < sl then ((sv (0 : Int32)) &&& (3 : Int32)) else (2 : Int32)) (if (1 : Int32) < sl then ((sv (1 : Int32)) &&& (15 : Int32)) else (3 : Int32))) (0 : Int32) (0 : Int32) (0 : Int32) (if (if 0 < sl then ((sv (0 : Int32)) &&& (3 : Int32)) else (2 : Int32)) < (2 : Int32) then (4 : Int32) else ((1 : Int32) <<< ((if 0 < sl then ((sv (0 : Int32)) &&& (3 : Int32)) else (2 : Int32)) &&& 31))) (if (if (1 : Int32) < sl then ((sv (1 : Int32)) &&& (15 : Int32)) else (3 : Int32)) < (1 : Int32) then (1 : Int32) else (if (if (if 0 < sl then ((sv (0 : Int32)) &&& (3 : Int32)) else (2 : Int32)) < (2 : Int32) then (4 : Int32) else ((1 : Int32) <<< ((if 0 < sl then ((sv (0 : Int32)) &&& (3 : Int32)) else (2 : Int32)) &&& 31))) < (if (1 : Int32) < sl then ((sv (1 : Int32)) &&& (15 : Int32)) else (3 : Int32)) then (if (if 0 < sl then ((sv (0 : Int32)) &&& (3 : Int32)) else (2 : Int32)) < (2 : Int32) then (4 : Int32) else ((1 : Int32) <<< ((if 0 < sl then ((sv (0 : Int32)) &&& (3 : Int32)) else (2 : Int32)) &&& 31))) else (if (1 : Int32) < sl then ((sv (1 : Int32)) &&& (15 : Int32)) else (3 : Int32))))) = 0 := by
  exact chk (i8_init _ _ (dl_cases sl sv) _ _ rfl (by rw [F_init_1, (cl4 _ (dl_cases sl sv)).1, e_clampInt])) (by decide)
theorem law_ok {l : Launch} {Z : State} {a0 : Array Value} (H : OK Z a0) (sl : Int32) (sv : Int32 → Int32) (q2 : ¬ sl < 0) (q3 : ¬ 260 < sl) : Wk l Z (MoL Z cdC "CdcFifoL6" true) md_L_law 0 [.val (.ref 0), .unset, .unset, .unset, .unset, .unset, .unset, .unset, .unset, .unset, .unset, .unset, .unset, .unset, .unset, .unset, .unset] [] (sl, sv, []) 0 0 (fun v _ => v = some (.int (1 : Int32))) :=
  wp_L_law H sl sv (own_e_s2 sl sv  ) (own_e_h15 sl sv  ) (own_e_h17 sl sv  ) (own_e_h19 sl sv  ) (own_e_h21 sl sv  ) (loop_158 H sl sv q3 _ _ _ _ 2 (_, _, _, _, _) ⟨by decide, by decide, i8_init _ _ (dl_cases sl sv) _ _ rfl (by rw [F_init_1, (cl4 _ (dl_cases sl sv)).1, e_clampInt])⟩)
set_option maxRecDepth 65536 in
set_option maxHeartbeats 40000000 in
theorem comes_1 {Post : Tables → Env → Array Value → State → Outcome → State → Prop} (hpost : ∀ tb e args s v u, (limb_1_1.after args s (.returned v) u = true ∧ limb_1_2.after args s (.returned v) u = true ∧ True) → FrameEnd s (.returned v) u (Jvm.fieldLocs frame_1_writes args s ++ Jvm.arrayLocs frame_1_arrays args s ++ Jvm.staticLocs frame_1_statics s) room_1.cells room_1.slots → Post tb e args s (.returned v) u) :
    ArmFor flags0 classFile x code maxLocals ret World_1 tables_1 room_1 Calls_1 rest_1 Pre_1 Post := by
  intro l hfl _ _ p e ha hc hk s m args below hf hA hF happ hP
  obtain ⟨hcalls, hrest, hpre⟩ := hP
  obtain ⟨-, -, -, hnamed, -, -, -, hat⟩ := (Spec.applies_iff hf).mp happ
  obtain ⟨hg, hn⟩ := and_e (Cond.before_iff.mp (show (Jvm.Cond.and given_1 narrow_1).before args s = true from hpre))
  obtain ⟨h1, h2⟩ := and_e hg
  obtain ⟨w0, rfl⟩ : ∃ w0 : Value, args = #[w0] := by
    have hs : args.size = 1 := by simpa [Cond.value, given_1] using h1
    obtain ⟨L⟩ := args
    match L, hs with
    | [w0], _ => exact ⟨w0, rfl⟩
  have hw : OK s #[w0] := fun d (hd : d ∈ tables_1) => atoms_spec (ws := Jvm.Cond.code x code maxLocals ret :: tables_1) hat d (List.mem_cons_of_mem _ hd)
  obtain ⟨na, nl⟩ := and_e hn
  obtain ⟨sa, ea⟩ := arr_v na
  obtain rfl : w0 = .ref sa := Option.some.inj ea
  obtain ⟨-, hr2⟩ := and_e (Cond.before_iff.mp (show rest_1_c.before #[.ref sa] s = true from hrest))
  obtain ⟨sl, sv, q1, q2, q3, q4⟩ := script_at na hr2 nl
  have rel0 : relL s cdC true (s.heap.size, sa) (sl, sv, []) s.heap := ⟨fun _ => ⟨q1, q2, q4⟩, fun i x q => (by simp at q), (by simp)⟩
  obtain ⟨n, o, h1, h2, h3, v, L, rfl, ⟨w', hv, hrel, hfrm, N, hsz, hnr⟩, hq⟩ := (law_ok hw sl sv q2 q3).met (M := MoL s cdC "CdcFifoL6" true) (l := l) pn_CdcFifoL6 rfl (en := (s.heap.size, sa)) rel0 [.ref 0] rfl rfl tables_1 p e ha hc hk s m _ below hf ((Spec.applies_iff_loose hf).mp happ).1 ⟨rfl, State.Warmed39.refl s, rfl⟩ trivial
  subst hv
  exact ⟨n, _, h1, h2, h3, hpost _ _ _ _ _ _ ⟨Cond.after_iff.mpr rfl, Cond.after_iff.mpr (eq_i res_at (Term.int_eval (1)) rfl), trivial⟩ ⟨hq.1, hq.2.1, (hq.2.2.sift fun y hy => Or.inr (N y hy)).mono (Nat.le_refl _) (Nat.le_refl _)⟩⟩
theorem main_1_1 : Claimed_1_1 := comes_1 fun _ _ _ _ _ _ h hF => ⟨h.1, hF⟩
theorem main_1_2 : Claimed_1_2 := comes_1 fun _ _ _ _ _ _ h hF => ⟨h.2.1, hF⟩
end Jvm.Pilot.@@N@@
namespace Jvm.Pilot.@@N@@
open Jvm Jvm.ClassFile Sem Op Lib Jvm.Free Jvm.Stand Jvm.Pilot.@@N@@.Jvm.D
/-! MADE BY PROGRAM (witnessworld.py) out of the Statement's table words and the real class files: 9 classes; the members and pool entries that the words name. The judged class is class 1, her method 1. -/
namespace start1
open Jvm.ClassFile
def u (s : String) : CpInfo := .utf8 (stringToUtf16 s)
/-- a pool by its gaps: so many unusable entries, then the entry; so many at the end -/
def gap : Nat → List CpInfo → List CpInfo
  | 0, r => r
  | n + 1, r => .unusable :: gap n r
def poolList (es : List (Nat × CpInfo)) (last : Nat) : List CpInfo := es.foldr (fun e r => gap e.1 (e.2 :: r)) (gap last [])
def pool (es : List (Nat × CpInfo)) (last : Nat) : Array CpInfo := ⟨poolList es last⟩
def fileOf (pool : Array CpInfo) (this : Nat) (attrs : Array Attribute := #[]) (ms : Array MethodInfo := #[]) (fl : Nat := 33) (sup : Nat := 0) (ifs : Array Nat := #[]) (fds : Array FieldInfo := #[]) : ClassFile where
  minorVersion := 0
  majorVersion := 65
  constantPool := pool
  accessFlags := fl
  thisClass := this
  superClass := sup
  interfaces := ifs
  fields := fds
  methods := ms
  attributes := attrs
def plain (name : String) (sup : Option ClassId) : Class where
  name := name
  kind := .ordinary
  loader := none
  accessFlags := 33
  super := sup
  interfaces := #[]
  cf := none
  fields := #[]
  methods := #[]
  instanceTypes := #[]
  staticTypes := #[]
  resolved := #[]
  callSites := []
  init := .initialized
  statics := none
  mirror := none

def pool0 : Array CpInfo := pool [(5, u "<init>"), (0, u "()V"), (1, .class_ 10), (1, u "java/lang/Object")] 113

def k0c0 : Code := { maxStack := 0, maxLocals := 1, code := object_method_1_code, exceptionTable := #[], attributes := #[] }
def k0m0 : Method := { name := "<init>", desc := "()V", sig := { parameters := [], returnType := none }, accessFlags := 1, code := some k0c0 }
/-- java/lang/Object -/
def k0 : Class := { plain "java/lang/Object" none with
  accessFlags := 33
  interfaces := #[]
  cf := some (fileOf pool0 8 #[] #[{ accessFlags := 1, nameIndex := 5, descriptorIndex := 6, attributes := #[] }] 33 0 #[] #[])
  fields := #[]
  methods := #[k0m0]
  instanceTypes := #[]
  staticTypes := #[]
  resolved := Array.replicate 124 none
  statics := none }

def pool1 : Array CpInfo := pool [(2, .class_ 4), (1, u "java/lang/Object"), (0, u "<init>"), (0, u "()V"), (0, .class_ 8), (0, u "CdcFifo"), (0, .methodref 7 10), (0, .nameAndType 5 11), (0, u "(II)V"), (0, .methodref 7 13), (0, .nameAndType 14 15), (0, u "getConfig"), (0, u "(I)I"), (0, .methodref 17 18), (0, .class_ 19), (0, .nameAndType 20 21), (0, u "CdcFifoL6"), (0, u "check"), (0, u "(LCdcFifo;IIIII)Z"), (0, .methodref 7 23), (0, .nameAndType 24 25), (0, u "isFull"), (0, u "()Z"), (0, .methodref 7 27), (0, .nameAndType 28 29), (0, u "writeEdge"), (0, u "(ZII)I"), (0, .methodref 7 31), (0, .nameAndType 32 25), (0, u "isEmpty"), (0, .methodref 7 34), (0, .nameAndType 35 36), (0, u "readEdge"), (0, u "(ZI)I"), (0, .methodref 7 38), (0, .nameAndType 39 6), (0, u "reset"), (0, .methodref 7 41), (0, .nameAndType 42 15), (0, u "getTotal"), (0, .methodref 7 44), (0, .nameAndType 45 46), (0, u "getCount"), (0, u "()I"), (0, .methodref 7 48), (0, .nameAndType 49 46), (0, u "getLastRead"), (0, .methodref 7 51), (0, .nameAndType 52 15), (0, u "getPointerGray"), (0, .methodref 7 54), (0, .nameAndType 55 15), (0, u "getFill"), (0, .methodref 7 57), (0, .nameAndType 58 25), (0, u "isAlmostFull"), (0, .methodref 7 60), (0, .nameAndType 61 15), (0, u "getUnread"), (2, u "law"), (0, u "([I)Z")] 5

def k1m0 : Method := { name := "<init>", desc := "()V", sig := { parameters := [], returnType := none }, accessFlags := 1, code := none }
def k1c1 : Code := { maxStack := 6, maxLocals := 17, code := code, exceptionTable := #[], attributes := #[] }
def k1m1 : Method := { name := "law", desc := "([I)Z", sig := { parameters := [(.array .int)], returnType := some .boolean }, accessFlags := 9, code := some k1c1 }
def k1c2 : Code := { maxStack := 4, maxLocals := 12, code := method_3_code, exceptionTable := #[], attributes := #[] }
def k1m2 : Method := { name := "check", desc := "(LCdcFifo;IIIII)Z", sig := { parameters := [(.object "CdcFifo"), .int, .int, .int, .int, .int], returnType := some .boolean }, accessFlags := 10, code := some k1c2 }
/-- CdcFifoL6 -/
def k1 : Class := { plain "CdcFifoL6" (some 0) with
  accessFlags := 33
  interfaces := #[]
  cf := some (fileOf pool1 17 #[] #[{ accessFlags := 1, nameIndex := 5, descriptorIndex := 6, attributes := #[] }, { accessFlags := 9, nameIndex := 64, descriptorIndex := 65, attributes := #[] }, { accessFlags := 10, nameIndex := 20, descriptorIndex := 21, attributes := #[] }] 33 2 #[] #[])
  fields := #[]
  methods := #[k1m0, k1m1, k1m2]
  instanceTypes := #[]
  staticTypes := #[]
  resolved := Array.replicate 71 none
  statics := none }

def pool2 : Array CpInfo := pool [(1, .methodref 2 3), (0, .class_ 4), (0, .nameAndType 5 6), (0, u "java/lang/Object"), (0, u "<init>"), (0, u "()V"), (0, .fieldref 8 9), (0, .class_ 10), (0, .nameAndType 11 12), (0, u "CdcFifo"), (0, u "cell"), (0, u "[I"), (0, .methodref 8 14), (0, .nameAndType 15 16), (0, u "clampInt"), (0, u "(III)I"), (0, .fieldref 8 18), (0, .nameAndType 19 20), (0, u "depth"), (0, u "I"), (0, .fieldref 8 22), (0, .nameAndType 23 20), (0, u "width"), (0, .fieldref 8 25), (0, .nameAndType 26 20), (0, u "modulus"), (0, .fieldref 8 28), (0, .nameAndType 29 20), (0, u "almost"), (0, .methodref 8 31), (0, .nameAndType 32 6), (0, u "clearAll"), (0, .methodref 8 34), (0, .nameAndType 35 36), (0, u "fullNow"), (0, u "()Z"), (0, .methodref 8 38), (0, .nameAndType 39 40), (0, u "shiftWriteSync"), (0, u "(I)V"), (0, .methodref 8 42), (0, .nameAndType 43 40), (0, u "acceptWrite"), (0, .methodref 8 45), (0, .nameAndType 46 36), (0, u "emptyNow"), (0, .methodref 8 48), (0, .nameAndType 49 40), (0, u "shiftReadSync"), (0, .methodref 8 51), (0, .nameAndType 52 6), (0, u "popRead"), (0, .methodref 8 54), (0, .nameAndType 55 56), (0, u "writeFillValue"), (0, u "()I"), (0, .methodref 8 58), (0, .nameAndType 59 56), (0, u "readFillValue"), (0, .fieldref 8 61), (0, .nameAndType 62 20), (0, u "wgray"), (0, .fieldref 8 64), (0, .nameAndType 65 20), (0, u "rgray"), (0, .fieldref 8 67), (0, .nameAndType 68 20), (0, u "wq1"), (0, .fieldref 8 70), (0, .nameAndType 71 20), (0, u "wq2"), (0, .fieldref 8 73), (0, .nameAndType 74 20), (0, u "rq1"), (0, .fieldref 8 76), (0, .nameAndType 77 20), (0, u "rq2"), (0, .fieldref 8 79), (0, .nameAndType 80 81), (0, u "wChanging"), (0, u "Z"), (0, .fieldref 8 83), (0, .nameAndType 84 81), (0, u "rChanging"), (0, .fieldref 8 86), (0, .nameAndType 87 20), (0, u "lastRead"), (0, .methodref 8 89), (0, .nameAndType 90 56), (0, u "countValue"), (0, .fieldref 8 92), (0, .nameAndType 93 20), (0, u "rbin"), (0, .methodref 8 95), (0, .nameAndType 96 97), (0, u "readCell"), (0, u "(I)I"), (0, .fieldref 8 99), (0, .nameAndType 100 20), (0, u "totalW"), (0, .fieldref 8 102), (0, .nameAndType 103 20), (0, u "totalR"), (0, .methodref 8 105), (0, .nameAndType 106 56), (0, u "pointerMask"), (0, .methodref 8 108), (0, .nameAndType 109 97), (0, u "modPointer"), (0, .methodref 8 111), (0, .nameAndType 112 97), (0, u "decode"), (0, .fieldref 8 114), (0, .nameAndType 115 20), (0, u "wbin"), (0, .fieldref 8 117), (0, .nameAndType 118 20), (0, u "rprev"), (0, .methodref 8 120), (0, .nameAndType 121 122), (0, u "sample"), (0, u "(IIZI)I"), (0, .fieldref 8 124), (0, .nameAndType 125 20), (0, u "wprev"), (0, .methodref 8 127), (0, .nameAndType 128 129), (0, u "writeCell"), (0, u "(II)V"), (0, .methodref 8 131), (0, .nameAndType 132 97), (0, u "gray"), (0, .methodref 8 134), (0, .nameAndType 135 97), (0, u "slotOf"), (0, .methodref 8 137), (0, .nameAndType 138 6), (0, u "clearWriteSide"), (0, .methodref 8 140), (0, .nameAndType 141 6), (0, u "clearReadSide"), (0, .methodref 8 143), (0, .nameAndType 144 6), (0, u "clearSyncs"), (0, .methodref 8 146), (0, .nameAndType 147 6), (0, u "clearCells"), (0, u "WRITE_SIDE"), (2, u "READ_SIDE"), (1, u "IDLE"), (0, u "ACCEPTED"), (0, u "REJECTED_FULL"), (1, u "POPPED"), (1, u "REJECTED_EMPTY"), (1, u "SYNC_W1"), (0, u "SYNC_W2"), (0, u "SYNC_R1"), (0, u "SYNC_R2"), (0, u "CONFIG_DEPTH"), (0, u "CONFIG_ALMOST"), (0, u "CONFIG_WIDTH"), (0, u "MAX_DEPTH"), (1, u "MIN_DEPTH_LOG"), (0, u "MAX_DEPTH_LOG"), (2, u "writeEdge"), (0, u "(ZII)I"), (1, u "readEdge"), (0, u "(ZI)I"), (0, u "reset"), (0, u "isFull"), (0, u "isEmpty"), (0, u "isAlmostFull"), (0, u "getFill"), (0, u "getPointerGray"), (3, u "getLastRead"), (0, u "getUnread"), (0, u "getCount"), (0, u "getTotal"), (0, u "getConfig")] 2

def k2c0 : Code := { maxStack := 5, maxLocals := 4, code := prog_1_method_1_code, exceptionTable := #[], attributes := #[] }
def k2m0 : Method := { name := "<init>", desc := "(II)V", sig := { parameters := [.int, .int], returnType := none }, accessFlags := 1, code := some k2c0 }
def k2c1 : Code := { maxStack := 2, maxLocals := 5, code := prog_1_method_2_code, exceptionTable := #[], attributes := #[] }
def k2m1 : Method := { name := "writeEdge", desc := "(ZII)I", sig := { parameters := [.boolean, .int, .int], returnType := some .int }, accessFlags := 1, code := some k2c1 }
def k2c2 : Code := { maxStack := 2, maxLocals := 4, code := prog_1_method_3_code, exceptionTable := #[], attributes := #[] }
def k2m2 : Method := { name := "readEdge", desc := "(ZI)I", sig := { parameters := [.boolean, .int], returnType := some .int }, accessFlags := 1, code := some k2c2 }
def k2c3 : Code := { maxStack := 1, maxLocals := 1, code := prog_1_method_4_code, exceptionTable := #[], attributes := #[] }
def k2m3 : Method := { name := "reset", desc := "()V", sig := { parameters := [], returnType := none }, accessFlags := 1, code := some k2c3 }
def k2c4 : Code := { maxStack := 1, maxLocals := 1, code := prog_1_method_5_code, exceptionTable := #[], attributes := #[] }
def k2m4 : Method := { name := "isFull", desc := "()Z", sig := { parameters := [], returnType := some .boolean }, accessFlags := 1, code := some k2c4 }
def k2c5 : Code := { maxStack := 1, maxLocals := 1, code := prog_1_method_6_code, exceptionTable := #[], attributes := #[] }
def k2m5 : Method := { name := "isEmpty", desc := "()Z", sig := { parameters := [], returnType := some .boolean }, accessFlags := 1, code := some k2c5 }
def k2c6 : Code := { maxStack := 2, maxLocals := 1, code := prog_1_method_7_code, exceptionTable := #[], attributes := #[] }
def k2m6 : Method := { name := "isAlmostFull", desc := "()Z", sig := { parameters := [], returnType := some .boolean }, accessFlags := 1, code := some k2c6 }
def k2c7 : Code := { maxStack := 2, maxLocals := 2, code := prog_1_method_8_code, exceptionTable := #[], attributes := #[] }
def k2m7 : Method := { name := "getFill", desc := "(I)I", sig := { parameters := [.int], returnType := some .int }, accessFlags := 1, code := some k2c7 }
def k2c8 : Code := { maxStack := 2, maxLocals := 2, code := prog_1_method_9_code, exceptionTable := #[], attributes := #[] }
def k2m8 : Method := { name := "getPointerGray", desc := "(I)I", sig := { parameters := [.int], returnType := some .int }, accessFlags := 1, code := some k2c8 }
def k2c9 : Code := { maxStack := 1, maxLocals := 1, code := prog_1_method_12_code, exceptionTable := #[], attributes := #[] }
def k2m9 : Method := { name := "getLastRead", desc := "()I", sig := { parameters := [], returnType := some .int }, accessFlags := 1, code := some k2c9 }
def k2c10 : Code := { maxStack := 3, maxLocals := 2, code := prog_1_method_13_code, exceptionTable := #[], attributes := #[] }
def k2m10 : Method := { name := "getUnread", desc := "(I)I", sig := { parameters := [.int], returnType := some .int }, accessFlags := 1, code := some k2c10 }
def k2c11 : Code := { maxStack := 1, maxLocals := 1, code := prog_1_method_14_code, exceptionTable := #[], attributes := #[] }
def k2m11 : Method := { name := "getCount", desc := "()I", sig := { parameters := [], returnType := some .int }, accessFlags := 1, code := some k2c11 }
def k2c12 : Code := { maxStack := 2, maxLocals := 2, code := prog_1_method_15_code, exceptionTable := #[], attributes := #[] }
def k2m12 : Method := { name := "getTotal", desc := "(I)I", sig := { parameters := [.int], returnType := some .int }, accessFlags := 1, code := some k2c12 }
def k2c13 : Code := { maxStack := 2, maxLocals := 2, code := prog_1_method_16_code, exceptionTable := #[], attributes := #[] }
def k2m13 : Method := { name := "getConfig", desc := "(I)I", sig := { parameters := [.int], returnType := some .int }, accessFlags := 1, code := some k2c13 }
def k2c14 : Code := { maxStack := 2, maxLocals := 4, code := prog_1_method_17_code, exceptionTable := #[], attributes := #[] }
def k2m14 : Method := { name := "clampInt", desc := "(III)I", sig := { parameters := [.int, .int, .int], returnType := some .int }, accessFlags := 2, code := some k2c14 }
def k2c15 : Code := { maxStack := 2, maxLocals := 1, code := prog_1_method_18_code, exceptionTable := #[], attributes := #[] }
def k2m15 : Method := { name := "pointerMask", desc := "()I", sig := { parameters := [], returnType := some .int }, accessFlags := 2, code := some k2c15 }
def k2c16 : Code := { maxStack := 2, maxLocals := 2, code := prog_1_method_19_code, exceptionTable := #[], attributes := #[] }
def k2m16 : Method := { name := "modPointer", desc := "(I)I", sig := { parameters := [.int], returnType := some .int }, accessFlags := 2, code := some k2c16 }
def k2c17 : Code := { maxStack := 3, maxLocals := 2, code := prog_1_method_20_code, exceptionTable := #[], attributes := #[] }
def k2m17 : Method := { name := "slotOf", desc := "(I)I", sig := { parameters := [.int], returnType := some .int }, accessFlags := 2, code := some k2c17 }
def k2c18 : Code := { maxStack := 3, maxLocals := 3, code := prog_1_method_21_code, exceptionTable := #[], attributes := #[] }
def k2m18 : Method := { name := "gray", desc := "(I)I", sig := { parameters := [.int], returnType := some .int }, accessFlags := 2, code := some k2c18 }
def k2c19 : Code := { maxStack := 2, maxLocals := 5, code := prog_1_method_22_code, exceptionTable := #[], attributes := #[] }
def k2m19 : Method := { name := "decode", desc := "(I)I", sig := { parameters := [.int], returnType := some .int }, accessFlags := 2, code := some k2c19 }
def k2c20 : Code := { maxStack := 3, maxLocals := 6, code := prog_1_method_23_code, exceptionTable := #[], attributes := #[] }
def k2m20 : Method := { name := "sample", desc := "(IIZI)I", sig := { parameters := [.int, .int, .boolean, .int], returnType := some .int }, accessFlags := 2, code := some k2c20 }
def k2c21 : Code := { maxStack := 3, maxLocals := 2, code := prog_1_method_24_code, exceptionTable := #[], attributes := #[] }
def k2m21 : Method := { name := "writeFillValue", desc := "()I", sig := { parameters := [], returnType := some .int }, accessFlags := 2, code := some k2c21 }
def k2c22 : Code := { maxStack := 3, maxLocals := 2, code := prog_1_method_25_code, exceptionTable := #[], attributes := #[] }
def k2m22 : Method := { name := "readFillValue", desc := "()I", sig := { parameters := [], returnType := some .int }, accessFlags := 2, code := some k2c22 }
def k2c23 : Code := { maxStack := 3, maxLocals := 1, code := prog_1_method_26_code, exceptionTable := #[], attributes := #[] }
def k2m23 : Method := { name := "countValue", desc := "()I", sig := { parameters := [], returnType := some .int }, accessFlags := 2, code := some k2c23 }
def k2c24 : Code := { maxStack := 2, maxLocals := 1, code := prog_1_method_27_code, exceptionTable := #[], attributes := #[] }
def k2m24 : Method := { name := "fullNow", desc := "()Z", sig := { parameters := [], returnType := some .boolean }, accessFlags := 2, code := some k2c24 }
def k2c25 : Code := { maxStack := 1, maxLocals := 1, code := prog_1_method_28_code, exceptionTable := #[], attributes := #[] }
def k2m25 : Method := { name := "emptyNow", desc := "()Z", sig := { parameters := [], returnType := some .boolean }, accessFlags := 2, code := some k2c25 }
def k2c26 : Code := { maxStack := 6, maxLocals := 2, code := prog_1_method_29_code, exceptionTable := #[], attributes := #[] }
def k2m26 : Method := { name := "shiftWriteSync", desc := "(I)V", sig := { parameters := [.int], returnType := none }, accessFlags := 2, code := some k2c26 }
def k2c27 : Code := { maxStack := 6, maxLocals := 2, code := prog_1_method_30_code, exceptionTable := #[], attributes := #[] }
def k2m27 : Method := { name := "shiftReadSync", desc := "(I)V", sig := { parameters := [.int], returnType := none }, accessFlags := 2, code := some k2c27 }
def k2c28 : Code := { maxStack := 4, maxLocals := 2, code := prog_1_method_31_code, exceptionTable := #[], attributes := #[] }
def k2m28 : Method := { name := "acceptWrite", desc := "(I)V", sig := { parameters := [.int], returnType := none }, accessFlags := 2, code := some k2c28 }
def k2c29 : Code := { maxStack := 4, maxLocals := 1, code := prog_1_method_32_code, exceptionTable := #[], attributes := #[] }
def k2m29 : Method := { name := "popRead", desc := "()V", sig := { parameters := [], returnType := none }, accessFlags := 2, code := some k2c29 }
def k2c30 : Code := { maxStack := 3, maxLocals := 4, code := prog_1_method_33_code, exceptionTable := #[], attributes := #[] }
def k2m30 : Method := { name := "writeCell", desc := "(II)V", sig := { parameters := [.int, .int], returnType := none }, accessFlags := 2, code := some k2c30 }
def k2c31 : Code := { maxStack := 2, maxLocals := 3, code := prog_1_method_34_code, exceptionTable := #[], attributes := #[] }
def k2m31 : Method := { name := "readCell", desc := "(I)I", sig := { parameters := [.int], returnType := some .int }, accessFlags := 2, code := some k2c31 }
def k2c32 : Code := { maxStack := 2, maxLocals := 1, code := prog_1_method_35_code, exceptionTable := #[], attributes := #[] }
def k2m32 : Method := { name := "clearAll", desc := "()V", sig := { parameters := [], returnType := none }, accessFlags := 2, code := some k2c32 }
def k2c33 : Code := { maxStack := 2, maxLocals := 1, code := prog_1_method_36_code, exceptionTable := #[], attributes := #[] }
def k2m33 : Method := { name := "clearWriteSide", desc := "()V", sig := { parameters := [], returnType := none }, accessFlags := 2, code := some k2c33 }
def k2c34 : Code := { maxStack := 2, maxLocals := 1, code := prog_1_method_37_code, exceptionTable := #[], attributes := #[] }
def k2m34 : Method := { name := "clearReadSide", desc := "()V", sig := { parameters := [], returnType := none }, accessFlags := 2, code := some k2c34 }
def k2c35 : Code := { maxStack := 2, maxLocals := 1, code := prog_1_method_38_code, exceptionTable := #[], attributes := #[] }
def k2m35 : Method := { name := "clearSyncs", desc := "()V", sig := { parameters := [], returnType := none }, accessFlags := 2, code := some k2c35 }
def k2c36 : Code := { maxStack := 3, maxLocals := 2, code := prog_1_method_39_code, exceptionTable := #[], attributes := #[] }
def k2m36 : Method := { name := "clearCells", desc := "()V", sig := { parameters := [], returnType := none }, accessFlags := 2, code := some k2c36 }
/-- CdcFifo -/
def k2 : Class := { plain "CdcFifo" (some 0) with
  accessFlags := 49
  interfaces := #[]
  cf := some (fileOf pool2 8 #[] #[{ accessFlags := 1, nameIndex := 5, descriptorIndex := 129, attributes := #[] }, { accessFlags := 1, nameIndex := 174, descriptorIndex := 175, attributes := #[] }, { accessFlags := 1, nameIndex := 177, descriptorIndex := 178, attributes := #[] }, { accessFlags := 1, nameIndex := 179, descriptorIndex := 6, attributes := #[] }, { accessFlags := 1, nameIndex := 180, descriptorIndex := 36, attributes := #[] }, { accessFlags := 1, nameIndex := 181, descriptorIndex := 36, attributes := #[] }, { accessFlags := 1, nameIndex := 182, descriptorIndex := 36, attributes := #[] }, { accessFlags := 1, nameIndex := 183, descriptorIndex := 97, attributes := #[] }, { accessFlags := 1, nameIndex := 184, descriptorIndex := 97, attributes := #[] }, { accessFlags := 1, nameIndex := 188, descriptorIndex := 56, attributes := #[] }, { accessFlags := 1, nameIndex := 189, descriptorIndex := 97, attributes := #[] }, { accessFlags := 1, nameIndex := 190, descriptorIndex := 56, attributes := #[] }, { accessFlags := 1, nameIndex := 191, descriptorIndex := 97, attributes := #[] }, { accessFlags := 1, nameIndex := 192, descriptorIndex := 97, attributes := #[] }, { accessFlags := 2, nameIndex := 15, descriptorIndex := 16, attributes := #[] }, { accessFlags := 2, nameIndex := 106, descriptorIndex := 56, attributes := #[] }, { accessFlags := 2, nameIndex := 109, descriptorIndex := 97, attributes := #[] }, { accessFlags := 2, nameIndex := 135, descriptorIndex := 97, attributes := #[] }, { accessFlags := 2, nameIndex := 132, descriptorIndex := 97, attributes := #[] }, { accessFlags := 2, nameIndex := 112, descriptorIndex := 97, attributes := #[] }, { accessFlags := 2, nameIndex := 121, descriptorIndex := 122, attributes := #[] }, { accessFlags := 2, nameIndex := 55, descriptorIndex := 56, attributes := #[] }, { accessFlags := 2, nameIndex := 59, descriptorIndex := 56, attributes := #[] }, { accessFlags := 2, nameIndex := 90, descriptorIndex := 56, attributes := #[] }, { accessFlags := 2, nameIndex := 35, descriptorIndex := 36, attributes := #[] }, { accessFlags := 2, nameIndex := 46, descriptorIndex := 36, attributes := #[] }, { accessFlags := 2, nameIndex := 39, descriptorIndex := 40, attributes := #[] }, { accessFlags := 2, nameIndex := 49, descriptorIndex := 40, attributes := #[] }, { accessFlags := 2, nameIndex := 43, descriptorIndex := 40, attributes := #[] }, { accessFlags := 2, nameIndex := 52, descriptorIndex := 6, attributes := #[] }, { accessFlags := 2, nameIndex := 128, descriptorIndex := 129, attributes := #[] }, { accessFlags := 2, nameIndex := 96, descriptorIndex := 97, attributes := #[] }, { accessFlags := 2, nameIndex := 32, descriptorIndex := 6, attributes := #[] }, { accessFlags := 2, nameIndex := 138, descriptorIndex := 6, attributes := #[] }, { accessFlags := 2, nameIndex := 141, descriptorIndex := 6, attributes := #[] }, { accessFlags := 2, nameIndex := 144, descriptorIndex := 6, attributes := #[] }, { accessFlags := 2, nameIndex := 147, descriptorIndex := 6, attributes := #[] }] 49 2 #[] #[{ accessFlags := 25, nameIndex := 148, descriptorIndex := 20, attributes := #[] }, { accessFlags := 25, nameIndex := 151, descriptorIndex := 20, attributes := #[] }, { accessFlags := 25, nameIndex := 153, descriptorIndex := 20, attributes := #[] }, { accessFlags := 25, nameIndex := 154, descriptorIndex := 20, attributes := #[] }, { accessFlags := 25, nameIndex := 155, descriptorIndex := 20, attributes := #[] }, { accessFlags := 25, nameIndex := 157, descriptorIndex := 20, attributes := #[] }, { accessFlags := 25, nameIndex := 159, descriptorIndex := 20, attributes := #[] }, { accessFlags := 25, nameIndex := 161, descriptorIndex := 20, attributes := #[] }, { accessFlags := 25, nameIndex := 162, descriptorIndex := 20, attributes := #[] }, { accessFlags := 25, nameIndex := 163, descriptorIndex := 20, attributes := #[] }, { accessFlags := 25, nameIndex := 164, descriptorIndex := 20, attributes := #[] }, { accessFlags := 25, nameIndex := 165, descriptorIndex := 20, attributes := #[] }, { accessFlags := 25, nameIndex := 166, descriptorIndex := 20, attributes := #[] }, { accessFlags := 25, nameIndex := 167, descriptorIndex := 20, attributes := #[] }, { accessFlags := 26, nameIndex := 168, descriptorIndex := 20, attributes := #[] }, { accessFlags := 26, nameIndex := 170, descriptorIndex := 20, attributes := #[] }, { accessFlags := 26, nameIndex := 171, descriptorIndex := 20, attributes := #[] }, { accessFlags := 2, nameIndex := 19, descriptorIndex := 20, attributes := #[] }, { accessFlags := 2, nameIndex := 29, descriptorIndex := 20, attributes := #[] }, { accessFlags := 2, nameIndex := 23, descriptorIndex := 20, attributes := #[] }, { accessFlags := 2, nameIndex := 26, descriptorIndex := 20, attributes := #[] }, { accessFlags := 2, nameIndex := 115, descriptorIndex := 20, attributes := #[] }, { accessFlags := 2, nameIndex := 62, descriptorIndex := 20, attributes := #[] }, { accessFlags := 2, nameIndex := 125, descriptorIndex := 20, attributes := #[] }, { accessFlags := 2, nameIndex := 80, descriptorIndex := 81, attributes := #[] }, { accessFlags := 2, nameIndex := 93, descriptorIndex := 20, attributes := #[] }, { accessFlags := 2, nameIndex := 65, descriptorIndex := 20, attributes := #[] }, { accessFlags := 2, nameIndex := 118, descriptorIndex := 20, attributes := #[] }, { accessFlags := 2, nameIndex := 84, descriptorIndex := 81, attributes := #[] }, { accessFlags := 2, nameIndex := 68, descriptorIndex := 20, attributes := #[] }, { accessFlags := 2, nameIndex := 71, descriptorIndex := 20, attributes := #[] }, { accessFlags := 2, nameIndex := 74, descriptorIndex := 20, attributes := #[] }, { accessFlags := 2, nameIndex := 77, descriptorIndex := 20, attributes := #[] }, { accessFlags := 2, nameIndex := 11, descriptorIndex := 12, attributes := #[] }, { accessFlags := 2, nameIndex := 87, descriptorIndex := 20, attributes := #[] }, { accessFlags := 2, nameIndex := 100, descriptorIndex := 20, attributes := #[] }, { accessFlags := 2, nameIndex := 103, descriptorIndex := 20, attributes := #[] }])
  fields := #[{ name := "WRITE_SIDE", type := .int, accessFlags := 25, slot := 0, constantValue := 0 }, { name := "READ_SIDE", type := .int, accessFlags := 25, slot := 1, constantValue := 0 }, { name := "IDLE", type := .int, accessFlags := 25, slot := 2, constantValue := 0 }, { name := "ACCEPTED", type := .int, accessFlags := 25, slot := 3, constantValue := 0 }, { name := "REJECTED_FULL", type := .int, accessFlags := 25, slot := 4, constantValue := 0 }, { name := "POPPED", type := .int, accessFlags := 25, slot := 5, constantValue := 0 }, { name := "REJECTED_EMPTY", type := .int, accessFlags := 25, slot := 6, constantValue := 0 }, { name := "SYNC_W1", type := .int, accessFlags := 25, slot := 7, constantValue := 0 }, { name := "SYNC_W2", type := .int, accessFlags := 25, slot := 8, constantValue := 0 }, { name := "SYNC_R1", type := .int, accessFlags := 25, slot := 9, constantValue := 0 }, { name := "SYNC_R2", type := .int, accessFlags := 25, slot := 10, constantValue := 0 }, { name := "CONFIG_DEPTH", type := .int, accessFlags := 25, slot := 11, constantValue := 0 }, { name := "CONFIG_ALMOST", type := .int, accessFlags := 25, slot := 12, constantValue := 0 }, { name := "CONFIG_WIDTH", type := .int, accessFlags := 25, slot := 13, constantValue := 0 }, { name := "MAX_DEPTH", type := .int, accessFlags := 26, slot := 14, constantValue := 0 }, { name := "MIN_DEPTH_LOG", type := .int, accessFlags := 26, slot := 15, constantValue := 0 }, { name := "MAX_DEPTH_LOG", type := .int, accessFlags := 26, slot := 16, constantValue := 0 }, { name := "depth", type := .int, accessFlags := 2, slot := 0, constantValue := 0 }, { name := "almost", type := .int, accessFlags := 2, slot := 1, constantValue := 0 }, { name := "width", type := .int, accessFlags := 2, slot := 2, constantValue := 0 }, { name := "modulus", type := .int, accessFlags := 2, slot := 3, constantValue := 0 }, { name := "wbin", type := .int, accessFlags := 2, slot := 4, constantValue := 0 }, { name := "wgray", type := .int, accessFlags := 2, slot := 5, constantValue := 0 }, { name := "wprev", type := .int, accessFlags := 2, slot := 6, constantValue := 0 }, { name := "wChanging", type := .boolean, accessFlags := 2, slot := 7, constantValue := 0 }, { name := "rbin", type := .int, accessFlags := 2, slot := 8, constantValue := 0 }, { name := "rgray", type := .int, accessFlags := 2, slot := 9, constantValue := 0 }, { name := "rprev", type := .int, accessFlags := 2, slot := 10, constantValue := 0 }, { name := "rChanging", type := .boolean, accessFlags := 2, slot := 11, constantValue := 0 }, { name := "wq1", type := .int, accessFlags := 2, slot := 12, constantValue := 0 }, { name := "wq2", type := .int, accessFlags := 2, slot := 13, constantValue := 0 }, { name := "rq1", type := .int, accessFlags := 2, slot := 14, constantValue := 0 }, { name := "rq2", type := .int, accessFlags := 2, slot := 15, constantValue := 0 }, { name := "cell", type := (.array .int), accessFlags := 2, slot := 16, constantValue := 0 }, { name := "lastRead", type := .int, accessFlags := 2, slot := 17, constantValue := 0 }, { name := "totalW", type := .int, accessFlags := 2, slot := 18, constantValue := 0 }, { name := "totalR", type := .int, accessFlags := 2, slot := 19, constantValue := 0 }]
  methods := #[k2m0, k2m1, k2m2, k2m3, k2m4, k2m5, k2m6, k2m7, k2m8, k2m9, k2m10, k2m11, k2m12, k2m13, k2m14, k2m15, k2m16, k2m17, k2m18, k2m19, k2m20, k2m21, k2m22, k2m23, k2m24, k2m25, k2m26, k2m27, k2m28, k2m29, k2m30, k2m31, k2m32, k2m33, k2m34, k2m35, k2m36]
  instanceTypes := #[.int, .int, .int, .int, .int, .int, .int, .boolean, .int, .int, .int, .boolean, .int, .int, .int, .int, (.array .int), .int, .int, .int]
  staticTypes := #[.int, .int, .int, .int, .int, .int, .int, .int, .int, .int, .int, .int, .int, .int, .int, .int, .int]
  resolved := Array.replicate 195 none
  statics := none }

def pool3 : Array CpInfo := pool [(1, u "java/lang/Cloneable"), (0, .class_ 1), (0, u "java/lang/Object"), (0, .class_ 3)] 3

/-- java/lang/Cloneable -/
def k3 : Class := { plain "java/lang/Cloneable" (some 0) with
  accessFlags := 1537
  interfaces := #[]
  cf := some (fileOf pool3 2 #[] #[] 1537 4 #[] #[])
  fields := #[]
  methods := #[]
  instanceTypes := #[]
  staticTypes := #[]
  resolved := Array.replicate 8 none
  statics := none }

def pool4 : Array CpInfo := pool [(1, u "java/io/Serializable"), (0, .class_ 1), (0, u "java/lang/Object"), (0, .class_ 3)] 3

/-- java/io/Serializable -/
def k4 : Class := { plain "java/io/Serializable" (some 0) with
  accessFlags := 1537
  interfaces := #[]
  cf := some (fileOf pool4 2 #[] #[] 1537 4 #[] #[])
  fields := #[]
  methods := #[]
  instanceTypes := #[]
  staticTypes := #[]
  resolved := Array.replicate 8 none
  statics := none }

/-- the primitive byte -/
def k5 : Class := { plain "byte" none with kind := .primitive 'B', accessFlags := 0x411 }
/-- [B -/
def k6 : Class := { plain "[B" (some 0) with kind := .array 5 .byte, interfaces := #[3, 4], accessFlags := 1041 }

/-- the primitive int -/
def k7 : Class := { plain "int" none with kind := .primitive 'I', accessFlags := 0x411 }
/-- [I -/
def k8 : Class := { plain "[I" (some 0) with kind := .array 7 .int, interfaces := #[3, 4], accessFlags := 1041 }

def heap : Heap := #[{ cls := 8, slots := #[.int 2, .int 3, .int 1, .int 1, .int 5, .int 8, .int 1, .int 7, .int 15, .int 1, .int 1], vm := .none }]
def classes : Array Class := #[k0, k1, k2, k3, k4, k5, k6, k7, k8]
def interned : List (Array UInt16 × Addr) := []
def slotsUsed : Nat := 11
def theMethod : MethodId := ⟨1, 1⟩
def args0 : Array Value := #[.ref 0]
def aboutOver (below : List Frame) : State where
  vm := { classes := classes, interned := interned.toArray }
  heap := heap
  slotsUsed := slotsUsed
  threads := #[{ frames := .invoking theMethod args0 :: below }]
def below0 : List Frame := [.native { method := ⟨0, 0⟩, args := #[] }]
def about1 : State := aboutOver below0
def p0 : Program := .bare "" "" ""
def e0 : Env := launch0.env 0 0 0
theorem w_frames : about1.frames = Frame.invoking theMethod args0 :: below0 := rfl
set_option maxRecDepth 65536 in
theorem w_args : argsFit about1.vm theMethod args0 = true := by decide +kernel
set_option maxRecDepth 65536 in
theorem w_heap : heapFits about1 = true := by decide +kernel
set_option maxRecDepth 65536 in
theorem w_runnable : about1.curStatus? = some .runnable := by decide +kernel
set_option maxRecDepth 65536 in
theorem w_alone : about1.alone = true := by decide +kernel
set_option maxRecDepth 65536 in
theorem w_named : about1.methodNamed? x = some theMethod := by decide +kernel
set_option maxRecDepth 65536 in
theorem w_hears : about1.hears theMethod below0 = true := by decide +kernel
set_option maxRecDepth 65536 in
theorem w_ripe : about1.ripe theMethod args0 below0 = true := by decide +kernel
theorem w_running : about1.status = .running := rfl
set_option maxRecDepth 65536 in
theorem w_room : about1.hasRoom e0.platform room_1 = true :=
  launch0.hasRoom_least _ room_1 (by decide +kernel) (by decide +kernel) (by decide +kernel) (by decide +kernel) (by decide +kernel) (by decide +kernel)
theorem allAtoms_all (ts : List Jvm.Cond) (a : Array Jvm.Value) (st : Jvm.State) : (allAtoms ts).before a st = ts.all (fun c => c.before a st) := by
  induction ts with
  | nil => rfl
  | cons c t ih =>
    show (Jvm.Cond.and c (allAtoms t)).before a st = _
    rw [Jvm.Cond.before_and, ih, List.all_cons]
def words1 : List Jvm.Cond := Jvm.Cond.code x code maxLocals ret :: tables_1
/-- a 'code' word, met by the world's own term for the bytes: nothing is compared byte by byte -/
theorem code_word {y : MethodName} {bytes : ByteArray} {mx : Nat} {rt : Option FieldType} {a : Array Value} {s : State} {m : MethodId} {meth : Method} {c : Code} (h1 : s.methodNamed? y = some m) (h2 : s.vm.method? m = some meth) (h3 : meth.code = some c) (h4 : c.code = bytes)
    (h5 : (c.maxLocals == mx && c.exceptionTable.isEmpty && decide (c.maxStack ≤ mostOperands) && decide (meth.sig.returnType = rt) && !meth.locks && decide (parseMethodDescriptor y.desc = some meth.sig)) = true) : (Jvm.Cond.code y bytes mx rt).before a s = true := by
  simp only [Bool.and_eq_true, beq_iff_eq, Bool.not_eq_true', decide_eq_true_eq] at h5
  obtain ⟨⟨⟨⟨⟨g1, g2⟩, g3⟩, g4⟩, g5⟩, g6⟩ := h5
  simp [Cond.before, Cond.holds, Cond.value, h1, h2, h3, h4, g1, g2, g3, g4, g5, g6]
def isCode : Jvm.Cond → Bool
  | .code _ _ _ _ => true
  | _ => false
theorem all_split {L : List Jvm.Cond} {P : Jvm.Cond → Bool} (h1 : L.all (fun c => isCode c || P c) = true) (h2 : ∀ c ∈ L.filter isCode, P c = true) : L.all P = true := by
  refine List.all_eq_true.mpr fun c hc => ?_
  have h := List.all_eq_true.mp h1 c hc
  rcases Bool.eq_false_or_eq_true (isCode c) with hi | hi
  · exact h2 c (List.mem_filter.mpr ⟨hc, hi⟩)
  · simpa [hi] using h
set_option maxRecDepth 65536 in
theorem w_c0 : (Jvm.Cond.code x code maxLocals ret).before args0 about1 = true := code_word (m := ⟨1, 1⟩) (meth := k1m1) (c := k1c1) (by decide +kernel) rfl rfl rfl (by decide +kernel)
set_option maxRecDepth 65536 in
theorem w_c1 : (Jvm.Cond.code ({ cls := "CdcFifo", name := "<init>", desc := "(II)V" } : Jvm.MethodName) prog_1_method_1_code (4 : Nat) (Option.none : Option Jvm.ClassFile.FieldType)).before args0 about1 = true := code_word (m := ⟨2, 0⟩) (meth := k2m0) (c := k2c0) (by decide +kernel) rfl rfl rfl (by decide +kernel)
set_option maxRecDepth 65536 in
theorem w_c2 : (Jvm.Cond.code ({ cls := "java/lang/Object", name := "<init>", desc := "()V" } : Jvm.MethodName) object_method_1_code (1 : Nat) (Option.none : Option Jvm.ClassFile.FieldType)).before args0 about1 = true := code_word (m := ⟨0, 0⟩) (meth := k0m0) (c := k0c0) (by decide +kernel) rfl rfl rfl (by decide +kernel)
set_option maxRecDepth 65536 in
theorem w_c3 : (Jvm.Cond.code ({ cls := "CdcFifo", name := "clampInt", desc := "(III)I" } : Jvm.MethodName) prog_1_method_17_code (4 : Nat) (Option.some Jvm.ClassFile.FieldType.int)).before args0 about1 = true := code_word (m := ⟨2, 14⟩) (meth := k2m14) (c := k2c14) (by decide +kernel) rfl rfl rfl (by decide +kernel)
set_option maxRecDepth 65536 in
theorem w_c4 : (Jvm.Cond.code ({ cls := "CdcFifo", name := "clearAll", desc := "()V" } : Jvm.MethodName) prog_1_method_35_code (1 : Nat) (Option.none : Option Jvm.ClassFile.FieldType)).before args0 about1 = true := code_word (m := ⟨2, 32⟩) (meth := k2m32) (c := k2c32) (by decide +kernel) rfl rfl rfl (by decide +kernel)
set_option maxRecDepth 65536 in
theorem w_c5 : (Jvm.Cond.code ({ cls := "CdcFifo", name := "clearWriteSide", desc := "()V" } : Jvm.MethodName) prog_1_method_36_code (1 : Nat) (Option.none : Option Jvm.ClassFile.FieldType)).before args0 about1 = true := code_word (m := ⟨2, 33⟩) (meth := k2m33) (c := k2c33) (by decide +kernel) rfl rfl rfl (by decide +kernel)
set_option maxRecDepth 65536 in
theorem w_c6 : (Jvm.Cond.code ({ cls := "CdcFifo", name := "clearReadSide", desc := "()V" } : Jvm.MethodName) prog_1_method_37_code (1 : Nat) (Option.none : Option Jvm.ClassFile.FieldType)).before args0 about1 = true := code_word (m := ⟨2, 34⟩) (meth := k2m34) (c := k2c34) (by decide +kernel) rfl rfl rfl (by decide +kernel)
set_option maxRecDepth 65536 in
theorem w_c7 : (Jvm.Cond.code ({ cls := "CdcFifo", name := "clearSyncs", desc := "()V" } : Jvm.MethodName) prog_1_method_38_code (1 : Nat) (Option.none : Option Jvm.ClassFile.FieldType)).before args0 about1 = true := code_word (m := ⟨2, 35⟩) (meth := k2m35) (c := k2c35) (by decide +kernel) rfl rfl rfl (by decide +kernel)
set_option maxRecDepth 65536 in
theorem w_c8 : (Jvm.Cond.code ({ cls := "CdcFifo", name := "clearCells", desc := "()V" } : Jvm.MethodName) prog_1_method_39_code (2 : Nat) (Option.none : Option Jvm.ClassFile.FieldType)).before args0 about1 = true := code_word (m := ⟨2, 36⟩) (meth := k2m36) (c := k2c36) (by decide +kernel) rfl rfl rfl (by decide +kernel)
set_option maxRecDepth 65536 in
theorem w_c9 : (Jvm.Cond.code ({ cls := "CdcFifo", name := "getConfig", desc := "(I)I" } : Jvm.MethodName) prog_1_method_16_code (2 : Nat) (Option.some Jvm.ClassFile.FieldType.int)).before args0 about1 = true := code_word (m := ⟨2, 13⟩) (meth := k2m13) (c := k2c13) (by decide +kernel) rfl rfl rfl (by decide +kernel)
set_option maxRecDepth 65536 in
theorem w_c10 : (Jvm.Cond.code ({ cls := "CdcFifoL6", name := "check", desc := "(LCdcFifo;IIIII)Z" } : Jvm.MethodName) method_3_code (12 : Nat) (Option.some Jvm.ClassFile.FieldType.boolean)).before args0 about1 = true := code_word (m := ⟨1, 2⟩) (meth := k1m2) (c := k1c2) (by decide +kernel) rfl rfl rfl (by decide +kernel)
set_option maxRecDepth 65536 in
theorem w_c11 : (Jvm.Cond.code ({ cls := "CdcFifo", name := "getTotal", desc := "(I)I" } : Jvm.MethodName) prog_1_method_15_code (2 : Nat) (Option.some Jvm.ClassFile.FieldType.int)).before args0 about1 = true := code_word (m := ⟨2, 12⟩) (meth := k2m12) (c := k2c12) (by decide +kernel) rfl rfl rfl (by decide +kernel)
set_option maxRecDepth 65536 in
theorem w_c12 : (Jvm.Cond.code ({ cls := "CdcFifo", name := "getCount", desc := "()I" } : Jvm.MethodName) prog_1_method_14_code (1 : Nat) (Option.some Jvm.ClassFile.FieldType.int)).before args0 about1 = true := code_word (m := ⟨2, 11⟩) (meth := k2m11) (c := k2c11) (by decide +kernel) rfl rfl rfl (by decide +kernel)
set_option maxRecDepth 65536 in
theorem w_c13 : (Jvm.Cond.code ({ cls := "CdcFifo", name := "countValue", desc := "()I" } : Jvm.MethodName) prog_1_method_26_code (1 : Nat) (Option.some Jvm.ClassFile.FieldType.int)).before args0 about1 = true := code_word (m := ⟨2, 23⟩) (meth := k2m23) (c := k2c23) (by decide +kernel) rfl rfl rfl (by decide +kernel)
set_option maxRecDepth 65536 in
theorem w_c14 : (Jvm.Cond.code ({ cls := "CdcFifo", name := "modPointer", desc := "(I)I" } : Jvm.MethodName) prog_1_method_19_code (2 : Nat) (Option.some Jvm.ClassFile.FieldType.int)).before args0 about1 = true := code_word (m := ⟨2, 16⟩) (meth := k2m16) (c := k2c16) (by decide +kernel) rfl rfl rfl (by decide +kernel)
set_option maxRecDepth 65536 in
theorem w_c15 : (Jvm.Cond.code ({ cls := "CdcFifo", name := "pointerMask", desc := "()I" } : Jvm.MethodName) prog_1_method_18_code (1 : Nat) (Option.some Jvm.ClassFile.FieldType.int)).before args0 about1 = true := code_word (m := ⟨2, 15⟩) (meth := k2m15) (c := k2c15) (by decide +kernel) rfl rfl rfl (by decide +kernel)
set_option maxRecDepth 65536 in
theorem w_c16 : (Jvm.Cond.code ({ cls := "CdcFifo", name := "getLastRead", desc := "()I" } : Jvm.MethodName) prog_1_method_12_code (1 : Nat) (Option.some Jvm.ClassFile.FieldType.int)).before args0 about1 = true := code_word (m := ⟨2, 9⟩) (meth := k2m9) (c := k2c9) (by decide +kernel) rfl rfl rfl (by decide +kernel)
set_option maxRecDepth 65536 in
theorem w_c17 : (Jvm.Cond.code ({ cls := "CdcFifo", name := "getPointerGray", desc := "(I)I" } : Jvm.MethodName) prog_1_method_9_code (2 : Nat) (Option.some Jvm.ClassFile.FieldType.int)).before args0 about1 = true := code_word (m := ⟨2, 8⟩) (meth := k2m8) (c := k2c8) (by decide +kernel) rfl rfl rfl (by decide +kernel)
set_option maxRecDepth 65536 in
theorem w_c18 : (Jvm.Cond.code ({ cls := "CdcFifo", name := "getFill", desc := "(I)I" } : Jvm.MethodName) prog_1_method_8_code (2 : Nat) (Option.some Jvm.ClassFile.FieldType.int)).before args0 about1 = true := code_word (m := ⟨2, 7⟩) (meth := k2m7) (c := k2c7) (by decide +kernel) rfl rfl rfl (by decide +kernel)
set_option maxRecDepth 65536 in
theorem w_c19 : (Jvm.Cond.code ({ cls := "CdcFifo", name := "writeFillValue", desc := "()I" } : Jvm.MethodName) prog_1_method_24_code (2 : Nat) (Option.some Jvm.ClassFile.FieldType.int)).before args0 about1 = true := code_word (m := ⟨2, 21⟩) (meth := k2m21) (c := k2c21) (by decide +kernel) rfl rfl rfl (by decide +kernel)
set_option maxRecDepth 65536 in
theorem w_c20 : (Jvm.Cond.code ({ cls := "CdcFifo", name := "decode", desc := "(I)I" } : Jvm.MethodName) prog_1_method_22_code (5 : Nat) (Option.some Jvm.ClassFile.FieldType.int)).before args0 about1 = true := code_word (m := ⟨2, 19⟩) (meth := k2m19) (c := k2c19) (by decide +kernel) rfl rfl rfl (by decide +kernel)
set_option maxRecDepth 65536 in
theorem w_c21 : (Jvm.Cond.code ({ cls := "CdcFifo", name := "readFillValue", desc := "()I" } : Jvm.MethodName) prog_1_method_25_code (2 : Nat) (Option.some Jvm.ClassFile.FieldType.int)).before args0 about1 = true := code_word (m := ⟨2, 22⟩) (meth := k2m22) (c := k2c22) (by decide +kernel) rfl rfl rfl (by decide +kernel)
set_option maxRecDepth 65536 in
theorem w_c22 : (Jvm.Cond.code ({ cls := "CdcFifo", name := "isFull", desc := "()Z" } : Jvm.MethodName) prog_1_method_5_code (1 : Nat) (Option.some Jvm.ClassFile.FieldType.boolean)).before args0 about1 = true := code_word (m := ⟨2, 4⟩) (meth := k2m4) (c := k2c4) (by decide +kernel) rfl rfl rfl (by decide +kernel)
set_option maxRecDepth 65536 in
theorem w_c23 : (Jvm.Cond.code ({ cls := "CdcFifo", name := "fullNow", desc := "()Z" } : Jvm.MethodName) prog_1_method_27_code (1 : Nat) (Option.some Jvm.ClassFile.FieldType.boolean)).before args0 about1 = true := code_word (m := ⟨2, 24⟩) (meth := k2m24) (c := k2c24) (by decide +kernel) rfl rfl rfl (by decide +kernel)
set_option maxRecDepth 65536 in
theorem w_c24 : (Jvm.Cond.code ({ cls := "CdcFifo", name := "isEmpty", desc := "()Z" } : Jvm.MethodName) prog_1_method_6_code (1 : Nat) (Option.some Jvm.ClassFile.FieldType.boolean)).before args0 about1 = true := code_word (m := ⟨2, 5⟩) (meth := k2m5) (c := k2c5) (by decide +kernel) rfl rfl rfl (by decide +kernel)
set_option maxRecDepth 65536 in
theorem w_c25 : (Jvm.Cond.code ({ cls := "CdcFifo", name := "emptyNow", desc := "()Z" } : Jvm.MethodName) prog_1_method_28_code (1 : Nat) (Option.some Jvm.ClassFile.FieldType.boolean)).before args0 about1 = true := code_word (m := ⟨2, 25⟩) (meth := k2m25) (c := k2c25) (by decide +kernel) rfl rfl rfl (by decide +kernel)
set_option maxRecDepth 65536 in
theorem w_c26 : (Jvm.Cond.code ({ cls := "CdcFifo", name := "isAlmostFull", desc := "()Z" } : Jvm.MethodName) prog_1_method_7_code (1 : Nat) (Option.some Jvm.ClassFile.FieldType.boolean)).before args0 about1 = true := code_word (m := ⟨2, 6⟩) (meth := k2m6) (c := k2c6) (by decide +kernel) rfl rfl rfl (by decide +kernel)
set_option maxRecDepth 65536 in
theorem w_c27 : (Jvm.Cond.code ({ cls := "CdcFifo", name := "getUnread", desc := "(I)I" } : Jvm.MethodName) prog_1_method_13_code (2 : Nat) (Option.some Jvm.ClassFile.FieldType.int)).before args0 about1 = true := code_word (m := ⟨2, 10⟩) (meth := k2m10) (c := k2c10) (by decide +kernel) rfl rfl rfl (by decide +kernel)
set_option maxRecDepth 65536 in
theorem w_c28 : (Jvm.Cond.code ({ cls := "CdcFifo", name := "writeEdge", desc := "(ZII)I" } : Jvm.MethodName) prog_1_method_2_code (5 : Nat) (Option.some Jvm.ClassFile.FieldType.int)).before args0 about1 = true := code_word (m := ⟨2, 1⟩) (meth := k2m1) (c := k2c1) (by decide +kernel) rfl rfl rfl (by decide +kernel)
set_option maxRecDepth 65536 in
theorem w_c29 : (Jvm.Cond.code ({ cls := "CdcFifo", name := "shiftWriteSync", desc := "(I)V" } : Jvm.MethodName) prog_1_method_29_code (2 : Nat) (Option.none : Option Jvm.ClassFile.FieldType)).before args0 about1 = true := code_word (m := ⟨2, 26⟩) (meth := k2m26) (c := k2c26) (by decide +kernel) rfl rfl rfl (by decide +kernel)
set_option maxRecDepth 65536 in
theorem w_c30 : (Jvm.Cond.code ({ cls := "CdcFifo", name := "sample", desc := "(IIZI)I" } : Jvm.MethodName) prog_1_method_23_code (6 : Nat) (Option.some Jvm.ClassFile.FieldType.int)).before args0 about1 = true := code_word (m := ⟨2, 20⟩) (meth := k2m20) (c := k2c20) (by decide +kernel) rfl rfl rfl (by decide +kernel)
set_option maxRecDepth 65536 in
theorem w_c31 : (Jvm.Cond.code ({ cls := "CdcFifo", name := "acceptWrite", desc := "(I)V" } : Jvm.MethodName) prog_1_method_31_code (2 : Nat) (Option.none : Option Jvm.ClassFile.FieldType)).before args0 about1 = true := code_word (m := ⟨2, 28⟩) (meth := k2m28) (c := k2c28) (by decide +kernel) rfl rfl rfl (by decide +kernel)
set_option maxRecDepth 65536 in
theorem w_c32 : (Jvm.Cond.code ({ cls := "CdcFifo", name := "writeCell", desc := "(II)V" } : Jvm.MethodName) prog_1_method_33_code (4 : Nat) (Option.none : Option Jvm.ClassFile.FieldType)).before args0 about1 = true := code_word (m := ⟨2, 30⟩) (meth := k2m30) (c := k2c30) (by decide +kernel) rfl rfl rfl (by decide +kernel)
set_option maxRecDepth 65536 in
theorem w_c33 : (Jvm.Cond.code ({ cls := "CdcFifo", name := "slotOf", desc := "(I)I" } : Jvm.MethodName) prog_1_method_20_code (2 : Nat) (Option.some Jvm.ClassFile.FieldType.int)).before args0 about1 = true := code_word (m := ⟨2, 17⟩) (meth := k2m17) (c := k2c17) (by decide +kernel) rfl rfl rfl (by decide +kernel)
set_option maxRecDepth 65536 in
theorem w_c34 : (Jvm.Cond.code ({ cls := "CdcFifo", name := "gray", desc := "(I)I" } : Jvm.MethodName) prog_1_method_21_code (3 : Nat) (Option.some Jvm.ClassFile.FieldType.int)).before args0 about1 = true := code_word (m := ⟨2, 18⟩) (meth := k2m18) (c := k2c18) (by decide +kernel) rfl rfl rfl (by decide +kernel)
set_option maxRecDepth 65536 in
theorem w_c35 : (Jvm.Cond.code ({ cls := "CdcFifo", name := "readCell", desc := "(I)I" } : Jvm.MethodName) prog_1_method_34_code (3 : Nat) (Option.some Jvm.ClassFile.FieldType.int)).before args0 about1 = true := code_word (m := ⟨2, 31⟩) (meth := k2m31) (c := k2c31) (by decide +kernel) rfl rfl rfl (by decide +kernel)
set_option maxRecDepth 65536 in
theorem w_c36 : (Jvm.Cond.code ({ cls := "CdcFifo", name := "readEdge", desc := "(ZI)I" } : Jvm.MethodName) prog_1_method_3_code (4 : Nat) (Option.some Jvm.ClassFile.FieldType.int)).before args0 about1 = true := code_word (m := ⟨2, 2⟩) (meth := k2m2) (c := k2c2) (by decide +kernel) rfl rfl rfl (by decide +kernel)
set_option maxRecDepth 65536 in
theorem w_c37 : (Jvm.Cond.code ({ cls := "CdcFifo", name := "shiftReadSync", desc := "(I)V" } : Jvm.MethodName) prog_1_method_30_code (2 : Nat) (Option.none : Option Jvm.ClassFile.FieldType)).before args0 about1 = true := code_word (m := ⟨2, 27⟩) (meth := k2m27) (c := k2c27) (by decide +kernel) rfl rfl rfl (by decide +kernel)
set_option maxRecDepth 65536 in
theorem w_c38 : (Jvm.Cond.code ({ cls := "CdcFifo", name := "popRead", desc := "()V" } : Jvm.MethodName) prog_1_method_32_code (1 : Nat) (Option.none : Option Jvm.ClassFile.FieldType)).before args0 about1 = true := code_word (m := ⟨2, 29⟩) (meth := k2m29) (c := k2c29) (by decide +kernel) rfl rfl rfl (by decide +kernel)
set_option maxRecDepth 65536 in
theorem w_c39 : (Jvm.Cond.code ({ cls := "CdcFifo", name := "reset", desc := "()V" } : Jvm.MethodName) prog_1_method_4_code (1 : Nat) (Option.none : Option Jvm.ClassFile.FieldType)).before args0 about1 = true := code_word (m := ⟨2, 3⟩) (meth := k2m3) (c := k2c3) (by decide +kernel) rfl rfl rfl (by decide +kernel)
def codes1 : List Jvm.Cond := [Jvm.Cond.code x code maxLocals ret, Jvm.Cond.code ({ cls := "CdcFifo", name := "<init>", desc := "(II)V" } : Jvm.MethodName) prog_1_method_1_code (4 : Nat) (Option.none : Option Jvm.ClassFile.FieldType), Jvm.Cond.code ({ cls := "java/lang/Object", name := "<init>", desc := "()V" } : Jvm.MethodName) object_method_1_code (1 : Nat) (Option.none : Option Jvm.ClassFile.FieldType), Jvm.Cond.code ({ cls := "CdcFifo", name := "clampInt", desc := "(III)I" } : Jvm.MethodName) prog_1_method_17_code (4 : Nat) (Option.some Jvm.ClassFile.FieldType.int), Jvm.Cond.code ({ cls := "CdcFifo", name := "clearAll", desc := "()V" } : Jvm.MethodName) prog_1_method_35_code (1 : Nat) (Option.none : Option Jvm.ClassFile.FieldType), Jvm.Cond.code ({ cls := "CdcFifo", name := "clearWriteSide", desc := "()V" } : Jvm.MethodName) prog_1_method_36_code (1 : Nat) (Option.none : Option Jvm.ClassFile.FieldType), Jvm.Cond.code ({ cls := "CdcFifo", name := "clearReadSide", desc := "()V" } : Jvm.MethodName) prog_1_method_37_code (1 : Nat) (Option.none : Option Jvm.ClassFile.FieldType), Jvm.Cond.code ({ cls := "CdcFifo", name := "clearSyncs", desc := "()V" } : Jvm.MethodName) prog_1_method_38_code (1 : Nat) (Option.none : Option Jvm.ClassFile.FieldType), Jvm.Cond.code ({ cls := "CdcFifo", name := "clearCells", desc := "()V" } : Jvm.MethodName) prog_1_method_39_code (2 : Nat) (Option.none : Option Jvm.ClassFile.FieldType), Jvm.Cond.code ({ cls := "CdcFifo", name := "getConfig", desc := "(I)I" } : Jvm.MethodName) prog_1_method_16_code (2 : Nat) (Option.some Jvm.ClassFile.FieldType.int), Jvm.Cond.code ({ cls := "CdcFifoL6", name := "check", desc := "(LCdcFifo;IIIII)Z" } : Jvm.MethodName) method_3_code (12 : Nat) (Option.some Jvm.ClassFile.FieldType.boolean), Jvm.Cond.code ({ cls := "CdcFifo", name := "getTotal", desc := "(I)I" } : Jvm.MethodName) prog_1_method_15_code (2 : Nat) (Option.some Jvm.ClassFile.FieldType.int), Jvm.Cond.code ({ cls := "CdcFifo", name := "getCount", desc := "()I" } : Jvm.MethodName) prog_1_method_14_code (1 : Nat) (Option.some Jvm.ClassFile.FieldType.int), Jvm.Cond.code ({ cls := "CdcFifo", name := "countValue", desc := "()I" } : Jvm.MethodName) prog_1_method_26_code (1 : Nat) (Option.some Jvm.ClassFile.FieldType.int), Jvm.Cond.code ({ cls := "CdcFifo", name := "modPointer", desc := "(I)I" } : Jvm.MethodName) prog_1_method_19_code (2 : Nat) (Option.some Jvm.ClassFile.FieldType.int), Jvm.Cond.code ({ cls := "CdcFifo", name := "pointerMask", desc := "()I" } : Jvm.MethodName) prog_1_method_18_code (1 : Nat) (Option.some Jvm.ClassFile.FieldType.int), Jvm.Cond.code ({ cls := "CdcFifo", name := "getLastRead", desc := "()I" } : Jvm.MethodName) prog_1_method_12_code (1 : Nat) (Option.some Jvm.ClassFile.FieldType.int), Jvm.Cond.code ({ cls := "CdcFifo", name := "getPointerGray", desc := "(I)I" } : Jvm.MethodName) prog_1_method_9_code (2 : Nat) (Option.some Jvm.ClassFile.FieldType.int), Jvm.Cond.code ({ cls := "CdcFifo", name := "getFill", desc := "(I)I" } : Jvm.MethodName) prog_1_method_8_code (2 : Nat) (Option.some Jvm.ClassFile.FieldType.int), Jvm.Cond.code ({ cls := "CdcFifo", name := "writeFillValue", desc := "()I" } : Jvm.MethodName) prog_1_method_24_code (2 : Nat) (Option.some Jvm.ClassFile.FieldType.int), Jvm.Cond.code ({ cls := "CdcFifo", name := "decode", desc := "(I)I" } : Jvm.MethodName) prog_1_method_22_code (5 : Nat) (Option.some Jvm.ClassFile.FieldType.int), Jvm.Cond.code ({ cls := "CdcFifo", name := "readFillValue", desc := "()I" } : Jvm.MethodName) prog_1_method_25_code (2 : Nat) (Option.some Jvm.ClassFile.FieldType.int), Jvm.Cond.code ({ cls := "CdcFifo", name := "isFull", desc := "()Z" } : Jvm.MethodName) prog_1_method_5_code (1 : Nat) (Option.some Jvm.ClassFile.FieldType.boolean), Jvm.Cond.code ({ cls := "CdcFifo", name := "fullNow", desc := "()Z" } : Jvm.MethodName) prog_1_method_27_code (1 : Nat) (Option.some Jvm.ClassFile.FieldType.boolean), Jvm.Cond.code ({ cls := "CdcFifo", name := "isEmpty", desc := "()Z" } : Jvm.MethodName) prog_1_method_6_code (1 : Nat) (Option.some Jvm.ClassFile.FieldType.boolean), Jvm.Cond.code ({ cls := "CdcFifo", name := "emptyNow", desc := "()Z" } : Jvm.MethodName) prog_1_method_28_code (1 : Nat) (Option.some Jvm.ClassFile.FieldType.boolean), Jvm.Cond.code ({ cls := "CdcFifo", name := "isAlmostFull", desc := "()Z" } : Jvm.MethodName) prog_1_method_7_code (1 : Nat) (Option.some Jvm.ClassFile.FieldType.boolean), Jvm.Cond.code ({ cls := "CdcFifo", name := "getUnread", desc := "(I)I" } : Jvm.MethodName) prog_1_method_13_code (2 : Nat) (Option.some Jvm.ClassFile.FieldType.int), Jvm.Cond.code ({ cls := "CdcFifo", name := "writeEdge", desc := "(ZII)I" } : Jvm.MethodName) prog_1_method_2_code (5 : Nat) (Option.some Jvm.ClassFile.FieldType.int), Jvm.Cond.code ({ cls := "CdcFifo", name := "shiftWriteSync", desc := "(I)V" } : Jvm.MethodName) prog_1_method_29_code (2 : Nat) (Option.none : Option Jvm.ClassFile.FieldType), Jvm.Cond.code ({ cls := "CdcFifo", name := "sample", desc := "(IIZI)I" } : Jvm.MethodName) prog_1_method_23_code (6 : Nat) (Option.some Jvm.ClassFile.FieldType.int), Jvm.Cond.code ({ cls := "CdcFifo", name := "acceptWrite", desc := "(I)V" } : Jvm.MethodName) prog_1_method_31_code (2 : Nat) (Option.none : Option Jvm.ClassFile.FieldType), Jvm.Cond.code ({ cls := "CdcFifo", name := "writeCell", desc := "(II)V" } : Jvm.MethodName) prog_1_method_33_code (4 : Nat) (Option.none : Option Jvm.ClassFile.FieldType), Jvm.Cond.code ({ cls := "CdcFifo", name := "slotOf", desc := "(I)I" } : Jvm.MethodName) prog_1_method_20_code (2 : Nat) (Option.some Jvm.ClassFile.FieldType.int), Jvm.Cond.code ({ cls := "CdcFifo", name := "gray", desc := "(I)I" } : Jvm.MethodName) prog_1_method_21_code (3 : Nat) (Option.some Jvm.ClassFile.FieldType.int), Jvm.Cond.code ({ cls := "CdcFifo", name := "readCell", desc := "(I)I" } : Jvm.MethodName) prog_1_method_34_code (3 : Nat) (Option.some Jvm.ClassFile.FieldType.int), Jvm.Cond.code ({ cls := "CdcFifo", name := "readEdge", desc := "(ZI)I" } : Jvm.MethodName) prog_1_method_3_code (4 : Nat) (Option.some Jvm.ClassFile.FieldType.int), Jvm.Cond.code ({ cls := "CdcFifo", name := "shiftReadSync", desc := "(I)V" } : Jvm.MethodName) prog_1_method_30_code (2 : Nat) (Option.none : Option Jvm.ClassFile.FieldType), Jvm.Cond.code ({ cls := "CdcFifo", name := "popRead", desc := "()V" } : Jvm.MethodName) prog_1_method_32_code (1 : Nat) (Option.none : Option Jvm.ClassFile.FieldType), Jvm.Cond.code ({ cls := "CdcFifo", name := "reset", desc := "()V" } : Jvm.MethodName) prog_1_method_4_code (1 : Nat) (Option.none : Option Jvm.ClassFile.FieldType)]
set_option maxRecDepth 65536 in
theorem codes_eq : words1.filter isCode = codes1 := rfl
theorem w_codes : ∀ c ∈ words1.filter isCode, c.before args0 about1 = true := by
  rw [codes_eq]
  intro c hc
  simp only [codes1, List.mem_cons, List.not_mem_nil, or_false] at hc
  rcases hc with rfl | rfl | rfl | rfl | rfl | rfl | rfl | rfl | rfl | rfl | rfl | rfl | rfl | rfl | rfl | rfl | rfl | rfl | rfl | rfl | rfl | rfl | rfl | rfl | rfl | rfl | rfl | rfl | rfl | rfl | rfl | rfl | rfl | rfl | rfl | rfl | rfl | rfl | rfl | rfl
  · exact w_c0
  · exact w_c1
  · exact w_c2
  · exact w_c3
  · exact w_c4
  · exact w_c5
  · exact w_c6
  · exact w_c7
  · exact w_c8
  · exact w_c9
  · exact w_c10
  · exact w_c11
  · exact w_c12
  · exact w_c13
  · exact w_c14
  · exact w_c15
  · exact w_c16
  · exact w_c17
  · exact w_c18
  · exact w_c19
  · exact w_c20
  · exact w_c21
  · exact w_c22
  · exact w_c23
  · exact w_c24
  · exact w_c25
  · exact w_c26
  · exact w_c27
  · exact w_c28
  · exact w_c29
  · exact w_c30
  · exact w_c31
  · exact w_c32
  · exact w_c33
  · exact w_c34
  · exact w_c35
  · exact w_c36
  · exact w_c37
  · exact w_c38
  · exact w_c39
set_option maxRecDepth 65536 in
theorem w_t1 : (words1.take 24).all (fun c => isCode c || c.before args0 about1) = true := by decide +kernel
set_option maxRecDepth 65536 in
theorem w_t2 : ((words1.drop 24).take 24).all (fun c => isCode c || c.before args0 about1) = true := by decide +kernel
set_option maxRecDepth 65536 in
theorem w_t3 : (((words1.drop 24).drop 24).take 24).all (fun c => isCode c || c.before args0 about1) = true := by decide +kernel
set_option maxRecDepth 65536 in
theorem w_t4 : ((((words1.drop 24).drop 24).drop 24).take 24).all (fun c => isCode c || c.before args0 about1) = true := by decide +kernel
set_option maxRecDepth 65536 in
theorem w_t5 : (((((words1.drop 24).drop 24).drop 24).drop 24).take 24).all (fun c => isCode c || c.before args0 about1) = true := by decide +kernel
set_option maxRecDepth 65536 in
theorem w_t6 : ((((((words1.drop 24).drop 24).drop 24).drop 24).drop 24).take 24).all (fun c => isCode c || c.before args0 about1) = true := by decide +kernel
set_option maxRecDepth 65536 in
theorem w_t7 : (((((((words1.drop 24).drop 24).drop 24).drop 24).drop 24).drop 24).take 24).all (fun c => isCode c || c.before args0 about1) = true := by decide +kernel
set_option maxRecDepth 65536 in
theorem w_t8 : ((((((((words1.drop 24).drop 24).drop 24).drop 24).drop 24).drop 24).drop 24).take 24).all (fun c => isCode c || c.before args0 about1) = true := by decide +kernel
set_option maxRecDepth 65536 in
theorem w_t9 : ((((((((words1.drop 24).drop 24).drop 24).drop 24).drop 24).drop 24).drop 24).drop 24).all (fun c => isCode c || c.before args0 about1) = true := by decide +kernel
theorem w_tables : (allAtoms (Jvm.Cond.code x code maxLocals ret :: tables_1)).before args0 about1 = true := by
  rw [allAtoms_all]
  show words1.all (fun c => c.before args0 about1) = true
  refine all_split ?_ w_codes
  rw [← List.take_append_drop 24 words1, List.all_append, w_t1, ← List.take_append_drop 24 (words1.drop 24), List.all_append, w_t2, ← List.take_append_drop 24 ((words1.drop 24).drop 24), List.all_append, w_t3, ← List.take_append_drop 24 (((words1.drop 24).drop 24).drop 24), List.all_append, w_t4, ← List.take_append_drop 24 ((((words1.drop 24).drop 24).drop 24).drop 24), List.all_append, w_t5, ← List.take_append_drop 24 (((((words1.drop 24).drop 24).drop 24).drop 24).drop 24), List.all_append, w_t6, ← List.take_append_drop 24 ((((((words1.drop 24).drop 24).drop 24).drop 24).drop 24).drop 24), List.all_append, w_t7, ← List.take_append_drop 24 (((((((words1.drop 24).drop 24).drop 24).drop 24).drop 24).drop 24).drop 24), List.all_append, w_t8, w_t9]
  rfl
set_option maxRecDepth 65536 in
theorem w_rest : rest_1_c.before args0 about1 = true := by decide +kernel
set_option maxRecDepth 65536 in
theorem w_case : (Jvm.Cond.and given_1 narrow_1).before args0 about1 = true := by decide +kernel
theorem w_applies : (headSpec (Jvm.Cond.code x code maxLocals ret :: tables_1) room_1).applies x e0.platform about1 = true :=
  (Spec.applies_iff w_frames).mpr ⟨w_running, w_runnable, w_alone, w_named, w_hears, w_ripe, w_room, w_tables⟩
theorem atStart : AtStart classFile x code maxLocals ret World_1 tables_1 room_1 Calls_1 rest_1 Pre_1 launch0 p0 e0 about1 theMethod args0 below0 :=
  ⟨lists_1, trivial, launch0.admits_env _ _ _, launch0.least_env, fairChoices_fair.cas, fairChoices_fair.clock, w_frames, w_args, w_heap, w_applies, trivial, w_rest, w_case⟩
end start1
theorem witness_1 : WitnessClaimed_1 := ⟨start1.p0, start1.e0, start1.about1, start1.theMethod, start1.args0, start1.below0, start1.atStart⟩
end Jvm.Pilot.@@N@@
