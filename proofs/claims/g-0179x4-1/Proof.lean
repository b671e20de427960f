import JvmDerived
import JvmDerived.Pilot.@@N@@Statement
import JvmDerived.Pilot.@@N@@Code
set_option linter.unusedVariables false
set_option linter.unusedSimpArgs false
namespace Jvm.RoadKit
open Sem ClassFile Op Lib Jvm.Stand Jvm.Free Jvm.LawKit
section New
variable {p : Program} {l : Launch} {e : Env} {R : Room} {s : State} {m : MethodId} {args : Array Value} {below : List Frame} {meth : Method} {c : Code} {T : State} {locs : List Loc} {cells slots : Nat}
theorem retI (X : Stand p l e R s m args below meth c T locs cells slots) (hx : p.tables.exec = Jvm.exec) {pc : Nat} {Ls : Array Slot} {z : Int32} {rest : List Value} (hret : meth.sig.returnType = some .int) (hd : decode c.code pc = .ok (.ireturn, 1)) {fs : List Frame}
    (hl : ∀ (f : JFrame) (acts : List Action), f.method = m → f.locked = none → f.entered = [] → (doReturn e (T.setTop f) acts (some (.int z))).1 = T.setFrames fs) : Steps p.tables e below (T.setTop (mkF m pc Ls (.int z :: rest))) (T.setFrames fs) := by
  have hm' : T.vm.method? m = some meth := X.method'
  have hn : narrow .int (.int z) = .int z := rfl
  show Steps p.tables e below (T.setTop { method := m, pc := pc, locals := Ls, stack := _ :: rest, locked := none }) _
  jvm_step X.here [X.here.top, hx, hd, hm', hret, hn]
  first | (intro acts; rw [hl _ acts rfl rfl rfl]) | rw [hl _ _ rfl rfl rfl]
  exact Steps.refl _
end New
end Jvm.RoadKit
namespace Jvm.Own
open Jvm Jvm.ClassFile Sem Op Lib Jvm.Free Jvm.Stand Jvm.LawKit Jvm.RoadKit
/-! ## 1. Local variables: what the walk knows of them (L) and what they are (r) -/
def rv (ρ : Nat → Addr) : Value → Value
  | .ref k => .ref (ρ k)
  | .int x => .int x
  | .long x => .long x
  | .float x => .float x
  | .double x => .double x
  | .null => .null
  | .retAddr x => .retAddr x
def rs (ρ : Nat → Addr) : Slot → Slot
  | .val v => .val (rv ρ v)
  | .unset => .unset
  | .second => .second
theorem rv_cat (ρ : Nat → Addr) (v : Value) : (rv ρ v).category = v.category := by cases v <;> rfl
def WR (f : Nat → Option Slot) : Prop := (∀ i v, f i = some (.val v) → v.category = 2 → f (i + 1) = some .second) ∧ (∀ i, f i = some .second → ∃ j v, i = j + 1 ∧ f j = some (.val v) ∧ v.category = 2)
def up (f : Nat → Option Slot) (i : Nat) (x : Slot) : Nat → Option Slot := fun k => if k = i then some x else f k
def C1 (s : Option Slot) : Prop := s = some .unset ∨ ∃ w, s = some (.val w) ∧ w.category = 1
theorem C1.not2 {s : Option Slot} (h : C1 s) : s ≠ some .second ∧ ∀ v, s = some (.val v) → v.category ≠ 2 := by
  rcases h with rfl | ⟨w, rfl, h⟩
  · exact ⟨nofun, nofun⟩
  · exact ⟨nofun, fun v e q => by cases e; omega⟩
theorem up_at (f : Nat → Option Slot) (i : Nat) (x : Slot) : up f i x i = some x := by simp [up]
theorem up_ne (f : Nat → Option Slot) {i k : Nat} (x : Slot) (h : k ≠ i) : up f i x k = f k := by simp [up, h]
theorem WR.one {f : Nat → Option Slot} {i : Nat} {x : Slot} (h : WR f) (hi : C1 (f i)) (hx : C1 (some x)) : WR (up f i x) := by
  obtain ⟨n1, n2⟩ := hi.not2
  obtain ⟨m1, m2⟩ := hx.not2
  constructor
  · intro k v hk hv
    by_cases e : k = i
    · subst e; rw [up_at] at hk; exact absurd hv (m2 v hk)
    · rw [up_ne _ _ e] at hk
      have q := h.1 k v hk hv
      by_cases e2 : k + 1 = i
      · rw [e2] at q; exact absurd q n1
      · rw [up_ne _ _ e2]; exact q
  · intro k hk
    by_cases e : k = i
    · subst e; rw [up_at] at hk; exact absurd hk m1
    · rw [up_ne _ _ e] at hk
      obtain ⟨j, v, e1, e2, e3⟩ := h.2 k hk
      refine ⟨j, v, e1, ?_, e3⟩
      by_cases e4 : j = i
      · rw [e4] at e2; exact absurd e3 (n2 v e2)
      · rw [up_ne _ _ e4]; exact e2
theorem WR.clr {f : Nat → Option Slot} {j : Nat} {v : Value} (h : WR f) (hj : f j = some (.val v)) (hv : v.category = 2) : WR (up (up f j .unset) (j + 1) .unset) := by
  have q := h.1 j v hj hv
  constructor
  · intro k w hk hw
    by_cases e : k = j + 1
    · subst e; rw [up_at] at hk; cases hk
    · rw [up_ne _ _ e] at hk
      by_cases e2 : k = j
      · subst e2; rw [up_at] at hk; cases hk
      · rw [up_ne _ _ e2] at hk
        have q2 := h.1 k w hk hw
        by_cases e3 : k + 1 = j
        · rw [e3] at q2; rw [hj] at q2; cases q2
        · rw [up_ne _ _ (show k + 1 ≠ j + 1 by omega), up_ne _ _ e3]; exact q2
  · intro k hk
    by_cases e : k = j + 1
    · subst e; rw [up_at] at hk; cases hk
    · rw [up_ne _ _ e] at hk
      by_cases e2 : k = j
      · subst e2; rw [up_at] at hk; cases hk
      · rw [up_ne _ _ e2] at hk
        obtain ⟨i, w, e3, e4, e5⟩ := h.2 k hk
        refine ⟨i, w, e3, ?_, e5⟩
        by_cases e6 : i = j + 1
        · rw [e6, q] at e4; cases e4
        · rw [up_ne _ _ e6, up_ne _ _ (show i ≠ j by omega)]; exact e4
theorem WR.two {f : Nat → Option Slot} {i : Nat} {v : Value} (h : WR f) (h1 : C1 (f i)) (h2 : C1 (f (i + 1))) (hv : v.category = 2) : WR (up (up f i (.val v)) (i + 1) .second) := by
  obtain ⟨n1, n2⟩ := h1.not2
  obtain ⟨m1, m2⟩ := h2.not2
  constructor
  · intro k w hk hw
    by_cases e : k = i + 1
    · subst e; rw [up_at] at hk; cases hk
    · rw [up_ne _ _ e] at hk
      by_cases e2 : k = i
      · subst e2; exact up_at _ _ _
      · rw [up_ne _ _ e2] at hk
        have q := h.1 k w hk hw
        by_cases e3 : k + 1 = i
        · rw [e3] at q; exact absurd q n1
        · rw [up_ne _ _ (show k + 1 ≠ i + 1 by omega), up_ne _ _ e3]; exact q
  · intro k hk
    by_cases e : k = i + 1
    · exact ⟨i, v, e, by rw [up_ne _ _ (show i ≠ i + 1 by omega), up_at], hv⟩
    · rw [up_ne _ _ e] at hk
      by_cases e2 : k = i
      · subst e2; rw [up_at] at hk; cases hk
      · rw [up_ne _ _ e2] at hk
        obtain ⟨j, w, e3, e4, e5⟩ := h.2 k hk
        refine ⟨j, w, e3, ?_, e5⟩
        by_cases e6 : j = i + 1
        · rw [e6] at e4; exact absurd e5 (m2 w e4)
        · by_cases e7 : j = i
          · omega
          · rw [up_ne _ _ e6, up_ne _ _ e7]; exact e4
theorem up_arr {r : Array Slot} {i : Nat} (hi : i < r.size) (x : Slot) : (fun k => (r.setIfInBounds i x)[k]?) = up (fun k => r[k]?) i x := by
  funext k
  show (r.setIfInBounds i x)[k]? = _
  rw [Array.getElem?_setIfInBounds]
  by_cases e : i = k
  · subst e; simp [up, hi]
  · rw [if_neg e, up_ne _ _ (Ne.symm e)]
theorem up_lst {L : List Slot} {i : Nat} (hi : i < L.length) (x : Slot) : (fun k => (L.set i x)[k]?) = up (fun k => L[k]?) i x := by
  funext k
  show (L.set i x)[k]? = _
  rw [List.getElem?_set]
  by_cases e : i = k
  · subst e; simp [up, hi]
  · rw [if_neg e, up_ne _ _ (Ne.symm e)]
def SR (ρ : Nat → Addr) (L : List Slot) (r : Array Slot) : Prop :=
  r.size = L.length ∧ (∀ (i : Nat) (v : Value), L[i]? = some (.val v) → r[i]? = some (.val (rv ρ v))) ∧ (∀ (i : Nat), L[i]? = some .second → r[i]? = some .second) ∧ WR (fun k => L[k]?) ∧ WR (fun k => r[k]?)
theorem SR.get {ρ : Nat → Addr} {L : List Slot} {r : Array Slot} (h : SR ρ L r) {i : Nat} {v : Value} (e : L[i]? = some (.val v)) : r[i]? = some (.val (rv ρ v)) := h.2.1 i v e
/-- a store of one word over nothing or one word -/
theorem SR.st1 {ρ : Nat → Addr} {L : List Slot} {r : Array Slot} {i : Nat} {v : Value} (h : SR ρ L r) (ho : C1 L[i]?) (hv : v.category = 1) :
    ∃ r', storeLocals r i (rv ρ v) = some r' ∧ SR ρ (L.set i (.val v)) r' := by
  obtain ⟨h1, h2, h3, h4, h5⟩ := h
  have hi : i < L.length := by
    rcases ho with h | ⟨w, h, -⟩ <;> exact (List.getElem?_eq_some_iff.mp h).1
  have hir : i < r.size := by omega
  have hcv : (rv ρ v).category = 1 := by rw [rv_cat]; exact hv
  have hcx : C1 (some (Slot.val (rv ρ v))) := Or.inr ⟨_, rfl, hcv⟩
  obtain ⟨n1, n2⟩ := ho.not2
  have fin : ∀ r' : Array Slot, r'.size = r.size → WR (fun k => r'[k]?) → r'[i]? = some (.val (rv ρ v)) → (∀ k, k ≠ i → r'[k]? = r[k]? ∨ ∀ s, L[k]? = some s → s = .unset) → SR ρ (L.set i (.val v)) r' := by
    intro r' a1 a2 a3 a4
    refine ⟨by rw [a1, h1, List.length_set], ?_, ?_, by rw [up_lst hi]; exact h4.one ho (Or.inr ⟨v, rfl, hv⟩), a2⟩
    · intro k w hk
      rw [List.getElem?_set] at hk
      by_cases e : i = k
      · subst e; simp [hi] at hk; subst hk; exact a3
      · rw [if_neg e] at hk
        rcases a4 k (Ne.symm e) with q | q
        · rw [q]; exact h2 k w hk
        · cases q _ hk
    · intro k hk
      rw [List.getElem?_set] at hk
      by_cases e : i = k
      · subst e; simp [hi] at hk
      · rw [if_neg e] at hk
        rcases a4 k (Ne.symm e) with q | q
        · rw [q]; exact h3 k hk
        · cases q _ hk
  obtain ⟨q, hq⟩ : ∃ q, r[i]? = some q := ⟨_, Array.getElem?_eq_getElem hir⟩
  have plain : C1 (r[i]?) → ∃ r', storeLocals r i (rv ρ v) = some r' ∧ SR ρ (L.set i (.val v)) r' := by
    intro hC
    have hs : storeLocals r i (rv ρ v) = some (r.setIfInBounds i (.val (rv ρ v))) := by
      rcases hC with e | ⟨w, e, hw⟩
      · exact XS.store1 e (Or.inl rfl) hcv
      · exact XS.store1 e (Or.inr ⟨w, rfl, hw⟩) hcv
    refine ⟨_, hs, fin _ (by simp) (by rw [up_arr hir]; exact h5.one hC hcx) (by simp [hir]) ?_⟩
    intro k hk
    exact Or.inl (Array.getElem?_setIfInBounds_ne (Ne.symm hk))
  cases q with
  | unset => exact plain (Or.inl hq)
  | val w =>
    by_cases hw : w.category = 2
    · have q2 := h5.1 i w hq hw
      have hj : i + 1 < r.size := (Array.getElem?_eq_some_iff.mp q2).1
      have Lu : ∀ k, (k = i ∨ k = i + 1) → ∀ s, L[k]? = some s → s = .unset := by
        intro k hk s hs
        cases s with
        | unset => rfl
        | second =>
          rcases hk with rfl | rfl
          · exact absurd hs n1
          · obtain ⟨j, u, e1, e2, e3⟩ := h4.2 _ hs
            have : j = i := by omega
            subst this
            exact absurd e3 (n2 u e2)
        | val u =>
          rcases hk with rfl | rfl
          · have := h2 _ _ hs
            rw [hq] at this
            cases this
            rw [rv_cat] at hw
            exact absurd hw (n2 u hs)
          · have := h2 _ _ hs
            have q3 : r[i + 1]? = some .second := q2
            rw [q3] at this; cases this
      have hs : storeLocals r i (rv ρ v) = some ((r.setIfInBounds (i + 1) .unset).setIfInBounds i (.val (rv ρ v))) := by
        simp [storeLocals, storeSelf, setAt, hq, (Array.getElem?_eq_some_iff.mp hq).2, hw, hj, hir, hcv]
      refine ⟨_, hs, fin _ (by simp) ?_ (by simp [hir]) ?_⟩
      · have e : (fun k => ((r.setIfInBounds (i + 1) .unset).setIfInBounds i (.val (rv ρ v)))[k]?) = up (up (up (fun k => r[k]?) i .unset) (i + 1) .unset) i (.val (rv ρ v)) := by
          rw [up_arr (by simpa using hir), up_arr hj]
          funext k
          simp only [up]
          by_cases e : k = i
          · simp [e]
          · simp [e]
        rw [e]
        exact (h5.clr hq hw).one (Or.inl (by simp [up])) hcx
      · intro k hk
        by_cases e : k = i + 1
        · exact Or.inr (Lu k (Or.inr e))
        · left
          rw [Array.getElem?_setIfInBounds_ne (Ne.symm hk), Array.getElem?_setIfInBounds_ne (Ne.symm e)]
    · refine plain (Or.inr ⟨w, hq, ?_⟩)
      cases w <;> simp [Value.category] at hw ⊢
  | second =>
    obtain ⟨j, u, e1, e2, e3⟩ := h5.2 i hq
    subst e1
    have e2' : r[j]? = some (.val u) := e2
    have hj : j < r.size := by omega
    have Lu : ∀ s, L[j]? = some s → s = .unset := by
      intro s hs
      cases s with
      | unset => rfl
      | second => have := h3 _ hs; rw [e2'] at this; cases this
      | val w =>
        have := h2 _ _ hs
        rw [e2'] at this
        cases this
        rw [rv_cat] at e3
        exact absurd (h4.1 j w hs e3) n1
    have hs : storeLocals r (j + 1) (rv ρ v) = some ((r.setIfInBounds j .unset).setIfInBounds (j + 1) (.val (rv ρ v))) := by
      simp [storeLocals, storeSelf, setAt, hq, (Array.getElem?_eq_some_iff.mp hq).2, hj, hir, hcv]
    refine ⟨_, hs, fin _ (by simp) ?_ (by simp [hir]) ?_⟩
    · have e : (fun k => ((r.setIfInBounds j .unset).setIfInBounds (j + 1) (.val (rv ρ v)))[k]?) = up (up (up (fun k => r[k]?) j .unset) (j + 1) .unset) (j + 1) (.val (rv ρ v)) := by
        rw [up_arr (by simpa using hir), up_arr hj]
        funext k
        simp only [up]
        by_cases e : k = j + 1
        · simp [e]
        · simp [e]
      rw [e]
      exact (h5.clr e2 e3).one (Or.inl (by simp [up])) hcx
    · intro k hk
      by_cases e : k = j
      · subst e; exact Or.inr Lu
      · left
        rw [Array.getElem?_setIfInBounds_ne (Ne.symm hk), Array.getElem?_setIfInBounds_ne (Ne.symm e)]
end Jvm.Own

namespace Jvm.Own
open Jvm Jvm.ClassFile Sem Op Lib Jvm.Free Jvm.Stand Jvm.LawKit Jvm.RoadKit
theorem cat12 (w : Value) (h : ¬ w.category = 2) : w.category = 1 := by cases w <;> simp [Value.category] at h ⊢
theorem getset_ne {r : Array Slot} {i k : Nat} {x t : Slot} (h : r[k]? = some t) (ne : i ≠ k) (hk : k < (r.setIfInBounds i x).size) : (r.setIfInBounds i x)[k] = t := by
  have q : (r.setIfInBounds i x)[k]? = some t := by rw [Array.getElem?_setIfInBounds_ne ne]; exact h
  exact (Array.getElem?_eq_some_iff.mp q).2
/-- a store of two words over nothing or single words -/
theorem SR.st2 {ρ : Nat → Addr} {L : List Slot} {r : Array Slot} {i : Nat} {v : Value} (h : SR ρ L r) (ho : C1 L[i]?) (ho' : C1 L[i + 1]?) (hv : v.category = 2) :
    ∃ r', storeLocals r i (rv ρ v) = some r' ∧ SR ρ ((L.set i (.val v)).set (i + 1) .second) r' := by
  obtain ⟨h1, h2, h3, h4, h5⟩ := h
  have hi : i + 1 < L.length := by
    rcases ho' with h | ⟨w, h, -⟩ <;> exact (List.getElem?_eq_some_iff.mp h).1
  have hir1 : i + 1 < r.size := by omega
  have hir : i < r.size := by omega
  have hcv : (rv ρ v).category = 2 := by rw [rv_cat]; exact hv
  obtain ⟨n1, n2⟩ := ho.not2
  obtain ⟨m1, m2⟩ := ho'.not2
  have nr : ∀ w, r[i]? = some (.val w) → ∀ u, L[i]? = some (.val u) → w.category = 2 → False := by
    intro w hw u hu hc
    have := h2 _ _ hu
    rw [hw] at this; cases this
    rw [rv_cat] at hc
    exact n2 u hu hc
  have fin : ∀ r' : Array Slot, r'.size = r.size → WR (fun k => r'[k]?) → r'[i]? = some (.val (rv ρ v)) → r'[i + 1]? = some .second → (∀ k, k ≠ i → k ≠ i + 1 → r'[k]? = r[k]? ∨ ∀ s, L[k]? = some s → s = .unset) → SR ρ ((L.set i (.val v)).set (i + 1) .second) r' := by
    intro r' a1 a2 a3 a3' a4
    refine ⟨by rw [a1, h1]; simp, ?_, ?_, by rw [up_lst (by simpa using hi), up_lst (by omega)]; exact h4.two ho ho' hv, a2⟩
    · intro k w hk
      rw [List.getElem?_set] at hk
      by_cases e : i + 1 = k
      · subst e; simp [hi] at hk
      · rw [if_neg e, List.getElem?_set] at hk
        by_cases e2 : i = k
        · subst e2; simp [show i < L.length by omega] at hk; subst hk; exact a3
        · rw [if_neg e2] at hk
          rcases a4 k (Ne.symm e2) (Ne.symm e) with q | q
          · rw [q]; exact h2 k w hk
          · cases q _ hk
    · intro k hk
      rw [List.getElem?_set] at hk
      by_cases e : i + 1 = k
      · subst e; exact a3'
      · rw [if_neg e, List.getElem?_set] at hk
        by_cases e2 : i = k
        · subst e2; simp [show i < L.length by omega] at hk
        · rw [if_neg e2] at hk
          rcases a4 k (Ne.symm e2) (Ne.symm e) with q | q
          · rw [q]; exact h3 k hk
          · cases q _ hk
  have Lun2 : ∀ u, r[i + 1]? = some (.val u) → u.category = 2 → ∀ s, L[i + 2]? = some s → s = .unset := by
    intro u hu hc s hs
    have q2 : r[i + 2]? = some .second := h5.1 (i + 1) u hu hc
    cases s with
    | unset => rfl
    | second =>
      obtain ⟨j, w, e1, e2, e3⟩ := h4.2 _ hs
      have : j = i + 1 := by omega
      subst this
      exact absurd e3 (m2 w e2)
    | val w => have := h2 _ _ hs; rw [q2] at this; cases this
  obtain ⟨q, hq⟩ : ∃ q, r[i]? = some q := ⟨_, Array.getElem?_eq_getElem hir⟩
  obtain ⟨q1, hq1⟩ : ∃ q, r[i + 1]? = some q := ⟨_, Array.getElem?_eq_getElem hir1⟩
  have ne1 : i + 1 ≠ i := by omega
  cases q with
  | unset =>
    have hC : C1 (r[i]?) := Or.inl hq
    cases q1 with
    | unset =>
      refine ⟨(r.setIfInBounds i (.val (rv ρ v))).setIfInBounds (i + 1) .second, by simp [storeLocals, storeSelf, setAt, hq, (Array.getElem?_eq_some_iff.mp hq).2, hq1, (Array.getElem?_eq_some_iff.mp hq1).2, hir, hir1, hcv, Array.getElem?_setIfInBounds], fin _ (by simp) ?_ (by simp [hir, Array.getElem?_setIfInBounds]) (by simp [hir1]) ?_⟩
      · rw [up_arr (by simpa using hir1), up_arr hir]; exact h5.two hC (Or.inl hq1) hcv
      · intro k a b; left; rw [Array.getElem?_setIfInBounds_ne (Ne.symm b), Array.getElem?_setIfInBounds_ne (Ne.symm a)]
    | second => obtain ⟨j, w, e1, e2, e3⟩ := h5.2 _ hq1; have : j = i := by omega
                subst this; have e2' : r[j]? = some (.val w) := e2; rw [hq] at e2'; cases e2'
    | val u =>
      by_cases hu : u.category = 2
      · have q2 : r[i + 2]? = some .second := h5.1 (i + 1) u hq1 hu
        have hi2 : i + 2 < r.size := (Array.getElem?_eq_some_iff.mp q2).1
        refine ⟨((r.setIfInBounds i (.val (rv ρ v))).setIfInBounds (i + 2) .unset).setIfInBounds (i + 1) .second, by simp [storeLocals, storeSelf, setAt, hq, (Array.getElem?_eq_some_iff.mp hq).2, hq1, (Array.getElem?_eq_some_iff.mp hq1).2, hir, hir1, hi2, hcv, hu, Array.getElem?_setIfInBounds], fin _ (by simp) ?_ (by simp [hir, Array.getElem?_setIfInBounds]) (by simp [hir1]) ?_⟩
        · have e : (fun k => (((r.setIfInBounds i (.val (rv ρ v))).setIfInBounds (i + 2) .unset).setIfInBounds (i + 1) .second)[k]?) = up (up (up (up (fun k => r[k]?) (i + 1) .unset) (i + 2) .unset) i (.val (rv ρ v))) (i + 1) .second := by
            rw [up_arr (by simpa using hir1), up_arr (by simpa using hi2), up_arr hir]
            funext k
            simp only [up]
            by_cases e : k = i + 1
            · simp [e]
            · by_cases e2 : k = i
              · simp [e2]
              · simp [e, e2]
          rw [e]
          exact (h5.clr hq1 hu).two (Or.inl (by simp [up, hq] <;> omega)) (Or.inl (by simp [up] <;> omega)) hcv
        · intro k a b
          by_cases e : k = i + 2
          · subst e; exact Or.inr (Lun2 u hq1 hu)
          · left; rw [Array.getElem?_setIfInBounds_ne (Ne.symm b), Array.getElem?_setIfInBounds_ne (Ne.symm e), Array.getElem?_setIfInBounds_ne (Ne.symm a)]
      · refine ⟨(r.setIfInBounds i (.val (rv ρ v))).setIfInBounds (i + 1) .second, by simp [storeLocals, storeSelf, setAt, hq, (Array.getElem?_eq_some_iff.mp hq).2, hq1, (Array.getElem?_eq_some_iff.mp hq1).2, hir, hir1, hcv, hu, Array.getElem?_setIfInBounds], fin _ (by simp) ?_ (by simp [hir, Array.getElem?_setIfInBounds]) (by simp [hir1]) ?_⟩
        · rw [up_arr (by simpa using hir1), up_arr hir]; exact h5.two hC (Or.inr ⟨u, hq1, cat12 u hu⟩) hcv
        · intro k a b; left; rw [Array.getElem?_setIfInBounds_ne (Ne.symm b), Array.getElem?_setIfInBounds_ne (Ne.symm a)]
  | val w =>
    by_cases hw : w.category = 2
    · have q2 : r[i + 1]? = some .second := h5.1 i w hq hw
      have Lu : ∀ s, L[i]? = some s → s = .unset := by
        intro s hs
        cases s with
        | unset => rfl
        | second => exact absurd hs n1
        | val u => exact (nr w hq u hs hw).elim
      refine ⟨((r.setIfInBounds (i + 1) .unset).setIfInBounds i (.val (rv ρ v))).setIfInBounds (i + 1) .second, by simp [storeLocals, storeSelf, setAt, hq, (Array.getElem?_eq_some_iff.mp hq).2, hw, hir, hir1, hcv, Array.getElem?_setIfInBounds], fin _ (by simp) ?_ (by simp [hir, Array.getElem?_setIfInBounds]) (by simp [hir1]) ?_⟩
      · have e : (fun k => (((r.setIfInBounds (i + 1) .unset).setIfInBounds i (.val (rv ρ v))).setIfInBounds (i + 1) .second)[k]?) = up (up (up (up (fun k => r[k]?) i .unset) (i + 1) .unset) i (.val (rv ρ v))) (i + 1) .second := by
          rw [up_arr (by simpa using hir1), up_arr (by simpa using hir), up_arr hir1]
          funext k
          simp only [up]
          by_cases e : k = i + 1
          · simp [e]
          · by_cases e2 : k = i
            · simp [e2]
            · simp [e, e2]
        rw [e]
        exact (h5.clr hq hw).two (Or.inl (by simp [up] <;> omega)) (Or.inl (by simp [up] <;> omega)) hcv
      · intro k a b
        left; rw [Array.getElem?_setIfInBounds_ne (Ne.symm b), Array.getElem?_setIfInBounds_ne (Ne.symm a), Array.getElem?_setIfInBounds_ne (Ne.symm b)]
    · have hC : C1 (r[i]?) := Or.inr ⟨w, hq, cat12 w hw⟩
      cases q1 with
      | unset =>
        refine ⟨(r.setIfInBounds i (.val (rv ρ v))).setIfInBounds (i + 1) .second, by simp [storeLocals, storeSelf, setAt, hq, (Array.getElem?_eq_some_iff.mp hq).2, hq1, (Array.getElem?_eq_some_iff.mp hq1).2, hw, hir, hir1, hcv, Array.getElem?_setIfInBounds], fin _ (by simp) ?_ (by simp [hir, Array.getElem?_setIfInBounds]) (by simp [hir1]) ?_⟩
        · rw [up_arr (by simpa using hir1), up_arr hir]; exact h5.two hC (Or.inl hq1) hcv
        · intro k a b; left; rw [Array.getElem?_setIfInBounds_ne (Ne.symm b), Array.getElem?_setIfInBounds_ne (Ne.symm a)]
      | second => obtain ⟨j, u, e1, e2, e3⟩ := h5.2 _ hq1; have : j = i := by omega
                  subst this; have e2' : r[j]? = some (.val u) := e2; rw [hq] at e2'; cases e2'; exact absurd e3 hw
      | val u =>
        by_cases hu : u.category = 2
        · have q2 : r[i + 2]? = some .second := h5.1 (i + 1) u hq1 hu
          have hi2 : i + 2 < r.size := (Array.getElem?_eq_some_iff.mp q2).1
          refine ⟨((r.setIfInBounds i (.val (rv ρ v))).setIfInBounds (i + 2) .unset).setIfInBounds (i + 1) .second, by simp [storeLocals, storeSelf, setAt, hq, (Array.getElem?_eq_some_iff.mp hq).2, hq1, (Array.getElem?_eq_some_iff.mp hq1).2, hw, hir, hir1, hi2, hcv, hu, Array.getElem?_setIfInBounds], fin _ (by simp) ?_ (by simp [hir, Array.getElem?_setIfInBounds]) (by simp [hir1]) ?_⟩
          · have e : (fun k => (((r.setIfInBounds i (.val (rv ρ v))).setIfInBounds (i + 2) .unset).setIfInBounds (i + 1) .second)[k]?) = up (up (up (up (fun k => r[k]?) (i + 1) .unset) (i + 2) .unset) i (.val (rv ρ v))) (i + 1) .second := by
              rw [up_arr (by simpa using hir1), up_arr (by simpa using hi2), up_arr hir]
              funext k
              simp only [up]
              by_cases e : k = i + 1
              · simp [e]
              · by_cases e2 : k = i
                · simp [e2]
                · simp [e, e2]
            rw [e]
            exact (h5.clr hq1 hu).two (Or.inr ⟨w, by simp [up, hq] <;> omega, cat12 w hw⟩) (Or.inl (by simp [up] <;> omega)) hcv
          · intro k a b
            by_cases e : k = i + 2
            · subst e; exact Or.inr (Lun2 u hq1 hu)
            · left; rw [Array.getElem?_setIfInBounds_ne (Ne.symm b), Array.getElem?_setIfInBounds_ne (Ne.symm e), Array.getElem?_setIfInBounds_ne (Ne.symm a)]
        · refine ⟨(r.setIfInBounds i (.val (rv ρ v))).setIfInBounds (i + 1) .second, by simp [storeLocals, storeSelf, setAt, hq, (Array.getElem?_eq_some_iff.mp hq).2, hq1, (Array.getElem?_eq_some_iff.mp hq1).2, hw, hir, hir1, hcv, hu, Array.getElem?_setIfInBounds], fin _ (by simp) ?_ (by simp [hir, Array.getElem?_setIfInBounds]) (by simp [hir1]) ?_⟩
          · rw [up_arr (by simpa using hir1), up_arr hir]; exact h5.two hC (Or.inr ⟨u, hq1, cat12 u hu⟩) hcv
          · intro k a b; left; rw [Array.getElem?_setIfInBounds_ne (Ne.symm b), Array.getElem?_setIfInBounds_ne (Ne.symm a)]
  | second =>
    obtain ⟨j, y, e1, e2, e3⟩ := h5.2 i hq
    subst e1
    have e2' : r[j]? = some (.val y) := e2
    have hj : j < r.size := by omega
    have Lu : ∀ s, L[j]? = some s → s = .unset := by
      intro s hs
      cases s with
      | unset => rfl
      | second => have := h3 _ hs; rw [e2'] at this; cases this
      | val w =>
        have := h2 _ _ hs
        rw [e2'] at this
        cases this
        rw [rv_cat] at e3
        exact absurd (h4.1 j w hs e3) n1
    have W5 := h5.clr e2 e3
    cases q1 with
    | unset =>
      refine ⟨((r.setIfInBounds j .unset).setIfInBounds (j + 1) (.val (rv ρ v))).setIfInBounds (j + 1 + 1) .second, by simp [storeLocals, storeSelf, setAt, hq, (Array.getElem?_eq_some_iff.mp hq).2, hq1, (Array.getElem?_eq_some_iff.mp hq1).2, getset_ne hq1 (show j ≠ j + 1 + 1 by omega), hj, hir, hir1, hcv, Array.getElem?_setIfInBounds], fin _ (by simp) ?_ (by simp [hir, Array.getElem?_setIfInBounds]) (by simp [hir1]) ?_⟩
      · have e : (fun k => (((r.setIfInBounds j .unset).setIfInBounds (j + 1) (.val (rv ρ v))).setIfInBounds (j + 1 + 1) .second)[k]?) = up (up (up (up (fun k => r[k]?) j .unset) (j + 1) .unset) (j + 1) (.val (rv ρ v))) (j + 1 + 1) .second := by
          rw [up_arr (by simpa using hir1), up_arr (by simpa using hir), up_arr hj]
          funext k
          simp only [up]
          by_cases e : k = j + 1 + 1
          · simp [e]
          · by_cases e2 : k = j + 1
            · simp [e2]
            · simp [e, e2]
        rw [e]
        exact W5.two (Or.inl (by simp [up] <;> omega)) (Or.inl (by simp [up, hq1] <;> omega)) hcv
      · intro k a b
        by_cases e : k = j
        · subst e; exact Or.inr Lu
        · left; rw [Array.getElem?_setIfInBounds_ne (Ne.symm b), Array.getElem?_setIfInBounds_ne (Ne.symm a), Array.getElem?_setIfInBounds_ne (Ne.symm e)]
    | second => obtain ⟨k, w, f1, f2, f3⟩ := h5.2 _ hq1; have : k = j + 1 := by omega
                subst this; have f2' : r[j + 1]? = some (.val w) := f2; rw [hq] at f2'; cases f2'
    | val u =>
      by_cases hu : u.category = 2
      · have q2 : r[j + 1 + 2]? = some .second := h5.1 (j + 1 + 1) u hq1 hu
        have hi2 : j + 1 + 2 < r.size := (Array.getElem?_eq_some_iff.mp q2).1
        refine ⟨(((r.setIfInBounds j .unset).setIfInBounds (j + 1) (.val (rv ρ v))).setIfInBounds (j + 1 + 2) .unset).setIfInBounds (j + 1 + 1) .second, by simp [storeLocals, storeSelf, setAt, hq, (Array.getElem?_eq_some_iff.mp hq).2, hq1, (Array.getElem?_eq_some_iff.mp hq1).2, getset_ne hq1 (show j ≠ j + 1 + 1 by omega), hj, hir, hir1, hi2, hcv, hu, Array.getElem?_setIfInBounds], fin _ (by simp) ?_ (by simp [hir, Array.getElem?_setIfInBounds]) (by simp [hir1]) ?_⟩
        · have e : (fun k => ((((r.setIfInBounds j .unset).setIfInBounds (j + 1) (.val (rv ρ v))).setIfInBounds (j + 1 + 2) .unset).setIfInBounds (j + 1 + 1) .second)[k]?) = up (up (up (up (up (up (fun k => r[k]?) j .unset) (j + 1) .unset) (j + 1 + 1) .unset) (j + 1 + 1 + 1) .unset) (j + 1) (.val (rv ρ v))) (j + 1 + 1) .second := by
            rw [up_arr (by simpa using hir1), up_arr (by simpa using hi2), up_arr (by simpa using hir), up_arr hj]
            funext k
            simp only [up]
            by_cases e : k = j + 1 + 1
            · simp [e]
            · by_cases e2 : k = j + 1
              · simp [e2]
              · simp [e, e2]
          rw [e]
          exact (W5.clr (j := j + 1 + 1) (v := u) (by simp [up, hq1] <;> omega) hu).two (Or.inl (by simp [up] <;> omega)) (Or.inl (by simp [up] <;> omega)) hcv
        · intro k a b
          by_cases e : k = j
          · subst e; exact Or.inr Lu
          · by_cases e4 : k = j + 1 + 2
            · subst e4; exact Or.inr (Lun2 u hq1 hu)
            · left; rw [Array.getElem?_setIfInBounds_ne (Ne.symm b), Array.getElem?_setIfInBounds_ne (Ne.symm e4), Array.getElem?_setIfInBounds_ne (Ne.symm a), Array.getElem?_setIfInBounds_ne (Ne.symm e)]
      · refine ⟨((r.setIfInBounds j .unset).setIfInBounds (j + 1) (.val (rv ρ v))).setIfInBounds (j + 1 + 1) .second, by simp [storeLocals, storeSelf, setAt, hq, (Array.getElem?_eq_some_iff.mp hq).2, hq1, (Array.getElem?_eq_some_iff.mp hq1).2, getset_ne hq1 (show j ≠ j + 1 + 1 by omega), hj, hir, hir1, hcv, hu, Array.getElem?_setIfInBounds], fin _ (by simp) ?_ (by simp [hir, Array.getElem?_setIfInBounds]) (by simp [hir1]) ?_⟩
        · have e : (fun k => (((r.setIfInBounds j .unset).setIfInBounds (j + 1) (.val (rv ρ v))).setIfInBounds (j + 1 + 1) .second)[k]?) = up (up (up (up (fun k => r[k]?) j .unset) (j + 1) .unset) (j + 1) (.val (rv ρ v))) (j + 1 + 1) .second := by
            rw [up_arr (by simpa using hir1), up_arr (by simpa using hir), up_arr hj]
            funext k
            simp only [up]
            by_cases e : k = j + 1 + 1
            · simp [e]
            · by_cases e2 : k = j + 1
              · simp [e2]
              · simp [e, e2]
          rw [e]
          exact W5.two (Or.inl (by simp [up] <;> omega)) (Or.inr ⟨u, by simp [up, hq1] <;> omega, cat12 u hu⟩) hcv
        · intro k a b
          by_cases e : k = j
          · subst e; exact Or.inr Lu
          · left; rw [Array.getElem?_setIfInBounds_ne (Ne.symm b), Array.getElem?_setIfInBounds_ne (Ne.symm a), Array.getElem?_setIfInBounds_ne (Ne.symm e)]
/-- which lists of slots are laid out well -/
def wfL : List Slot → Bool
  | [] => true
  | .unset :: t => wfL t
  | .second :: _ => false
  | [.val v] => decide (v.category = 1)
  | .val v :: .second :: t => decide (v.category = 2) && wfL t
  | .val v :: .unset :: t => decide (v.category = 1) && wfL t
  | .val v :: .val u :: t => decide (v.category = 1) && wfL (.val u :: t)
/-- the walk forgets the variables that the mask marks -/
def fg : List Bool → List Slot → List Slot
  | true :: b, _ :: t => .unset :: fg b t
  | false :: b, s :: t => s :: fg b t
  | _, t => t
theorem WR.nil : WR (fun k => ([] : List Slot)[k]?) := ⟨fun i v h => by simp at h, fun i h => by simp at h⟩
theorem WR.cons1 {t : List Slot} {s : Slot} (h : WR (fun k => t[k]?)) (hs : C1 (some s)) : WR (fun k => (s :: t)[k]?) := by
  obtain ⟨n1, n2⟩ := hs.not2
  constructor
  · intro i v hi hv
    cases i with
    | zero => exact absurd hv (n2 v (by simpa using hi))
    | succ i => have := h.1 i v (by simpa using hi) hv; simpa using this
  · intro i hi
    cases i with
    | zero => exact absurd (by simpa using hi) n1
    | succ i => obtain ⟨j, v, e1, e2, e3⟩ := h.2 i (by simpa using hi); exact ⟨j + 1, v, by omega, by simpa using e2, e3⟩
theorem WR.cons2 {t : List Slot} {w : Value} (h : WR (fun k => t[k]?)) (hw : w.category = 2) : WR (fun k => (Slot.val w :: .second :: t)[k]?) := by
  constructor
  · intro i v hi hv
    match i with
    | 0 => simp
    | 1 => simp at hi
    | i + 2 => have := h.1 i v (by simpa using hi) hv; simpa using this
  · intro i hi
    match i with
    | 0 => simp at hi
    | 1 => exact ⟨0, w, rfl, by simp, hw⟩
    | i + 2 => obtain ⟨j, v, e1, e2, e3⟩ := h.2 i (by simpa using hi); exact ⟨j + 2, v, by omega, by simpa using e2, e3⟩
theorem WR.of_wfL : (L : List Slot) → wfL L = true → WR (fun k => L[k]?)
  | [], _ => WR.nil
  | .unset :: t, h => (WR.of_wfL t h).cons1 (Or.inl rfl)
  | .second :: _, h => by simp [wfL] at h
  | [.val v], h => WR.nil.cons1 (Or.inr ⟨v, rfl, by simpa [wfL] using h⟩)
  | .val v :: .second :: t, h => by simp [wfL] at h; exact (WR.of_wfL t h.2).cons2 h.1
  | .val v :: .unset :: t, h => by simp [wfL] at h; exact ((WR.of_wfL t h.2).cons1 (Or.inl rfl)).cons1 (Or.inr ⟨v, rfl, h.1⟩)
  | .val v :: .val u :: t, h => by
    have h' : decide (v.category = 1) = true ∧ wfL (.val u :: t) = true := by rw [wfL, Bool.and_eq_true] at h; exact h
    exact (WR.of_wfL (.val u :: t) h'.2).cons1 (Or.inr ⟨v, rfl, of_decide_eq_true h'.1⟩)
theorem fg_length : (b : List Bool) → (L : List Slot) → (fg b L).length = L.length
  | true :: b, _ :: t => by simp [fg, fg_length b t]
  | false :: b, s :: t => by simp [fg, fg_length b t]
  | [], t => by simp [fg]
  | true :: _, [] => by simp [fg]
  | false :: _, [] => by simp [fg]
theorem fg_get : (b : List Bool) → (L : List Slot) → ∀ (i : Nat) (s : Slot), (fg b L)[i]? = some s → s = .unset ∨ L[i]? = some s
  | true :: b, x :: t, i, s, h => by
    cases i with
    | zero => left; simpa [fg] using h.symm
    | succ i => have := fg_get b t i s (by simpa [fg] using h); simpa using this
  | false :: b, x :: t, i, s, h => by
    cases i with
    | zero => right; simpa [fg] using h
    | succ i => have := fg_get b t i s (by simpa [fg] using h); simpa using this
  | [], t, i, s, h => by right; simpa [fg] using h
  | true :: _, [], i, s, h => by right; simpa [fg] using h
  | false :: _, [], i, s, h => by right; simpa [fg] using h
theorem SR.forget {ρ : Nat → Addr} {L : List Slot} {r : Array Slot} (h : SR ρ L r) (b : List Bool) (hw : wfL (fg b L) = true) : SR ρ (fg b L) r := by
  obtain ⟨h1, h2, h3, h4, h5⟩ := h
  refine ⟨by rw [fg_length]; exact h1, fun i v hi => ?_, fun i hi => ?_, WR.of_wfL _ hw, h5⟩
  · rcases fg_get _ _ _ _ hi with e | e
    · cases e
    · exact h2 i v e
  · rcases fg_get _ _ _ _ hi with e | e
    · cases e
    · exact h3 i e
/-- at a method's entry -/
theorem a2l (ρ : Nat → Addr) (as : List Value) (mx : Nat) : argsToLocals (as.map (rv ρ)).toArray mx = (argsToLocals as.toArray mx).map (rs ρ) := by
  have key : ∀ (as : List Value) (acc : Array Slot), (as.map (rv ρ)).foldl (fun acc v => if v.category = 2 then (acc.push (.val v)).push .second else acc.push (.val v)) (acc.map (rs ρ)) = (as.foldl (fun acc v => if v.category = 2 then (acc.push (.val v)).push .second else acc.push (.val v)) acc).map (rs ρ) := by
    intro as
    induction as with
    | nil => intro acc; rfl
    | cons v t ih =>
      intro acc
      simp only [List.map_cons, List.foldl_cons, rv_cat]
      by_cases hv : v.category = 2
      · rw [if_pos hv, if_pos hv, ← ih]; simp [Array.map_push, rs]
      · rw [if_neg hv, if_neg hv, ← ih]; simp [Array.map_push, rs]
  have k0 := key as #[]
  simp only [Array.map_empty] at k0
  simp only [argsToLocals, List.foldl_toArray', List.size_toArray]
  simp only [k0, Array.map_append, Array.size_map, Array.map_replicate, rs]
theorem SR.entry (ρ : Nat → Addr) (as : List Value) (mx : Nat) {L : List Slot} (hL : (argsToLocals as.toArray mx).toList = L) (hw : wfL L = true) : SR ρ L (argsToLocals (as.map (rv ρ)).toArray mx) := by
  subst hL
  rw [a2l]
  have hW := WR.of_wfL _ hw
  generalize argsToLocals as.toArray mx = A at hW
  have g : ∀ i : Nat, (A.map (rs ρ))[i]? = (A.toList[i]?).map (rs ρ) := by intro i; simp
  refine ⟨by simp, fun i v hi => by rw [g, hi]; rfl, fun i hi => by rw [g, hi]; rfl, hW, ?_, ?_⟩
  · intro i v hi hv
    have hi' : (A.toList[i]?).map (rs ρ) = some (.val v) := by rw [← g]; exact hi
    cases hs : A.toList[i]? with
    | none => rw [hs] at hi'; cases hi'
    | some s =>
      rw [hs] at hi'
      cases s with
      | unset => cases hi'
      | second => cases hi'
      | val u =>
        cases hi'
        have := hW.1 i u hs (by rwa [rv_cat] at hv)
        show (A.map (rs ρ))[i + 1]? = _
        rw [g]
        have t : A.toList[i + 1]? = some .second := this
        rw [t]; rfl
  · intro i hi
    have hi' : (A.toList[i]?).map (rs ρ) = some .second := by rw [← g]; exact hi
    cases hs : A.toList[i]? with
    | none => rw [hs] at hi'; cases hi'
    | some s =>
      rw [hs] at hi'
      cases s with
      | unset => cases hi'
      | val u => cases hi'
      | second =>
        obtain ⟨j, v, e1, e2, e3⟩ := hW.2 i hs
        refine ⟨j, rv ρ v, e1, ?_, by rw [rv_cat]; exact e3⟩
        show (A.map (rs ρ))[j]? = _
        rw [g]
        have t : A.toList[j]? = some (.val v) := e2
        rw [t]; rfl
end Jvm.Own

namespace Jvm.Own
open Jvm Jvm.ClassFile Sem Op Lib Jvm.Free Jvm.Stand Jvm.LawKit Jvm.RoadKit
/-! ## 2. A method's data; what it means that a walk from a point of it comes to an end -/
/-- name, bytes, number of variables, what it returns, room, cells that it makes -/
abbrev MD : Type := MethodName × ByteArray × Nat × Option FieldType × Room × Nat
abbrev nmOf (md : MD) : MethodName := md.1
abbrev byOf (md : MD) : ByteArray := md.2.1
abbrev mxOf (md : MD) : Nat := md.2.2.1
abbrev rtOf (md : MD) : Option FieldType := md.2.2.2.1
abbrev rmOf (md : MD) : Room := md.2.2.2.2.1
abbrev exOf (md : MD) : Nat := md.2.2.2.2.2
/-- the class whose methods are walked; where the walk's references point; the first new address; what the heap holds; what a walk leaves alone -/
abbrev Mode (μ E : Type) : Type := String × (E → Nat → Addr) × (E → Nat) × (E → μ → Heap → Prop) × (E → Heap → Heap → Prop)
abbrev Mode.own {μ E : Type} (M : Mode μ E) : String := M.1
abbrev Mode.rho {μ E : Type} (M : Mode μ E) : E → Nat → Addr := M.2.1
abbrev Mode.lo {μ E : Type} (M : Mode μ E) : E → Nat := M.2.2.1
abbrev Mode.rel {μ E : Type} (M : Mode μ E) : E → μ → Heap → Prop := M.2.2.2.1
abbrev Mode.frm {μ E : Type} (M : Mode μ E) : E → Heap → Heap → Prop := M.2.2.2.2
def Kn (Z : State) (own : String) (md : MD) (p : Program) (s : State) (m : MethodId) (meth : Method) (c : Code) : Prop :=
  p.tables.exec = Jvm.exec ∧ Z.Warmed39 s.vm ∧ s.vm.findClass own = some m.cls ∧ meth.name = (nmOf md).name ∧ meth.sig.returnType = rtOf md ∧ meth.locks = false ∧ c.code = byOf md ∧ c.maxLocals = mxOf md
def Done {μ E : Type} (l : Launch) (M : Mode μ E) (md : MD) (Q : Option Value → μ → Prop) (en : E) (p : Program) (e : Env) (s : State) (m : MethodId) (args : Array Value) (below : List Frame) (meth : Method) (c : Code) (T : State) (g : JFrame) : Prop :=
  ∃ (T' : State) (locs' : List Loc) (su' : Nat) (v : Option Value) (w' : μ), Stand p l e (rmOf md) s m args below meth c T' locs' (exOf md) su' ∧ exOf md ≤ (rmOf md).cells ∧ su' ≤ (rmOf md).slots ∧ T'.heap.size = s.heap.size + exOf md ∧ Fr (M.lo en) locs' ∧ M.rel en w' T'.heap ∧ M.frm en T.heap T'.heap ∧
    (meth.sig.returnType = none → v = none) ∧ (∀ ρ x, v = some x → rv ρ x = x) ∧ Q v w' ∧
    ∀ fs, (∀ (f : JFrame) (acts : List Action), f.method = m → f.locked = none → f.entered = [] → (doReturn e (T'.setTop f) acts v).1 = T'.setFrames fs) → Steps p.tables e below (T.setTop g) (T'.setFrames fs)
/-- from the pc, with these variables and operands, over w, the walk returns with what Q says -/
def Wk {μ E : Type} (l : Launch) (Z : State) (M : Mode μ E) (md : MD) (pc : Nat) (L : List Slot) (S : List Value) (w : μ) (cu su : Nat) (Q : Option Value → μ → Prop) : Prop :=
  ∀ (en : E) (p : Program) (e : Env) (s : State) (m : MethodId) (args : Array Value) (below : List Frame) (meth : Method) (c : Code) (T : State) (locs : List Loc) (r : Array Slot),
    Stand p l e (rmOf md) s m args below meth c T locs cu su → Kn Z M.own md p s m meth c → T.heap.size = s.heap.size + cu → Fr (M.lo en) locs → M.rel en w T.heap → SR (M.rho en) L r →
    Done l M md Q en p e s m args below meth c T (mkF m pc r (S.map (rv (M.rho en))))
section Steps
variable {μ E : Type} {l : Launch} {Z : State} {M : Mode μ E} {md : MD} {pc pc' : Nat} {L L' : List Slot} {S : List Value} {w : μ} {cu su : Nat} {Q : Option Value → μ → Prop}
theorem Done.pre {en : E} {p : Program} {e : Env} {s : State} {m : MethodId} {args : Array Value} {below : List Frame} {meth : Method} {c : Code} {T T1 : State} {g g1 : JFrame} (h : Done l M md Q en p e s m args below meth c T1 g1) (hT : ∀ x, M.frm en T1.heap x → M.frm en T.heap x)
    (st : ∀ t, Steps p.tables e below (T1.setTop g1) t → Steps p.tables e below (T.setTop g) t) : Done l M md Q en p e s m args below meth c T g := by
  obtain ⟨T', locs', su', v, w', a1, a2, a3, a4, a5, a6, a7, a8, a9, a10, a11⟩ := h
  exact ⟨T', locs', su', v, w', a1, a2, a3, a4, a5, a6, hT _ a7, a8, a9, a10, fun fs hf => st _ (a11 fs hf)⟩
theorem Wk.mono {Q' : Option Value → μ → Prop} (h : Wk l Z M md pc L S w cu su Q) (hq : ∀ v w', Q v w' → Q' v w') : Wk l Z M md pc L S w cu su Q' := by
  intro en p e s m args below meth c T locs r X K hz hF hR hL
  obtain ⟨T', locs', su', v, w', a1, a2, a3, a4, a5, a6, a7, a8, a9, a10, a11⟩ := h en p e s m args below meth c T locs r X K hz hF hR hL
  exact ⟨T', locs', su', v, w', a1, a2, a3, a4, a5, a6, a7, a8, a9, hq _ _ a10, a11⟩
abbrev InsA (md : MD) (pc : Nat) (i : Instr) (n pc' : Nat) : Prop := decode (byOf md) pc = .ok (i, n) ∧ pc + n = pc'
abbrev InsB (md : MD) (pc : Nat) (i : Instr) (n pc' : Nat) (o : Int) (pt : Nat) : Prop := decode (byOf md) pc = .ok (i, n) ∧ pc + n = pc' ∧ 0 ≤ (pc : Int) + o ∧ ((pc : Int) + o).toNat = pt
theorem Kn.by {own : String} {p : Program} {s : State} {m : MethodId} {meth : Method} {c : Code} (K : Kn Z own md p s m meth c) : c.code = byOf md := K.2.2.2.2.2.2.1
theorem Wk.forget (b : List Bool) (hf : fg b L = L') (hw : wfL L' = true) (h : Wk l Z M md pc L' S w cu su Q) : Wk l Z M md pc L S w cu su Q :=
  fun en p e s m args below meth c T locs r X K hz hF hR hL => h en p e s m args below meth c T locs r X K hz hF hR (by subst hf; exact hL.forget b hw)
theorem Wk.iloadN {k : Fin 4} {v : Int32} (hd : InsA md pc (.iload_n k) 1 pc') (hl : L[k.val]? = some (.val (.int v))) (h : Wk l Z M md pc' L (.int v :: S) w cu su Q) : Wk l Z M md pc L (S) w cu su Q :=
  fun en p e s m args below meth c T locs r X K hz hF hR hL => by
  obtain ⟨hd, rfl⟩ := hd
  exact (h en p e s m args below meth c T locs r X K hz hF hR hL).pre (fun _ q => q) fun t k => XS.iloadN X.here K.1 rfl (hb K.by hd) (hL.get hl) k
theorem Wk.iload {k : Nat} {v : Int32} (hd : InsA md pc (.iload k) 2 pc') (hl : L[k]? = some (.val (.int v))) (h : Wk l Z M md pc' L (.int v :: S) w cu su Q) : Wk l Z M md pc L (S) w cu su Q :=
  fun en p e s m args below meth c T locs r X K hz hF hR hL => by
  obtain ⟨hd, rfl⟩ := hd
  exact (h en p e s m args below meth c T locs r X K hz hF hR hL).pre (fun _ q => q) fun t k => XS.iload X.here K.1 rfl (hb K.by hd) (hL.get hl) k
theorem Wk.lloadN {k : Fin 4} {v : Int64} (hd : InsA md pc (.lload_n k) 1 pc') (hl : L[k.val]? = some (.val (.long v))) (h : Wk l Z M md pc' L (.long v :: S) w cu su Q) : Wk l Z M md pc L (S) w cu su Q :=
  fun en p e s m args below meth c T locs r X K hz hF hR hL => by
  obtain ⟨hd, rfl⟩ := hd
  exact (h en p e s m args below meth c T locs r X K hz hF hR hL).pre (fun _ q => q) fun t k => XT.lloadN X.here K.1 rfl (hb K.by hd) (hL.get hl) k
theorem Wk.lload {k : Nat} {v : Int64} (hd : InsA md pc (.lload k) 2 pc') (hl : L[k]? = some (.val (.long v))) (h : Wk l Z M md pc' L (.long v :: S) w cu su Q) : Wk l Z M md pc L (S) w cu su Q :=
  fun en p e s m args below meth c T locs r X K hz hF hR hL => by
  obtain ⟨hd, rfl⟩ := hd
  exact (h en p e s m args below meth c T locs r X K hz hF hR hL).pre (fun _ q => q) fun t k => XT.lload X.here K.1 rfl (hb K.by hd) (hL.get hl) k
theorem Wk.aloadN {k : Fin 4} {v : Nat} (hd : InsA md pc (.aload_n k) 1 pc') (hl : L[k.val]? = some (.val (.ref v))) (h : Wk l Z M md pc' L (.ref v :: S) w cu su Q) : Wk l Z M md pc L (S) w cu su Q :=
  fun en p e s m args below meth c T locs r X K hz hF hR hL => by
  obtain ⟨hd, rfl⟩ := hd
  exact (h en p e s m args below meth c T locs r X K hz hF hR hL).pre (fun _ q => q) fun t k => XS.aloadN X.here K.1 rfl (hb K.by hd) (hL.get hl) rfl k
theorem Wk.aload {k : Nat} {v : Nat} (hd : InsA md pc (.aload k) 2 pc') (hl : L[k]? = some (.val (.ref v))) (h : Wk l Z M md pc' L (.ref v :: S) w cu su Q) : Wk l Z M md pc L (S) w cu su Q :=
  fun en p e s m args below meth c T locs r X K hz hF hR hL => by
  obtain ⟨hd, rfl⟩ := hd
  exact (h en p e s m args below meth c T locs r X K hz hF hR hL).pre (fun _ q => q) fun t k => XS.aload X.here K.1 rfl (hb K.by hd) (hL.get hl) rfl k
theorem Wk.iconst {i : Int} {z : Int32} (hd : InsA md pc (.iconst i) 1 pc') (hz' : Int32.ofInt i = z) (h : Wk l Z M md pc' L (.int z :: S) w cu su Q) : Wk l Z M md pc L (S) w cu su Q :=
  fun en p e s m args below meth c T locs r X K hz hF hR hL => by
  obtain ⟨hd, rfl⟩ := hd
  exact (h en p e s m args below meth c T locs r X K hz hF hR hL).pre (fun _ q => q) fun t k => XS.iconst X.here K.1 rfl (hb K.by hd) (by subst hz'; exact k)
theorem Wk.bipush {i : Int} {z : Int32} (hd : InsA md pc (.bipush i) 2 pc') (hz' : (Int8.ofInt i).toInt32 = z) (h : Wk l Z M md pc' L (.int z :: S) w cu su Q) : Wk l Z M md pc L (S) w cu su Q :=
  fun en p e s m args below meth c T locs r X K hz hF hR hL => by
  obtain ⟨hd, rfl⟩ := hd
  exact (h en p e s m args below meth c T locs r X K hz hF hR hL).pre (fun _ q => q) fun t k => XS.bipush X.here K.1 rfl (hb K.by hd) (by subst hz'; exact k)
theorem Wk.sipush {i : Int} {z : Int32} (hd : InsA md pc (.sipush i) 3 pc') (hz' : (Int16.ofInt i).toInt32 = z) (h : Wk l Z M md pc' L (.int z :: S) w cu su Q) : Wk l Z M md pc L (S) w cu su Q :=
  fun en p e s m args below meth c T locs r X K hz hF hR hL => by
  obtain ⟨hd, rfl⟩ := hd
  exact (h en p e s m args below meth c T locs r X K hz hF hR hL).pre (fun _ q => q) fun t k => XS.sipush X.here K.1 rfl (hb K.by hd) (by subst hz'; exact k)
theorem Wk.lconst {i : Fin 2} {z : Int64} (hd : InsA md pc (.lconst i) 1 pc') (hz' : Int64.ofNat i = z) (h : Wk l Z M md pc' L (.long z :: S) w cu su Q) : Wk l Z M md pc L (S) w cu su Q :=
  fun en p e s m args below meth c T locs r X K hz hF hR hL => by
  obtain ⟨hd, rfl⟩ := hd
  exact (h en p e s m args below meth c T locs r X K hz hF hR hL).pre (fun _ q => q) fun t k => XT.lconst X.here K.1 rfl (hb K.by hd) (by subst hz'; exact k)
theorem Wk.iadd {x y : Int32} (hd : InsA md pc (.iadd) 1 pc') (h : Wk l Z M md pc' L (.int (x + y) :: S) w cu su Q) : Wk l Z M md pc L (.int y :: .int x :: S) w cu su Q :=
  fun en p e s m args below meth c T locs r X K hz hF hR hL => by
  obtain ⟨hd, rfl⟩ := hd
  exact (h en p e s m args below meth c T locs r X K hz hF hR hL).pre (fun _ q => q) fun t k => XS.iadd X.here K.1 rfl (hb K.by hd) rfl k
theorem Wk.isub {x y : Int32} (hd : InsA md pc (.isub) 1 pc') (h : Wk l Z M md pc' L (.int (x - y) :: S) w cu su Q) : Wk l Z M md pc L (.int y :: .int x :: S) w cu su Q :=
  fun en p e s m args below meth c T locs r X K hz hF hR hL => by
  obtain ⟨hd, rfl⟩ := hd
  exact (h en p e s m args below meth c T locs r X K hz hF hR hL).pre (fun _ q => q) fun t k => XS.isub X.here K.1 rfl (hb K.by hd) rfl k
theorem Wk.imul {x y : Int32} (hd : InsA md pc (.imul) 1 pc') (h : Wk l Z M md pc' L (.int (x * y) :: S) w cu su Q) : Wk l Z M md pc L (.int y :: .int x :: S) w cu su Q :=
  fun en p e s m args below meth c T locs r X K hz hF hR hL => by
  obtain ⟨hd, rfl⟩ := hd
  exact (h en p e s m args below meth c T locs r X K hz hF hR hL).pre (fun _ q => q) fun t k => XS.imul X.here K.1 rfl (hb K.by hd) rfl k
theorem Wk.iand {x y : Int32} (hd : InsA md pc (.iand) 1 pc') (h : Wk l Z M md pc' L (.int (x &&& y) :: S) w cu su Q) : Wk l Z M md pc L (.int y :: .int x :: S) w cu su Q :=
  fun en p e s m args below meth c T locs r X K hz hF hR hL => by
  obtain ⟨hd, rfl⟩ := hd
  exact (h en p e s m args below meth c T locs r X K hz hF hR hL).pre (fun _ q => q) fun t k => XS.iand X.here K.1 rfl (hb K.by hd) rfl k
theorem Wk.ior {x y : Int32} (hd : InsA md pc (.ior) 1 pc') (h : Wk l Z M md pc' L (.int (x ||| y) :: S) w cu su Q) : Wk l Z M md pc L (.int y :: .int x :: S) w cu su Q :=
  fun en p e s m args below meth c T locs r X K hz hF hR hL => by
  obtain ⟨hd, rfl⟩ := hd
  exact (h en p e s m args below meth c T locs r X K hz hF hR hL).pre (fun _ q => q) fun t k => XT.ior X.here K.1 rfl (hb K.by hd) rfl k
theorem Wk.ixor {x y : Int32} (hd : InsA md pc (.ixor) 1 pc') (h : Wk l Z M md pc' L (.int (x ^^^ y) :: S) w cu su Q) : Wk l Z M md pc L (.int y :: .int x :: S) w cu su Q :=
  fun en p e s m args below meth c T locs r X K hz hF hR hL => by
  obtain ⟨hd, rfl⟩ := hd
  exact (h en p e s m args below meth c T locs r X K hz hF hR hL).pre (fun _ q => q) fun t k => XT.ixor X.here K.1 rfl (hb K.by hd) rfl k
theorem Wk.ishl {x y : Int32} (hd : InsA md pc (.ishl) 1 pc') (h : Wk l Z M md pc' L (.int (x <<< (y &&& 31)) :: S) w cu su Q) : Wk l Z M md pc L (.int y :: .int x :: S) w cu su Q :=
  fun en p e s m args below meth c T locs r X K hz hF hR hL => by
  obtain ⟨hd, rfl⟩ := hd
  exact (h en p e s m args below meth c T locs r X K hz hF hR hL).pre (fun _ q => q) fun t k => XT.ishl X.here K.1 rfl (hb K.by hd) rfl k
theorem Wk.ishr {x y : Int32} (hd : InsA md pc (.ishr) 1 pc') (h : Wk l Z M md pc' L (.int (x >>> (y &&& 31)) :: S) w cu su Q) : Wk l Z M md pc L (.int y :: .int x :: S) w cu su Q :=
  fun en p e s m args below meth c T locs r X K hz hF hR hL => by
  obtain ⟨hd, rfl⟩ := hd
  exact (h en p e s m args below meth c T locs r X K hz hF hR hL).pre (fun _ q => q) fun t k => XT.ishr X.here K.1 rfl (hb K.by hd) rfl k
theorem Wk.iushr {x y : Int32} (hd : InsA md pc (.iushr) 1 pc') (h : Wk l Z M md pc' L (.int (XT.ushr x y) :: S) w cu su Q) : Wk l Z M md pc L (.int y :: .int x :: S) w cu su Q :=
  fun en p e s m args below meth c T locs r X K hz hF hR hL => by
  obtain ⟨hd, rfl⟩ := hd
  exact (h en p e s m args below meth c T locs r X K hz hF hR hL).pre (fun _ q => q) fun t k => XT.iushr X.here K.1 rfl (hb K.by hd) rfl k
theorem Wk.ineg {x : Int32} (hd : InsA md pc (.ineg) 1 pc') (h : Wk l Z M md pc' L (.int (-x) :: S) w cu su Q) : Wk l Z M md pc L (.int x :: S) w cu su Q :=
  fun en p e s m args below meth c T locs r X K hz hF hR hL => by
  obtain ⟨hd, rfl⟩ := hd
  exact (h en p e s m args below meth c T locs r X K hz hF hR hL).pre (fun _ q => q) fun t k => XS.ineg X.here K.1 rfl (hb K.by hd) rfl k
theorem Wk.idiv {x y : Int32} (hd : InsA md pc (.idiv) 1 pc') (hy : y ≠ 0) (h : Wk l Z M md pc' L (.int (x / y) :: S) w cu su Q) : Wk l Z M md pc L (.int y :: .int x :: S) w cu su Q :=
  fun en p e s m args below meth c T locs r X K hz hF hR hL => by
  obtain ⟨hd, rfl⟩ := hd
  exact (h en p e s m args below meth c T locs r X K hz hF hR hL).pre (fun _ q => q) fun t k => XS.idiv X.here K.1 rfl (hb K.by hd) rfl hy k
theorem Wk.irem {x y : Int32} (hd : InsA md pc (.irem) 1 pc') (hy : y ≠ 0) (h : Wk l Z M md pc' L (.int (x % y) :: S) w cu su Q) : Wk l Z M md pc L (.int y :: .int x :: S) w cu su Q :=
  fun en p e s m args below meth c T locs r X K hz hF hR hL => by
  obtain ⟨hd, rfl⟩ := hd
  exact (h en p e s m args below meth c T locs r X K hz hF hR hL).pre (fun _ q => q) fun t k => Jvm.RoadKit.iremM X K.1 rfl (hb K.by hd) rfl hy k
theorem Wk.ladd {x y : Int64} (hd : InsA md pc (.ladd) 1 pc') (h : Wk l Z M md pc' L (.long (x + y) :: S) w cu su Q) : Wk l Z M md pc L (.long y :: .long x :: S) w cu su Q :=
  fun en p e s m args below meth c T locs r X K hz hF hR hL => by
  obtain ⟨hd, rfl⟩ := hd
  exact (h en p e s m args below meth c T locs r X K hz hF hR hL).pre (fun _ q => q) fun t k => XT.ladd X.here K.1 rfl (hb K.by hd) rfl k
theorem Wk.lsub {x y : Int64} (hd : InsA md pc (.lsub) 1 pc') (h : Wk l Z M md pc' L (.long (x - y) :: S) w cu su Q) : Wk l Z M md pc L (.long y :: .long x :: S) w cu su Q :=
  fun en p e s m args below meth c T locs r X K hz hF hR hL => by
  obtain ⟨hd, rfl⟩ := hd
  exact (h en p e s m args below meth c T locs r X K hz hF hR hL).pre (fun _ q => q) fun t k => XT.lsub X.here K.1 rfl (hb K.by hd) rfl k
theorem Wk.lmul {x y : Int64} (hd : InsA md pc (.lmul) 1 pc') (h : Wk l Z M md pc' L (.long (x * y) :: S) w cu su Q) : Wk l Z M md pc L (.long y :: .long x :: S) w cu su Q :=
  fun en p e s m args below meth c T locs r X K hz hF hR hL => by
  obtain ⟨hd, rfl⟩ := hd
  exact (h en p e s m args below meth c T locs r X K hz hF hR hL).pre (fun _ q => q) fun t k => XT.lmul X.here K.1 rfl (hb K.by hd) rfl k
theorem Wk.land {x y : Int64} (hd : InsA md pc (.land) 1 pc') (h : Wk l Z M md pc' L (.long (x &&& y) :: S) w cu su Q) : Wk l Z M md pc L (.long y :: .long x :: S) w cu su Q :=
  fun en p e s m args below meth c T locs r X K hz hF hR hL => by
  obtain ⟨hd, rfl⟩ := hd
  exact (h en p e s m args below meth c T locs r X K hz hF hR hL).pre (fun _ q => q) fun t k => XT.land X.here K.1 rfl (hb K.by hd) rfl k
theorem Wk.lor {x y : Int64} (hd : InsA md pc (.lor) 1 pc') (h : Wk l Z M md pc' L (.long (x ||| y) :: S) w cu su Q) : Wk l Z M md pc L (.long y :: .long x :: S) w cu su Q :=
  fun en p e s m args below meth c T locs r X K hz hF hR hL => by
  obtain ⟨hd, rfl⟩ := hd
  exact (h en p e s m args below meth c T locs r X K hz hF hR hL).pre (fun _ q => q) fun t k => XT.lor X.here K.1 rfl (hb K.by hd) rfl k
theorem Wk.lxor {x y : Int64} (hd : InsA md pc (.lxor) 1 pc') (h : Wk l Z M md pc' L (.long (x ^^^ y) :: S) w cu su Q) : Wk l Z M md pc L (.long y :: .long x :: S) w cu su Q :=
  fun en p e s m args below meth c T locs r X K hz hF hR hL => by
  obtain ⟨hd, rfl⟩ := hd
  exact (h en p e s m args below meth c T locs r X K hz hF hR hL).pre (fun _ q => q) fun t k => XT.lxor X.here K.1 rfl (hb K.by hd) rfl k
theorem Wk.ldiv {x y : Int64} (hd : InsA md pc (.ldiv) 1 pc') (hy : y ≠ 0) (h : Wk l Z M md pc' L (.long (x / y) :: S) w cu su Q) : Wk l Z M md pc L (.long y :: .long x :: S) w cu su Q :=
  fun en p e s m args below meth c T locs r X K hz hF hR hL => by
  obtain ⟨hd, rfl⟩ := hd
  exact (h en p e s m args below meth c T locs r X K hz hF hR hL).pre (fun _ q => q) fun t k => XT.ldiv X.here K.1 rfl (hb K.by hd) rfl hy k
theorem Wk.lrem {x y : Int64} (hd : InsA md pc (.lrem) 1 pc') (hy : y ≠ 0) (h : Wk l Z M md pc' L (.long (x - (x / y) * y) :: S) w cu su Q) : Wk l Z M md pc L (.long y :: .long x :: S) w cu su Q :=
  fun en p e s m args below meth c T locs r X K hz hF hR hL => by
  obtain ⟨hd, rfl⟩ := hd
  exact (h en p e s m args below meth c T locs r X K hz hF hR hL).pre (fun _ q => q) fun t k => XT.lrem X.here K.1 rfl (hb K.by hd) rfl hy k
theorem Wk.lshl {x : Int64} {y : Int32} (hd : InsA md pc (.lshl) 1 pc') (h : Wk l Z M md pc' L (.long (x <<< (y.toInt64 &&& 63)) :: S) w cu su Q) : Wk l Z M md pc L (.int y :: .long x :: S) w cu su Q :=
  fun en p e s m args below meth c T locs r X K hz hF hR hL => by
  obtain ⟨hd, rfl⟩ := hd
  exact (h en p e s m args below meth c T locs r X K hz hF hR hL).pre (fun _ q => q) fun t k => XT.lshl X.here K.1 rfl (hb K.by hd) rfl k
theorem Wk.lshr {x : Int64} {y : Int32} (hd : InsA md pc (.lshr) 1 pc') (h : Wk l Z M md pc' L (.long (x >>> (y.toInt64 &&& 63)) :: S) w cu su Q) : Wk l Z M md pc L (.int y :: .long x :: S) w cu su Q :=
  fun en p e s m args below meth c T locs r X K hz hF hR hL => by
  obtain ⟨hd, rfl⟩ := hd
  exact (h en p e s m args below meth c T locs r X K hz hF hR hL).pre (fun _ q => q) fun t k => XT.lshr X.here K.1 rfl (hb K.by hd) rfl k
theorem Wk.lushr {x : Int64} {y : Int32} (hd : InsA md pc (.lushr) 1 pc') (h : Wk l Z M md pc' L (.long (XT.ushrL x y) :: S) w cu su Q) : Wk l Z M md pc L (.int y :: .long x :: S) w cu su Q :=
  fun en p e s m args below meth c T locs r X K hz hF hR hL => by
  obtain ⟨hd, rfl⟩ := hd
  exact (h en p e s m args below meth c T locs r X K hz hF hR hL).pre (fun _ q => q) fun t k => XT.lushr X.here K.1 rfl (hb K.by hd) rfl k
theorem Wk.i2l {x : Int32} (hd : InsA md pc (.i2l) 1 pc') (h : Wk l Z M md pc' L (.long x.toInt64 :: S) w cu su Q) : Wk l Z M md pc L (.int x :: S) w cu su Q :=
  fun en p e s m args below meth c T locs r X K hz hF hR hL => by
  obtain ⟨hd, rfl⟩ := hd
  exact (h en p e s m args below meth c T locs r X K hz hF hR hL).pre (fun _ q => q) fun t k => XT.i2l X.here K.1 rfl (hb K.by hd) rfl k
theorem Wk.l2i {x : Int64} (hd : InsA md pc (.l2i) 1 pc') (h : Wk l Z M md pc' L (.int x.toInt32 :: S) w cu su Q) : Wk l Z M md pc L (.long x :: S) w cu su Q :=
  fun en p e s m args below meth c T locs r X K hz hF hR hL => by
  obtain ⟨hd, rfl⟩ := hd
  exact (h en p e s m args below meth c T locs r X K hz hF hR hL).pre (fun _ q => q) fun t k => XT.l2i X.here K.1 rfl (hb K.by hd) rfl k
theorem Wk.lcmp {x y : Int64} (hd : InsA md pc (.lcmp) 1 pc') (h : Wk l Z M md pc' L (.int (XT.cmpL x y) :: S) w cu su Q) : Wk l Z M md pc L (.long y :: .long x :: S) w cu su Q :=
  fun en p e s m args below meth c T locs r X K hz hF hR hL => by
  obtain ⟨hd, rfl⟩ := hd
  exact (h en p e s m args below meth c T locs r X K hz hF hR hL).pre (fun _ q => q) fun t k => XT.lcmp X.here K.1 rfl (hb K.by hd) rfl k
theorem Wk.dup {v : Value} (hd : InsA md pc (.dup) 1 pc') (hv : v.category = 1) (h : Wk l Z M md pc' L (v :: v :: S) w cu su Q) : Wk l Z M md pc L (v :: S) w cu su Q :=
  fun en p e s m args below meth c T locs r X K hz hF hR hL => by
  obtain ⟨hd, rfl⟩ := hd
  exact (h en p e s m args below meth c T locs r X K hz hF hR hL).pre (fun _ q => q) fun t k => XS.dup X.here K.1 rfl (hb K.by hd) rfl (by rw [rv_cat]; exact hv) k
theorem Wk.pop {v : Value} (hd : InsA md pc (.pop) 1 pc') (hv : v.category = 1) (h : Wk l Z M md pc' L (S) w cu su Q) : Wk l Z M md pc L (v :: S) w cu su Q :=
  fun en p e s m args below meth c T locs r X K hz hF hR hL => by
  obtain ⟨hd, rfl⟩ := hd
  exact (h en p e s m args below meth c T locs r X K hz hF hR hL).pre (fun _ q => q) fun t k => XT.pop X.here K.1 rfl (hb K.by hd) rfl (by rw [rv_cat]; exact hv) k
theorem Wk.dup2 {v u : Value} (hd : InsA md pc (.dup2) 1 pc') (hv : v.category = 1) (hu : u.category = 1) (h : Wk l Z M md pc' L (v :: u :: v :: u :: S) w cu su Q) : Wk l Z M md pc L (v :: u :: S) w cu su Q :=
  fun en p e s m args below meth c T locs r X K hz hF hR hL => by
  obtain ⟨hd, rfl⟩ := hd
  exact (h en p e s m args below meth c T locs r X K hz hF hR hL).pre (fun _ q => q) fun t k => XT.dup2 X.here K.1 rfl (hb K.by hd) rfl (by rw [rv_cat]; exact hv) (by rw [rv_cat]; exact hu) k
theorem Wk.dupX1 {v u : Value} (hd : InsA md pc (.dup_x1) 1 pc') (hv : v.category = 1) (hu : u.category = 1) (h : Wk l Z M md pc' L (v :: u :: v :: S) w cu su Q) : Wk l Z M md pc L (v :: u :: S) w cu su Q :=
  fun en p e s m args below meth c T locs r X K hz hF hR hL => by
  obtain ⟨hd, rfl⟩ := hd
  exact (h en p e s m args below meth c T locs r X K hz hF hR hL).pre (fun _ q => q) fun t k => XT.dupX1 X.here K.1 rfl (hb K.by hd) rfl (by rw [rv_cat]; exact hv) (by rw [rv_cat]; exact hu) k
theorem Wk.istoreN {k : Fin 4} {x : Int32} (hd : InsA md pc (.istore_n k) 1 pc') (ho : C1 L[k.val]?) (hl : L.set k.val (.val (.int x)) = L') (h : Wk l Z M md pc' L' S w cu su Q) : Wk l Z M md pc L (.int x :: S) w cu su Q :=
  fun en p e s m args below meth c T locs r X K hz hF hR hL => by
  obtain ⟨hd, rfl⟩ := hd
  obtain ⟨r', e1, hL2⟩ := hL.st1 (v := .int x) ho rfl
  subst hl
  exact (h en p e s m args below meth c T locs r' X K hz hF hR hL2).pre (fun _ q => q) fun t k => XS.istoreN X.here K.1 rfl (hb K.by hd) rfl e1 k
theorem Wk.istore {k : Nat} {x : Int32} (hd : InsA md pc (.istore k) 2 pc') (ho : C1 L[k]?) (hl : L.set k (.val (.int x)) = L') (h : Wk l Z M md pc' L' S w cu su Q) : Wk l Z M md pc L (.int x :: S) w cu su Q :=
  fun en p e s m args below meth c T locs r X K hz hF hR hL => by
  obtain ⟨hd, rfl⟩ := hd
  obtain ⟨r', e1, hL2⟩ := hL.st1 (v := .int x) ho rfl
  subst hl
  exact (h en p e s m args below meth c T locs r' X K hz hF hR hL2).pre (fun _ q => q) fun t k => XS.istore X.here K.1 rfl (hb K.by hd) rfl e1 k
theorem Wk.astoreN {k : Fin 4} {x : Nat} (hd : InsA md pc (.astore_n k) 1 pc') (ho : C1 L[k.val]?) (hl : L.set k.val (.val (.ref x)) = L') (h : Wk l Z M md pc' L' S w cu su Q) : Wk l Z M md pc L (.ref x :: S) w cu su Q :=
  fun en p e s m args below meth c T locs r X K hz hF hR hL => by
  obtain ⟨hd, rfl⟩ := hd
  obtain ⟨r', e1, hL2⟩ := hL.st1 (v := .ref x) ho rfl
  subst hl
  exact (h en p e s m args below meth c T locs r' X K hz hF hR hL2).pre (fun _ q => q) fun t k => XS.astoreN X.here K.1 rfl (hb K.by hd) rfl rfl e1 k
theorem Wk.astore {k : Nat} {x : Nat} (hd : InsA md pc (.astore k) 2 pc') (ho : C1 L[k]?) (hl : L.set k (.val (.ref x)) = L') (h : Wk l Z M md pc' L' S w cu su Q) : Wk l Z M md pc L (.ref x :: S) w cu su Q :=
  fun en p e s m args below meth c T locs r X K hz hF hR hL => by
  obtain ⟨hd, rfl⟩ := hd
  obtain ⟨r', e1, hL2⟩ := hL.st1 (v := .ref x) ho rfl
  subst hl
  exact (h en p e s m args below meth c T locs r' X K hz hF hR hL2).pre (fun _ q => q) fun t k => XS.astore X.here K.1 rfl (hb K.by hd) rfl rfl e1 k
theorem Wk.lstoreN {k : Fin 4} {x : Int64} (hd : InsA md pc (.lstore_n k) 1 pc') (ho : C1 L[k.val]?) (ho2 : C1 L[k.val + 1]?) (hl : (L.set k.val (.val (.long x))).set (k.val + 1) .second = L') (h : Wk l Z M md pc' L' S w cu su Q) : Wk l Z M md pc L (.long x :: S) w cu su Q :=
  fun en p e s m args below meth c T locs r X K hz hF hR hL => by
  obtain ⟨hd, rfl⟩ := hd
  obtain ⟨r', e1, hL2⟩ := hL.st2 (v := .long x) ho ho2 rfl
  subst hl
  exact (h en p e s m args below meth c T locs r' X K hz hF hR hL2).pre (fun _ q => q) fun t k => XT.lstoreN X.here K.1 rfl (hb K.by hd) rfl e1 k
theorem Wk.lstore {k : Nat} {x : Int64} (hd : InsA md pc (.lstore k) 2 pc') (ho : C1 L[k]?) (ho2 : C1 L[k + 1]?) (hl : (L.set k (.val (.long x))).set (k + 1) .second = L') (h : Wk l Z M md pc' L' S w cu su Q) : Wk l Z M md pc L (.long x :: S) w cu su Q :=
  fun en p e s m args below meth c T locs r X K hz hF hR hL => by
  obtain ⟨hd, rfl⟩ := hd
  obtain ⟨r', e1, hL2⟩ := hL.st2 (v := .long x) ho ho2 rfl
  subst hl
  exact (h en p e s m args below meth c T locs r' X K hz hF hR hL2).pre (fun _ q => q) fun t k => XT.lstore X.here K.1 rfl (hb K.by hd) rfl e1 k
theorem Wk.iinc {k : Nat} {cst : Int} {x z : Int32} (hd : InsA md pc (.iinc k cst) 3 pc') (hv : L[k]? = some (.val (.int x))) (hz' : x + Int32.ofInt cst = z) (hl : L.set k (.val (.int z)) = L') (h : Wk l Z M md pc' L' S w cu su Q) : Wk l Z M md pc L S w cu su Q :=
  fun en p e s m args below meth c T locs r X K hz hF hR hL => by
  obtain ⟨hd, rfl⟩ := hd
  obtain ⟨r', e1, hL2⟩ := hL.st1 (i := k) (v := .int z) (Or.inr ⟨_, hv, rfl⟩) rfl
  subst hl hz'
  exact (h en p e s m args below meth c T locs r' X K hz hF hR hL2).pre (fun _ q => q) fun t k => XS.iinc X.here K.1 rfl (hb K.by hd) (hL.get hv) e1 k
theorem Wk.goto {o : Int} {pt : Nat} (hd : InsB md pc (.goto o) 3 pc' o pt) (h : Wk l Z M md pt L S w cu su Q) : Wk l Z M md pc L S w cu su Q :=
  fun en p e s m args below meth c T locs r X K hz hF hR hL => by
  obtain ⟨hd, rfl, h3, h4⟩ := hd
  exact (h en p e s m args below meth c T locs r X K hz hF hR hL).pre (fun _ q => q) fun t k => XS.goto X.here K.1 rfl rfl (hb K.by hd) h3 h4 k
theorem Wk.icmp_lt {x y : Int32} {o : Int} {pt : Nat} (hd : InsB md pc (.if_icmp .lt o) 3 pc' o pt) (h1 : x < y → Wk l Z M md pt L S w cu su Q) (h2 : ¬ x < y → Wk l Z M md pc' L S w cu su Q) : Wk l Z M md pc L (.int y :: .int x :: S) w cu su Q :=
  fun en p e s m args below meth c T locs r X K hz hF hR hL => by
  obtain ⟨hd, rfl, h3, h4⟩ := hd
  by_cases q : x < y
  · exact (h1 q en p e s m args below meth c T locs r X K hz hF hR hL).pre (fun _ q => q) fun t k => XS.icmpYes X.here K.1 rfl rfl (hb K.by hd) rfl (tlt q).1 h3 h4 k
  · exact (h2 q en p e s m args below meth c T locs r X K hz hF hR hL).pre (fun _ q => q) fun t k => XS.icmpNo X.here K.1 rfl (hb K.by hd) rfl (flt q).1 k
theorem Wk.if_lt {x : Int32} {o : Int} {pt : Nat} (hd : InsB md pc (.ifCond .lt o) 3 pc' o pt) (h1 : x < 0 → Wk l Z M md pt L S w cu su Q) (h2 : ¬ x < 0 → Wk l Z M md pc' L S w cu su Q) : Wk l Z M md pc L (.int x :: S) w cu su Q :=
  fun en p e s m args below meth c T locs r X K hz hF hR hL => by
  obtain ⟨hd, rfl, h3, h4⟩ := hd
  by_cases q : x < 0
  · exact (h1 q en p e s m args below meth c T locs r X K hz hF hR hL).pre (fun _ q => q) fun t k => XS.ifYes X.here K.1 rfl rfl (hb K.by hd) rfl ((if0 _ _).trans (tlt q).1) h3 h4 k
  · exact (h2 q en p e s m args below meth c T locs r X K hz hF hR hL).pre (fun _ q => q) fun t k => XS.ifNo X.here K.1 rfl (hb K.by hd) rfl ((if0 _ _).trans (flt q).1) k
theorem Wk.icmp_ge {x y : Int32} {o : Int} {pt : Nat} (hd : InsB md pc (.if_icmp .ge o) 3 pc' o pt) (h1 : ¬ x < y → Wk l Z M md pt L S w cu su Q) (h2 : x < y → Wk l Z M md pc' L S w cu su Q) : Wk l Z M md pc L (.int y :: .int x :: S) w cu su Q :=
  fun en p e s m args below meth c T locs r X K hz hF hR hL => by
  obtain ⟨hd, rfl, h3, h4⟩ := hd
  by_cases q : x < y
  · exact (h2 q en p e s m args below meth c T locs r X K hz hF hR hL).pre (fun _ q => q) fun t k => XS.icmpNo X.here K.1 rfl (hb K.by hd) rfl (tlt q).2.1 k
  · exact (h1 q en p e s m args below meth c T locs r X K hz hF hR hL).pre (fun _ q => q) fun t k => XS.icmpYes X.here K.1 rfl rfl (hb K.by hd) rfl (flt q).2.1 h3 h4 k
theorem Wk.if_ge {x : Int32} {o : Int} {pt : Nat} (hd : InsB md pc (.ifCond .ge o) 3 pc' o pt) (h1 : ¬ x < 0 → Wk l Z M md pt L S w cu su Q) (h2 : x < 0 → Wk l Z M md pc' L S w cu su Q) : Wk l Z M md pc L (.int x :: S) w cu su Q :=
  fun en p e s m args below meth c T locs r X K hz hF hR hL => by
  obtain ⟨hd, rfl, h3, h4⟩ := hd
  by_cases q : x < 0
  · exact (h2 q en p e s m args below meth c T locs r X K hz hF hR hL).pre (fun _ q => q) fun t k => XS.ifNo X.here K.1 rfl (hb K.by hd) rfl ((if0 _ _).trans (tlt q).2.1) k
  · exact (h1 q en p e s m args below meth c T locs r X K hz hF hR hL).pre (fun _ q => q) fun t k => XS.ifYes X.here K.1 rfl rfl (hb K.by hd) rfl ((if0 _ _).trans (flt q).2.1) h3 h4 k
theorem Wk.icmp_gt {x y : Int32} {o : Int} {pt : Nat} (hd : InsB md pc (.if_icmp .gt o) 3 pc' o pt) (h1 : y < x → Wk l Z M md pt L S w cu su Q) (h2 : ¬ y < x → Wk l Z M md pc' L S w cu su Q) : Wk l Z M md pc L (.int y :: .int x :: S) w cu su Q :=
  fun en p e s m args below meth c T locs r X K hz hF hR hL => by
  obtain ⟨hd, rfl, h3, h4⟩ := hd
  by_cases q : y < x
  · exact (h1 q en p e s m args below meth c T locs r X K hz hF hR hL).pre (fun _ q => q) fun t k => XS.icmpYes X.here K.1 rfl rfl (hb K.by hd) rfl (tlt q).2.2.1 h3 h4 k
  · exact (h2 q en p e s m args below meth c T locs r X K hz hF hR hL).pre (fun _ q => q) fun t k => XS.icmpNo X.here K.1 rfl (hb K.by hd) rfl (flt q).2.2.1 k
theorem Wk.if_gt {x : Int32} {o : Int} {pt : Nat} (hd : InsB md pc (.ifCond .gt o) 3 pc' o pt) (h1 : 0 < x → Wk l Z M md pt L S w cu su Q) (h2 : ¬ 0 < x → Wk l Z M md pc' L S w cu su Q) : Wk l Z M md pc L (.int x :: S) w cu su Q :=
  fun en p e s m args below meth c T locs r X K hz hF hR hL => by
  obtain ⟨hd, rfl, h3, h4⟩ := hd
  by_cases q : 0 < x
  · exact (h1 q en p e s m args below meth c T locs r X K hz hF hR hL).pre (fun _ q => q) fun t k => XS.ifYes X.here K.1 rfl rfl (hb K.by hd) rfl ((if0 _ _).trans (tlt q).2.2.1) h3 h4 k
  · exact (h2 q en p e s m args below meth c T locs r X K hz hF hR hL).pre (fun _ q => q) fun t k => XS.ifNo X.here K.1 rfl (hb K.by hd) rfl ((if0 _ _).trans (flt q).2.2.1) k
theorem Wk.icmp_le {x y : Int32} {o : Int} {pt : Nat} (hd : InsB md pc (.if_icmp .le o) 3 pc' o pt) (h1 : ¬ y < x → Wk l Z M md pt L S w cu su Q) (h2 : y < x → Wk l Z M md pc' L S w cu su Q) : Wk l Z M md pc L (.int y :: .int x :: S) w cu su Q :=
  fun en p e s m args below meth c T locs r X K hz hF hR hL => by
  obtain ⟨hd, rfl, h3, h4⟩ := hd
  by_cases q : y < x
  · exact (h2 q en p e s m args below meth c T locs r X K hz hF hR hL).pre (fun _ q => q) fun t k => XS.icmpNo X.here K.1 rfl (hb K.by hd) rfl (tlt q).2.2.2 k
  · exact (h1 q en p e s m args below meth c T locs r X K hz hF hR hL).pre (fun _ q => q) fun t k => XS.icmpYes X.here K.1 rfl rfl (hb K.by hd) rfl (flt q).2.2.2 h3 h4 k
theorem Wk.if_le {x : Int32} {o : Int} {pt : Nat} (hd : InsB md pc (.ifCond .le o) 3 pc' o pt) (h1 : ¬ 0 < x → Wk l Z M md pt L S w cu su Q) (h2 : 0 < x → Wk l Z M md pc' L S w cu su Q) : Wk l Z M md pc L (.int x :: S) w cu su Q :=
  fun en p e s m args below meth c T locs r X K hz hF hR hL => by
  obtain ⟨hd, rfl, h3, h4⟩ := hd
  by_cases q : 0 < x
  · exact (h2 q en p e s m args below meth c T locs r X K hz hF hR hL).pre (fun _ q => q) fun t k => XS.ifNo X.here K.1 rfl (hb K.by hd) rfl ((if0 _ _).trans (tlt q).2.2.2) k
  · exact (h1 q en p e s m args below meth c T locs r X K hz hF hR hL).pre (fun _ q => q) fun t k => XS.ifYes X.here K.1 rfl rfl (hb K.by hd) rfl ((if0 _ _).trans (flt q).2.2.2) h3 h4 k
theorem Wk.icmp_eq {x y : Int32} {o : Int} {pt : Nat} (hd : InsB md pc (.if_icmp .eq o) 3 pc' o pt) (h1 : x = y → Wk l Z M md pt L S w cu su Q) (h2 : ¬ x = y → Wk l Z M md pc' L S w cu su Q) : Wk l Z M md pc L (.int y :: .int x :: S) w cu su Q :=
  fun en p e s m args below meth c T locs r X K hz hF hR hL => by
  obtain ⟨hd, rfl, h3, h4⟩ := hd
  by_cases q : x = y
  · exact (h1 q en p e s m args below meth c T locs r X K hz hF hR hL).pre (fun _ q => q) fun t k => XS.icmpYes X.here K.1 rfl rfl (hb K.by hd) rfl (teq q).1 h3 h4 k
  · exact (h2 q en p e s m args below meth c T locs r X K hz hF hR hL).pre (fun _ q => q) fun t k => XS.icmpNo X.here K.1 rfl (hb K.by hd) rfl (feq q).1 k
theorem Wk.if_eq {x : Int32} {o : Int} {pt : Nat} (hd : InsB md pc (.ifCond .eq o) 3 pc' o pt) (h1 : x = 0 → Wk l Z M md pt L S w cu su Q) (h2 : ¬ x = 0 → Wk l Z M md pc' L S w cu su Q) : Wk l Z M md pc L (.int x :: S) w cu su Q :=
  fun en p e s m args below meth c T locs r X K hz hF hR hL => by
  obtain ⟨hd, rfl, h3, h4⟩ := hd
  by_cases q : x = 0
  · exact (h1 q en p e s m args below meth c T locs r X K hz hF hR hL).pre (fun _ q => q) fun t k => XS.ifYes X.here K.1 rfl rfl (hb K.by hd) rfl ((if0 _ _).trans (teq q).1) h3 h4 k
  · exact (h2 q en p e s m args below meth c T locs r X K hz hF hR hL).pre (fun _ q => q) fun t k => XS.ifNo X.here K.1 rfl (hb K.by hd) rfl ((if0 _ _).trans (feq q).1) k
theorem Wk.icmp_ne {x y : Int32} {o : Int} {pt : Nat} (hd : InsB md pc (.if_icmp .ne o) 3 pc' o pt) (h1 : ¬ x = y → Wk l Z M md pt L S w cu su Q) (h2 : x = y → Wk l Z M md pc' L S w cu su Q) : Wk l Z M md pc L (.int y :: .int x :: S) w cu su Q :=
  fun en p e s m args below meth c T locs r X K hz hF hR hL => by
  obtain ⟨hd, rfl, h3, h4⟩ := hd
  by_cases q : x = y
  · exact (h2 q en p e s m args below meth c T locs r X K hz hF hR hL).pre (fun _ q => q) fun t k => XS.icmpNo X.here K.1 rfl (hb K.by hd) rfl (teq q).2 k
  · exact (h1 q en p e s m args below meth c T locs r X K hz hF hR hL).pre (fun _ q => q) fun t k => XS.icmpYes X.here K.1 rfl rfl (hb K.by hd) rfl (feq q).2 h3 h4 k
theorem Wk.if_ne {x : Int32} {o : Int} {pt : Nat} (hd : InsB md pc (.ifCond .ne o) 3 pc' o pt) (h1 : ¬ x = 0 → Wk l Z M md pt L S w cu su Q) (h2 : x = 0 → Wk l Z M md pc' L S w cu su Q) : Wk l Z M md pc L (.int x :: S) w cu su Q :=
  fun en p e s m args below meth c T locs r X K hz hF hR hL => by
  obtain ⟨hd, rfl, h3, h4⟩ := hd
  by_cases q : x = 0
  · exact (h2 q en p e s m args below meth c T locs r X K hz hF hR hL).pre (fun _ q => q) fun t k => XS.ifNo X.here K.1 rfl (hb K.by hd) rfl ((if0 _ _).trans (teq q).2) k
  · exact (h1 q en p e s m args below meth c T locs r X K hz hF hR hL).pre (fun _ q => q) fun t k => XS.ifYes X.here K.1 rfl rfl (hb K.by hd) rfl ((if0 _ _).trans (feq q).2) h3 h4 k
theorem Wk.tswIn {dflt low high o : Int} {offs : Array Int} {len pt : Nat} {x z : Int32} (hd : InsB md pc (.tableswitch dflt low high offs) len pc' o pt) (hx : x = z) (hin : ¬ (z.toInt < low ∨ z.toInt > high)) (hoff : offs[(z.toInt - low).toNat]? = some o) (h : Wk l Z M md pt L S w cu su Q) : Wk l Z M md pc L (.int x :: S) w cu su Q :=
  fun en p e s m args below meth c T locs r X K hz hF hR hL => by
  obtain ⟨hd, rfl, h3, h4⟩ := hd
  subst hx
  exact (h en p e s m args below meth c T locs r X K hz hF hR hL).pre (fun _ q => q) fun t k => XS.tswIn X.here K.1 rfl rfl (hb K.by hd) rfl hin hoff h3 h4 k
theorem Wk.tswOut {dflt low high : Int} {offs : Array Int} {len pt : Nat} {x : Int32} (hd : InsB md pc (.tableswitch dflt low high offs) len pc' dflt pt) (hout : x.toInt < low ∨ x.toInt > high) (h : Wk l Z M md pt L S w cu su Q) : Wk l Z M md pc L (.int x :: S) w cu su Q :=
  fun en p e s m args below meth c T locs r X K hz hF hR hL => by
  obtain ⟨hd, rfl, h3, h4⟩ := hd
  exact (h en p e s m args below meth c T locs r X K hz hF hR hL).pre (fun _ q => q) fun t k => XS.tswOut X.here K.1 rfl rfl (hb K.by hd) rfl hout h3 h4 k
theorem Wk.ldc {idx : Nat} {z : Int32} {a0 : Array Value} (hd : InsA md pc (.ldc idx) 2 pc') (wd : (Cond.constant M.own idx z).before a0 Z = true) (h : Wk l Z M md pc' L (.int z :: S) w cu su Q) : Wk l Z M md pc L S w cu su Q :=
  fun en p e s m args below meth c T locs r X K hz hF hR hL => by
  obtain ⟨hd, rfl⟩ := hd
  have hc : (Cond.constant M.own idx z).before args s = true := mvT K.2.1 wd
  exact (h en p e s m args below meth c T locs r X K hz hF hR hL).pre (fun _ q => q) fun t k => X.ldcInt K.1 K.2.2.1 hc (g := mkF m pc r (S.map (rv (M.rho en)))) rfl (hb K.by hd) t k
theorem Wk.ldcw {idx : Nat} {z : Int32} {a0 : Array Value} (hd : InsA md pc (.ldc_w idx) 3 pc') (wd : (Cond.constant M.own idx z).before a0 Z = true) (h : Wk l Z M md pc' L (.int z :: S) w cu su Q) : Wk l Z M md pc L S w cu su Q :=
  fun en p e s m args below meth c T locs r X K hz hF hR hL => by
  obtain ⟨hd, rfl⟩ := hd
  have hc : (Cond.constant M.own idx z).before args s = true := mvT K.2.1 wd
  exact (h en p e s m args below meth c T locs r X K hz hF hR hL).pre (fun _ q => q) fun t k => X.ldcwInt K.1 K.2.2.1 hc (g := mkF m pc r (S.map (rv (M.rho en)))) rfl (hb K.by hd) t k
theorem Wk.ldc2 {idx : Nat} {z : Int64} {a0 : Array Value} (hd : InsA md pc (.ldc2_w idx) 3 pc') (wd : (Cond.constantLong M.own idx z).before a0 Z = true) (h : Wk l Z M md pc' L (.long z :: S) w cu su Q) : Wk l Z M md pc L S w cu su Q :=
  fun en p e s m args below meth c T locs r X K hz hF hR hL => by
  obtain ⟨hd, rfl⟩ := hd
  have hc : (Cond.constantLong M.own idx z).before args s = true := mvT K.2.1 wd
  exact (h en p e s m args below meth c T locs r X K hz hF hR hL).pre (fun _ q => q) fun t k => X.ldc2Long K.1 K.2.2.1 hc (g := mkF m pc r (S.map (rv (M.rho en)))) rfl (hb K.by hd) t k
/-! returns -/
theorem Wk.ireturn {x : Int32} (hM : ∀ en h, M.frm en h h) (hret : rtOf md = some .int) (hd : InsA md pc .ireturn 1 pc') (hc : cu = exOf md) (hc2 : exOf md ≤ (rmOf md).cells) (hs : su ≤ (rmOf md).slots) (hq : Q (some (.int x)) w) : Wk l Z M md pc L (.int x :: S) w cu su Q :=
  fun en p e s m args below meth c T locs r X K hz hF hR hL => by
  subst hc
  have hr := K.2.2.2.2.1.trans hret
  exact ⟨T, locs, su, _, w, X, hc2, hs, hz, hF, hR, hM _ _, fun q => (by rw [hr] at q; cases q), fun ρ y e => (by cases e; rfl), hq, fun fs hf => retI X K.1 hr (hb K.by hd.1) hf⟩
theorem Wk.zreturn {x y : Int32} (hM : ∀ en h, M.frm en h h) (hret : rtOf md = some .boolean) (hd : InsA md pc .ireturn 1 pc') (hc : cu = exOf md) (hc2 : exOf md ≤ (rmOf md).cells) (hs : su ≤ (rmOf md).slots) (hy : nar .boolean x = y) (hq : Q (some (.int y)) w) : Wk l Z M md pc L (.int x :: S) w cu su Q :=
  fun en p e s m args below meth c T locs r X K hz hF hR hL => by
  subst hc hy
  have hr := K.2.2.2.2.1.trans hret
  exact ⟨T, locs, su, _, w, X, hc2, hs, hz, hF, hR, hM _ _, fun q => (by rw [hr] at q; cases q), fun ρ y e => (by cases e; rfl), hq, fun fs hf => retN X K.1 (t := .boolean) hr (by simp) (hb K.by hd.1) hf⟩
theorem Wk.lreturn {x : Int64} (hM : ∀ en h, M.frm en h h) (hret : rtOf md = some .long) (hd : InsA md pc .lreturn 1 pc') (hc : cu = exOf md) (hc2 : exOf md ≤ (rmOf md).cells) (hs : su ≤ (rmOf md).slots) (hq : Q (some (.long x)) w) : Wk l Z M md pc L [.long x] w cu su Q :=
  fun en p e s m args below meth c T locs r X K hz hF hR hL => by
  subst hc
  have hr := K.2.2.2.2.1.trans hret
  exact ⟨T, locs, su, _, w, X, hc2, hs, hz, hF, hR, hM _ _, fun q => (by rw [hr] at q; cases q), fun ρ y e => (by cases e; rfl), hq, fun fs hf => X.lreturnOut K.1 hr (hb K.by hd.1) hf⟩
theorem Wk.ret (hM : ∀ en h, M.frm en h h) (hret : rtOf md = none) (hd : InsA md pc .return_ 1 pc') (hc : cu = exOf md) (hc2 : exOf md ≤ (rmOf md).cells) (hs : su ≤ (rmOf md).slots) (hq : Q none w) : Wk l Z M md pc L [] w cu su Q :=
  fun en p e s m args below meth c T locs r X K hz hF hR hL => by
  subst hc
  have hr := K.2.2.2.2.1.trans hret
  exact ⟨T, locs, su, none, w, X, hc2, hs, hz, hF, hR, hM _ _, fun _ => rfl, fun ρ y e => (by cases e), hq, fun fs hf => X.returnOut K.1 hr (hb K.by hd.1) hf⟩
/-! a walk from the entry is a contract -/
theorem Wk.met (h : Wk l Z M md 0 L [] w 0 0 Q) (hp : plainName (nmOf md).cls = true) (ho : M.own = (nmOf md).cls) {en : E} {h0 : Heap} (hR : M.rel en w h0) (as : List Value) (hL : (argsToLocals as.toArray (mxOf md)).toList = L) (hw : wfL L = true) (ws : List Jvm.Cond) :
    MetFree l (nmOf md) (head1 (Jvm.Cond.code (nmOf md) (byOf md) (mxOf md) (rtOf md) :: ws) (rmOf md)) (fun a U => a = (as.map (rv (M.rho en))).toArray ∧ Z.Warmed39 U.vm ∧ U.heap = h0) (fun _ _ _ _ _ => True)
      (fun _ U o U' => ∃ v Lc, o = .returned v ∧ (∃ w', Q v w' ∧ M.rel en w' U'.heap ∧ M.frm en h0 U'.heap ∧ Fr (M.lo en) Lc ∧ U'.heap.size = h0.size + exOf md ∧ ∀ ρ x, v = some x → rv ρ x = x) ∧ FrameEnd U o U' Lc (rmOf md).cells (rmOf md).slots) := by
  refine MetFree.of_bodySF (plainFor_of_name hp) hisR ?_
  intro p e s m args below meth c s₁ Bd hml0 hP hK
  obtain ⟨rfl, hZ, hh⟩ := hP
  have hown : s.vm.findClass (nmOf md).cls = some m.cls := findClass_of_methodNamed Bd.named
  have hnm := (name_of_methodNamed Bd.named Bd.method).1
  have X0 : Stand p l e (rmOf md) s m (as.map (rv (M.rho en))).toArray below meth c s₁ [] 0 0 := Stand.of_body Bd
  have e0 : s₁.heap = s.heap := by rw [Bd.state]; rfl
  subst hh
  obtain ⟨T', locs', su', v, w', a1, a2, a3, a4, a5, a6, a7, a8, a9, a10, a11⟩ := h en p e s m _ below meth c s₁ [] _ X0 ⟨Bd.exec, hZ, by rw [ho]; exact hown, hnm, Bd.returns, BodyLoose.notSynchronized Bd, Bd.bytes, hml0⟩ (by rw [e0]; rfl) (Fr.nil _) (by rw [e0]; exact hR) (SR.entry (M.rho en) as (mxOf md) hL hw)
  obtain ⟨fs, hr, hrun, hended, hW, hsame⟩ := a1.leave (v := v) a8 (BodyLoose.notSynchronized Bd)
  rw [e0] at a7
  exact ⟨_, _, a11 fs hr, hrun, hended, v, locs', rfl, ⟨w', a10, a6, a7, a5, a4, a9⟩, ⟨_, rfl⟩, hW, hsame.mono a2 a3⟩
end Steps
end Jvm.Own

namespace Jvm.Own
open Jvm Jvm.ClassFile Sem Op Lib Jvm.Free Jvm.Stand Jvm.LawKit Jvm.RoadKit
/-! ## 3. One object of the project's class, with its arrays behind it -/
/-- how many arrays are made; the ints; the longs; the arrays of ints (and booleans); of longs -/
abbrev WO : Type := Nat × (Nat → Int32) × (Nat → Int64) × (Nat → Int32 → Int32) × (Nat → Int32 → Int64)
/-- the class; its fields of ints and booleans (number, name, descriptor); of longs; of arrays, in the order in which they are made -/
abbrev CD : Type := String × List (Nat × String × String) × List (Nat × String) × List (Nat × String × String × FieldType × Int32)
def ups {κ α : Type} [DecidableEq κ] (f : κ → α) (i : κ) (x : α) : κ → α := fun k => if k = i then x else f k
theorem ups_at {κ α : Type} [DecidableEq κ] (f : κ → α) (i : κ) (x : α) : ups f i x i = x := by simp [ups]
theorem ups_ne {κ α : Type} [DecidableEq κ] (f : κ → α) {i k : κ} (x : α) (h : k ≠ i) : ups f i x k = f k := by simp [ups, h]
def el : FieldType → Int32 → Int64 → Value
  | .long, _, j => .long j
  | _, i, _ => .int i
theorem el_int {ty : FieldType} (h : ty ≠ .long) (i : Int32) (j : Int64) : el ty i j = .int i := by cases ty <;> first | rfl | exact absurd rfl h
def AtA (Z : State) (h : Heap) (b : Addr) (ty : FieldType) (n : Int32) (f : Int32 → Int32) (g : Int32 → Int64) : Prop :=
  ∃ cl, Arr Z h b cl ty ∧ cl.slots.size = n.toNatClampNeg ∧ ∀ x : Int32, ¬ x < 0 → x < n → cl.slots[x.toNatClampNeg]? = some (el ty (f x) (g x))
def relC (Z : State) (cd : CD) (en : Nat × Nat) (w : WO) (h : Heap) : Prop :=
  en.2 ≤ en.1 ∧ Exa Z h en.1 cd.1 ∧ (∀ t ∈ cd.2.1, Fld Z h en.1 cd.1 t.2.1 t.2.2 (.int (w.2.1 t.1))) ∧ (∀ t ∈ cd.2.2.1, Fld Z h en.1 cd.1 t.2 "J" (.long (w.2.2.1 t.1))) ∧
  (∀ t ∈ cd.2.2.2, (t.1 < w.1 → Fld Z h en.1 cd.1 t.2.1 t.2.2.1 (.ref (en.1 + (t.1 + 1))) ∧ AtA Z h (en.1 + (t.1 + 1)) t.2.2.2.1 t.2.2.2.2 (w.2.2.2.1 t.1) (w.2.2.2.2 t.1)) ∧ (¬ t.1 < w.1 → Fld Z h en.1 cd.1 t.2.1 t.2.2.1 .null)) ∧
  (w.1 < cd.2.2.2.length → h.size = en.1 + 1 + w.1)
def frmC (cd : CD) (en : Nat × Nat) (h h' : Heap) : Prop := h.size ≤ h'.size ∧ ∀ (x : Nat) (c : Cell), h[x]? = some c → (x < en.1 ∨ en.1 + cd.2.2.2.length < x) → h'[x]? = some c
abbrev MoC (Z : State) (cd : CD) : Mode WO (Nat × Nat) := (cd.1, fun en k => en.1 + k, fun en => en.2, relC Z cd, frmC cd)
theorem nn {a b : Nat} (h : a ≠ b) : @Ne Addr a b := h
theorem frmC.refl (cd : CD) (en : Nat × Nat) (h : Heap) : frmC cd en h h := ⟨Nat.le_refl _, fun _ _ q _ => q⟩
theorem frmC.trans {cd : CD} {en : Nat × Nat} {h1 h2 h3 : Heap} (a : frmC cd en h1 h2) (b : frmC cd en h2 h3) : frmC cd en h1 h3 := ⟨Nat.le_trans a.1 b.1, fun x c q r => b.2 x c (a.2 x c q r) r⟩
theorem frmC.wr {cd : CD} {en : Nat × Nat} {h h' : Heap} {b : Nat} {sl : Nat} {v : Value} (W : Wr h h' b sl v) (h1 : en.1 ≤ b) (h2 : b ≤ en.1 + cd.2.2.2.length) : frmC cd en h h' := by
  refine ⟨Nat.le_of_eq W.size.symm, fun x c q r => ?_⟩
  obtain ⟨c', e1, -, -, -, e5, -⟩ := wr_at W q
  rw [← e5 (nn (by omega))]; exact e1
theorem frmC.ext {cd : CD} {en : Nat × Nat} {h h' : Heap} (E : Ext h h') : frmC cd en h h' := ⟨E.1, fun x c q _ => E.2 x c q⟩
def okC (cd : CD) : Prop :=
  (∀ t ∈ cd.2.1, ∀ t' ∈ cd.2.1, (t.1 = t'.1 → t = t') ∧ (t.1 ≠ t'.1 → t.2.1 ≠ t'.2.1)) ∧ (∀ t ∈ cd.2.2.1, ∀ t' ∈ cd.2.2.1, (t.1 = t'.1 → t = t') ∧ (t.1 ≠ t'.1 → t.2 ≠ t'.2)) ∧ (∀ t ∈ cd.2.2.2, ∀ t' ∈ cd.2.2.2, (t.1 = t'.1 → t = t') ∧ (t.1 ≠ t'.1 → t.2.1 ≠ t'.2.1)) ∧
  (∀ t ∈ cd.2.1, ∀ t' ∈ cd.2.2.1, t.2.1 ≠ t'.2) ∧ (∀ t ∈ cd.2.1, ∀ t' ∈ cd.2.2.2, t.2.1 ≠ t'.2.1) ∧ (∀ t ∈ cd.2.2.1, ∀ t' ∈ cd.2.2.2, t.2 ≠ t'.2.1) ∧
  (∀ t ∈ cd.2.1, parseFieldDescriptor t.2.2 = some .int ∨ parseFieldDescriptor t.2.2 = some .boolean) ∧
  (∀ t ∈ cd.2.2.2, parseFieldDescriptor t.2.2.1 = some (.array t.2.2.2.1) ∧ t.1 < cd.2.2.2.length ∧ (t.2.2.2.1 = .int ∨ t.2.2.2.1 = .boolean ∨ t.2.2.2.1 = .long) ∧ ¬ t.2.2.2.2 < 0)
/-- what the words say of the class -/
def CO (Z : State) (a0 : Array Value) (cd : CD) : Prop :=
  (∃ kk, (Cond.instantiable cd.1 kk).before a0 Z = true) ∧ (∀ t ∈ cd.2.1, Laid Z a0 cd.1 cd.1 t.2.1 t.2.2) ∧ (∀ t ∈ cd.2.2.1, Laid Z a0 cd.1 cd.1 t.2 "J") ∧ (∀ t ∈ cd.2.2.2, Laid Z a0 cd.1 cd.1 t.2.1 t.2.2.1) ∧ okC cd
theorem pJ : parseFieldDescriptor "J" = some .long := by decide +kernel
theorem snJ {Z : State} {a0 : Array Value} {C n n' d' : String} {t' : FieldType} (L : Laid Z a0 C C n "J") (L' : Laid Z a0 C C n' d') (hn : n ≠ n') (ht' : parseFieldDescriptor d' = some t') : Jvm.RoadKit.slotOf Z C n "J" ≠ Jvm.RoadKit.slotOf Z C n' d' := by
  have p := pJ
  generalize "J" = q at *
  exact slot_ne L L' hn p ht'
section Rel
variable {Z : State} {a0 : Array Value} {cd : CD} {en : Nat × Nat} {h h' : Heap} {k : Nat} {F : Nat → Int32} {G : Nat → Int64} {A : Nat → Int32 → Int32} {B : Nat → Int32 → Int64}
theorem pI (ok : CO Z a0 cd) {t : Nat × String × String} (ht : t ∈ cd.2.1) : ∃ ty, parseFieldDescriptor t.2.2 = some ty := by
  rcases ok.2.2.2.2.2.2.2.2.2.2.1 t ht with q | q <;> exact ⟨_, q⟩
theorem AtA.other {b b' : Addr} {ty : FieldType} {n : Int32} {f : Int32 → Int32} {g : Int32 → Int64} {sl : Nat} {v : Value} (W : Wr h h' b sl v) (H : AtA Z h b' ty n f g) (hne : b' ≠ b) : AtA Z h' b' ty n f g := by
  obtain ⟨cl, h1, h2, h3⟩ := H
  exact ⟨cl, h1.other W hne, h2, h3⟩
theorem AtA.ext {b' : Addr} {ty : FieldType} {n : Int32} {f : Int32 → Int32} {g : Int32 → Int64} (E : Ext h h') (H : AtA Z h b' ty n f g) : AtA Z h' b' ty n f g := by
  obtain ⟨cl, h1, h2, h3⟩ := H
  exact ⟨cl, h1.ext E, h2, h3⟩
theorem clamp_lt {x n : Int32} (h0 : ¬ x < 0) (h1 : x < n) : x.toNatClampNeg < n.toNatClampNeg := by
  simp only [Int32.lt_iff_toInt_lt, Int32.reduceToInt, Int32.toNatClampNeg] at *
  omega
theorem in_of {x n : Int32} {cl : Cell} (h2 : cl.slots.size = n.toNatClampNeg) (h0 : ¬ x < 0) (h1 : x < n) : ¬ (x < 0 ∨ cl.slots.size ≤ x.toNatClampNeg) := by
  have := clamp_lt h0 h1
  rintro (q | q)
  · exact h0 q
  · omega
theorem AtA.stI {b : Addr} {ty : FieldType} {n : Int32} {f : Int32 → Int32} {g : Int32 → Int64} {j x : Int32} (hty : ty ≠ .long) (h0 : ¬ j < 0) (h1 : j < n) (W : Wr h h' b j.toNatClampNeg (.int x)) (H : AtA Z h b ty n f g) : AtA Z h' b ty n (ups f j x) g := by
  obtain ⟨cl, g1, g2, g3⟩ := H
  refine ⟨_, g1.same W, by rw [sz_set]; exact g2, fun y y0 y1 => ?_⟩
  by_cases e : y = j
  · rw [get_hit (in_of g2 h0 h1) e, e, ups_at, el_int hty]
  · rw [get_miss h0 y0 e, ups_ne _ _ e]; exact g3 y y0 y1
theorem AtA.stJ {b : Addr} {n : Int32} {f : Int32 → Int32} {g : Int32 → Int64} {j : Int32} {x : Int64} (h0 : ¬ j < 0) (h1 : j < n) (W : Wr h h' b j.toNatClampNeg (.long x)) (H : AtA Z h b .long n f g) : AtA Z h' b .long n f (ups g j x) := by
  obtain ⟨cl, g1, g2, g3⟩ := H
  refine ⟨_, g1.same W, by rw [sz_set]; exact g2, fun y y0 y1 => ?_⟩
  by_cases e : y = j
  · rw [get_hit (in_of g2 h0 h1) e, e, ups_at]; rfl
  · rw [get_miss h0 y0 e, ups_ne _ _ e]; exact g3 y y0 y1
theorem relC.putI (ok : CO Z a0 cd) {i : Nat} {n d : String} {x : Int32} (hR : relC Z cd en (k, F, G, A, B) h) (ht : (i, n, d) ∈ cd.2.1) (W : Wr h h' en.1 (Jvm.RoadKit.slotOf Z cd.1 n d) (.int x)) : relC Z cd en (k, ups F i x, G, A, B) h' := by
  obtain ⟨r1, r2, r3, r4, r5, r6⟩ := hR
  obtain ⟨-, o2, o3, o4, q1, q2, q3, q4, q5, q6, q7, q8⟩ := ok
  obtain ⟨ty0, p0⟩ : ∃ ty, parseFieldDescriptor d = some ty := by rcases q7 _ ht with q | q <;> exact ⟨_, q⟩
  refine ⟨r1, r2.wr W, fun t m => ?_, fun t m => ?_, fun t m => ⟨fun hk => ?_, fun hk => ?_⟩, fun q => ?_⟩
  · obtain ⟨u1, u2⟩ := q1 _ m _ ht
    by_cases e : t.1 = i
    · have e2 := u1 e
      subst e2
      show Fld Z h' en.1 cd.1 n d (.int (ups F i x i))
      rw [ups_at]
      exact (r3 _ ht).same W
    · show Fld Z h' en.1 cd.1 _ _ (.int (ups F i x t.1))
      rw [ups_ne _ _ e]
      obtain ⟨ty1, p1⟩ : ∃ ty, parseFieldDescriptor t.2.2 = some ty := by rcases q7 _ m with q | q <;> exact ⟨_, q⟩
      have z0 := slot_ne (o2 _ m) (o2 _ ht) (u2 e) p1 p0
      exact (r3 t m).other W (Or.inr z0)
  · have e1 := o3 _ m
    have e2 := o2 _ ht
    have e3 := q4 _ ht _ m
    have e4 := snJ e1 e2 (Ne.symm e3) p0
    have e5 := r4 t m
    exact e5.other W (Or.inr e4)
  · obtain ⟨a1, a2⟩ := (r5 t m).1 hk
    have z0 := slot_ne (o4 _ m) (o2 _ ht) (Ne.symm (q5 _ ht _ m)) (q8 _ m).1 p0
    exact ⟨a1.other W (Or.inr z0), a2.other W (nn (by omega))⟩
  · have z0 := slot_ne (o4 _ m) (o2 _ ht) (Ne.symm (q5 _ ht _ m)) (q8 _ m).1 p0
    exact ((r5 t m).2 hk).other W (Or.inr z0)
  · rw [W.size]; exact r6 q
theorem relC.putJ (ok : CO Z a0 cd) {i : Nat} {n : String} {x : Int64} (hR : relC Z cd en (k, F, G, A, B) h) (ht : (i, n) ∈ cd.2.2.1) (W : Wr h h' en.1 (Jvm.RoadKit.slotOf Z cd.1 n "J") (.long x)) : relC Z cd en (k, F, ups G i x, A, B) h' := by
  obtain ⟨r1, r2, r3, r4, r5, r6⟩ := hR
  obtain ⟨-, o2, o3, o4, q1, q2, q3, q4, q5, q6, q7, q8⟩ := ok
  refine ⟨r1, r2.wr W, fun t m => ?_, fun t m => ?_, fun t m => ⟨fun hk => ?_, fun hk => ?_⟩, fun q => ?_⟩
  · obtain ⟨ty1, p1⟩ : ∃ ty, parseFieldDescriptor t.2.2 = some ty := by rcases q7 _ m with q | q <;> exact ⟨_, q⟩
    have z0 := Ne.symm (snJ (o3 _ ht) (o2 _ m) (Ne.symm (q4 _ m _ ht)) p1)
    exact (r3 t m).other W (Or.inr z0)
  · obtain ⟨u1, u2⟩ := q2 _ m _ ht
    by_cases e : t.1 = i
    · have e2 := u1 e
      subst e2
      show Fld Z h' en.1 cd.1 n "J" (.long (ups G i x i))
      rw [ups_at]
      exact (r4 _ ht).same W
    · show Fld Z h' en.1 cd.1 _ _ (.long (ups G i x t.1))
      rw [ups_ne _ _ e]
      have z0 := snJ (o3 _ m) (o3 _ ht) (u2 e) pJ
      exact (r4 t m).other W (Or.inr z0)
  · obtain ⟨a1, a2⟩ := (r5 t m).1 hk
    have z0 := Ne.symm (snJ (o3 _ ht) (o4 _ m) (q6 _ ht _ m) (q8 _ m).1)
    exact ⟨a1.other W (Or.inr z0), a2.other W (nn (by omega))⟩
  · have z0 := Ne.symm (snJ (o3 _ ht) (o4 _ m) (q6 _ ht _ m) (q8 _ m).1)
    exact ((r5 t m).2 hk).other W (Or.inr z0)
  · rw [W.size]; exact r6 q
theorem relC.stI (ok : CO Z a0 cd) {i : Nat} {n d : String} {ty : FieldType} {len j x : Int32} (hty : ty ≠ .long) (h0 : ¬ j < 0) (h1 : j < len) (hR : relC Z cd en (k, F, G, A, B) h) (ht : (i, n, d, ty, len) ∈ cd.2.2.2) (W : Wr h h' (en.1 + (i + 1)) j.toNatClampNeg (.int x)) : relC Z cd en (k, F, G, ups A i (ups (A i) j x), B) h' := by
  obtain ⟨r1, r2, r3, r4, r5, r6⟩ := hR
  obtain ⟨-, o2, o3, o4, q1, q2, q3, q4, q5, q6, q7, q8⟩ := ok
  refine ⟨r1, r2.wr W, fun t m => (r3 t m).other W (Or.inl (nn (by omega))), fun t m => (r4 t m).other W (Or.inl (nn (by omega))), fun t m => ⟨fun hk => ?_, fun hk => ((r5 t m).2 hk).other W (Or.inl (nn (by omega)))⟩, fun q => by rw [W.size]; exact r6 q⟩
  obtain ⟨a1, a2⟩ := (r5 t m).1 hk
  refine ⟨a1.other W (Or.inl (nn (by omega))), ?_⟩
  obtain ⟨u1, u2⟩ := q3 _ m _ ht
  show AtA Z h' _ _ _ (ups A i (ups (A i) j x) t.1) (B t.1)
  by_cases e : t.1 = i
  · have e2 := u1 e
    subst e2
    rw [ups_at]
    exact a2.stI hty h0 h1 W
  · rw [ups_ne _ _ e]
    exact a2.other W (nn (by omega))
theorem relC.stJ (ok : CO Z a0 cd) {i : Nat} {n d : String} {len j : Int32} {x : Int64} (h0 : ¬ j < 0) (h1 : j < len) (hR : relC Z cd en (k, F, G, A, B) h) (ht : (i, n, d, .long, len) ∈ cd.2.2.2) (W : Wr h h' (en.1 + (i + 1)) j.toNatClampNeg (.long x)) : relC Z cd en (k, F, G, A, ups B i (ups (B i) j x)) h' := by
  obtain ⟨r1, r2, r3, r4, r5, r6⟩ := hR
  obtain ⟨-, o2, o3, o4, q1, q2, q3, q4, q5, q6, q7, q8⟩ := ok
  refine ⟨r1, r2.wr W, fun t m => (r3 t m).other W (Or.inl (nn (by omega))), fun t m => (r4 t m).other W (Or.inl (nn (by omega))), fun t m => ⟨fun hk => ?_, fun hk => ((r5 t m).2 hk).other W (Or.inl (nn (by omega)))⟩, fun q => by rw [W.size]; exact r6 q⟩
  obtain ⟨a1, a2⟩ := (r5 t m).1 hk
  refine ⟨a1.other W (Or.inl (nn (by omega))), ?_⟩
  obtain ⟨u1, u2⟩ := q3 _ m _ ht
  show AtA Z h' _ _ _ (A t.1) (ups B i (ups (B i) j x) t.1)
  by_cases e : t.1 = i
  · have e2 := u1 e
    subst e2
    rw [ups_at]
    exact a2.stJ h0 h1 W
  · rw [ups_ne _ _ e]
    exact a2.other W (nn (by omega))
theorem relC.newA (ok : CO Z a0 cd) {h1 : Heap} {n d : String} {ty : FieldType} {len : Int32} {cA : ClassId} (hR : relC Z cd en (k, F, G, A, B) h) (ht : (k, n, d, ty, len) ∈ cd.2.2.2) (hA : A k = fun _ => 0) (hB : B k = fun _ => 0) (E : Ext h h1) (N : Arr Z h1 h.size (Jvm.RoadKit.newA cA ty len) ty) (W : Wr h1 h' en.1 (Jvm.RoadKit.slotOf Z cd.1 n d) (.ref h.size)) (hz : h'.size = h.size + 1) : relC Z cd en (k + 1, F, G, A, B) h' := by
  obtain ⟨r1, r2, r3, r4, r5, r6⟩ := hR
  obtain ⟨-, o2, o3, o4, q1, q2, q3, q4, q5, q6, q7, q8⟩ := ok
  have hsz : h.size = en.1 + 1 + k := r6 (q8 _ ht).2.1
  refine ⟨r1, (r2.ext E).wr W, fun t m => ?_, fun t m => ?_, fun t m => ⟨fun hk => ?_, fun hk => ?_⟩, fun q => ?_⟩
  · obtain ⟨ty1, p1⟩ : ∃ ty, parseFieldDescriptor t.2.2 = some ty := by rcases q7 _ m with q | q <;> exact ⟨_, q⟩
    have z0 := slot_ne (o2 _ m) (o4 _ ht) (q5 _ m _ ht) p1 (q8 _ ht).1
    exact ((r3 t m).ext E).other W (Or.inr z0)
  · have z0 := snJ (o3 _ m) (o4 _ ht) (q6 _ m _ ht) (q8 _ ht).1
    exact ((r4 t m).ext E).other W (Or.inr z0)
  · obtain ⟨u1, u2⟩ := q3 _ m _ ht
    by_cases e : t.1 = k
    · have e2 := u1 e
      subst e2
      have f0 := ((r5 _ ht).2 (Nat.lt_irrefl k)).ext E
      refine ⟨?_, ?_⟩
      · have := f0.same W
        rw [hsz] at this
        show Fld Z h' en.1 cd.1 n d (.ref (en.1 + (k + 1)))
        rw [show en.1 + (k + 1) = en.1 + 1 + k by omega]
        exact this
      · show AtA Z h' (en.1 + (k + 1)) ty len (A k) (B k)
        rw [hA, hB, show en.1 + (k + 1) = h.size by omega]
        refine AtA.other W ⟨_, N, sz_new _ _ _, fun x x0 x1 => ?_⟩ (nn (by omega))
        rw [get_new (in_of (cl := Jvm.RoadKit.newA cA ty len) (sz_new _ _ _) x0 x1 |> fun q => by rwa [sz_new] at q)]
        have o := (q8 _ ht).2.2.1
        rcases o with o | o | o <;> (have o' : ty = _ := o; subst o'; rfl)
    · obtain ⟨a1, a2⟩ := (r5 t m).1 (by show t.1 < k; have : t.1 < k + 1 := hk; omega)
      have z0 := slot_ne (o4 _ m) (o4 _ ht) (u2 e) (q8 _ m).1 (q8 _ ht).1
      exact ⟨(a1.ext E).other W (Or.inr z0), (a2.ext E).other W (nn (by omega))⟩
  · obtain ⟨u1, u2⟩ := q3 _ m _ ht
    have hk' : ¬ t.1 < k + 1 := hk
    have z0 := slot_ne (o4 _ m) (o4 _ ht) (u2 (by show t.1 ≠ k; omega)) (q8 _ m).1 (q8 _ ht).1
    exact (((r5 t m).2 (by show ¬ t.1 < k; omega)).ext E).other W (Or.inr z0)
  · show h'.size = en.1 + 1 + (k + 1)
    omega
end Rel
section StepsC
variable {l : Launch} {Z : State} {a0 : Array Value} {cd : CD} {md : MD} {pc pc' pc1 : Nat} {L L' : List Slot} {S : List Value} {k : Nat} {F : Nat → Int32} {G : Nat → Int64} {A : Nat → Int32 → Int32} {B : Nat → Int32 → Int64} {cu su cu' su' : Nat} {Q : Option Value → WO → Prop} {idx : Nat}
theorem Wk.getI {i : Nat} {n d : String} {x : Int32} (ht : (i, n, d) ∈ cd.2.1) (wl : (Cond.fieldLink cd.1 idx cd.1 n d).before a0 Z = true) (hd : InsA md pc (.getfield idx) 3 pc') (hx : F i = x) (h : Wk l Z (MoC Z cd) md pc' L (.int x :: S) (k, F, G, A, B) cu su Q) : Wk l Z (MoC Z cd) md pc L (.ref 0 :: S) (k, F, G, A, B) cu su Q :=
  fun en p e s m args below meth c T locs r X K hz hF hR hL => by
  obtain ⟨hd, rfl⟩ := hd
  subst hx
  obtain ⟨T1, X1, e1, st⟩ := getF X K.1 K.2.1 K.2.2.1 (host := "") (Or.inl wl) Via.refl rfl (hR.2.2.1 _ ht) (g := mkF m pc r (.ref en.1 :: S.map (rv ((MoC Z cd).rho en)))) rfl rfl (hb K.by hd)
  refine (h en p e s m args below meth c T1 locs r X1 K (by rw [e1]; exact hz) hF (by rw [e1]; exact hR) hL).pre (fun _ q => by rw [e1] at q; exact q) fun t q => st t q
theorem Wk.getJ {i : Nat} {n : String} {x : Int64} (ht : (i, n) ∈ cd.2.2.1) (wl : (Cond.fieldLink cd.1 idx cd.1 n "J").before a0 Z = true) (hd : InsA md pc (.getfield idx) 3 pc') (hx : G i = x) (h : Wk l Z (MoC Z cd) md pc' L (.long x :: S) (k, F, G, A, B) cu su Q) : Wk l Z (MoC Z cd) md pc L (.ref 0 :: S) (k, F, G, A, B) cu su Q :=
  fun en p e s m args below meth c T locs r X K hz hF hR hL => by
  obtain ⟨hd, rfl⟩ := hd
  subst hx
  obtain ⟨T1, X1, e1, st⟩ := getF X K.1 K.2.1 K.2.2.1 (host := "") (Or.inl wl) Via.refl rfl (hR.2.2.2.1 _ ht) (g := mkF m pc r (.ref en.1 :: S.map (rv ((MoC Z cd).rho en)))) rfl rfl (hb K.by hd)
  refine (h en p e s m args below meth c T1 locs r X1 K (by rw [e1]; exact hz) hF (by rw [e1]; exact hR) hL).pre (fun _ q => by rw [e1] at q; exact q) fun t q => st t q
theorem Wk.getA {i i' : Nat} {n d : String} {ty : FieldType} {len : Int32} (ht : (i, n, d, ty, len) ∈ cd.2.2.2) (hi : i < k) (hi' : i + 1 = i') (wl : (Cond.fieldLink cd.1 idx cd.1 n d).before a0 Z = true) (hd : InsA md pc (.getfield idx) 3 pc') (h : Wk l Z (MoC Z cd) md pc' L (.ref i' :: S) (k, F, G, A, B) cu su Q) : Wk l Z (MoC Z cd) md pc L (.ref 0 :: S) (k, F, G, A, B) cu su Q :=
  fun en p e s m args below meth c T locs r X K hz hF hR hL => by
  obtain ⟨hd, rfl⟩ := hd
  subst hi'
  obtain ⟨T1, X1, e1, st⟩ := getF X K.1 K.2.1 K.2.2.1 (host := "") (Or.inl wl) Via.refl rfl ((hR.2.2.2.2.1 _ ht).1 hi).1 (g := mkF m pc r (.ref en.1 :: S.map (rv ((MoC Z cd).rho en)))) rfl rfl (hb K.by hd)
  refine (h en p e s m args below meth c T1 locs r X1 K (by rw [e1]; exact hz) hF (by rw [e1]; exact hR) hL).pre (fun _ q => by rw [e1] at q; exact q) fun t q => st t q
theorem Wk.putI (ok : CO Z a0 cd) {i : Nat} {n : String} {x : Int32} (ht : (i, n, "I") ∈ cd.2.1) (wl : (Cond.fieldLink cd.1 idx cd.1 n "I").before a0 Z = true) (wy : (Cond.lays cd.1 cd.1 n "I").before a0 Z = true ∨ ((Cond.laysFinal cd.1 cd.1 n "I").before a0 Z = true ∧ (nmOf md).name = "<init>")) (hd : InsA md pc (.putfield idx) 3 pc') (h : Wk l Z (MoC Z cd) md pc' L S (k, ups F i x, G, A, B) cu su Q) : Wk l Z (MoC Z cd) md pc L (.int x :: .ref 0 :: S) (k, F, G, A, B) cu su Q :=
  fun en p e s m args below meth c T locs r X K hz hF hR hL => by
  obtain ⟨hd, rfl⟩ := hd
  obtain ⟨kk, wi⟩ := ok.1
  obtain ⟨T1, h1, X1, e1, W1, st⟩ := putF X K.1 K.2.1 K.2.2.1 (host := "") (Or.inl wl) Via.refl rfl (hR.2.2.1 _ ht) hR.2.1 (wy.imp id fun q => ⟨q.1, rfl, K.2.2.2.1.trans q.2⟩) wi (ty := .int) (v := .int x) (by decide +kernel) rfl rfl (g := mkF m pc r (.int x :: .ref en.1 :: S.map (rv ((MoC Z cd).rho en)))) rfl rfl (hb K.by hd)
  subst e1
  exact (h en p e s m args below meth c T1 _ r X1 K (by rw [W1.size]; exact hz) (Fr.snoc X1 hF hR.1) (relC.putI ok hR ht W1) hL).pre (fun _ q => (frmC.wr W1 (Nat.le_refl _) (Nat.le_add_right _ _)).trans q) fun t q => st t q
theorem Wk.putZ (ok : CO Z a0 cd) {i : Nat} {n : String} {x y : Int32} (hy : nar .boolean x = y) (ht : (i, n, "Z") ∈ cd.2.1) (wl : (Cond.fieldLink cd.1 idx cd.1 n "Z").before a0 Z = true) (wy : (Cond.lays cd.1 cd.1 n "Z").before a0 Z = true ∨ ((Cond.laysFinal cd.1 cd.1 n "Z").before a0 Z = true ∧ (nmOf md).name = "<init>")) (hd : InsA md pc (.putfield idx) 3 pc') (h : Wk l Z (MoC Z cd) md pc' L S (k, ups F i y, G, A, B) cu su Q) : Wk l Z (MoC Z cd) md pc L (.int x :: .ref 0 :: S) (k, F, G, A, B) cu su Q :=
  fun en p e s m args below meth c T locs r X K hz hF hR hL => by
  obtain ⟨hd, rfl⟩ := hd
  subst hy
  obtain ⟨kk, wi⟩ := ok.1
  obtain ⟨T1, h1, X1, e1, W1, st⟩ := putFN X K.1 K.2.1 K.2.2.1 wl Via.refl rfl (hR.2.2.1 _ ht) hR.2.1 (wy.imp id fun q => ⟨q.1, rfl, K.2.2.2.1.trans q.2⟩) wi (ty := .boolean) (v := .int x) (v' := .int (nar .boolean x)) (by decide +kernel) rfl (fits_nar_bool x) (g := mkF m pc r (.int x :: .ref en.1 :: S.map (rv ((MoC Z cd).rho en)))) rfl rfl (hb K.by hd)
  subst e1
  exact (h en p e s m args below meth c T1 _ r X1 K (by rw [W1.size]; exact hz) (Fr.snoc X1 hF hR.1) (relC.putI ok hR ht W1) hL).pre (fun _ q => (frmC.wr W1 (Nat.le_refl _) (Nat.le_add_right _ _)).trans q) fun t q => st t q
theorem Wk.putJ (ok : CO Z a0 cd) {i : Nat} {n : String} {x : Int64} (ht : (i, n) ∈ cd.2.2.1) (wl : (Cond.fieldLink cd.1 idx cd.1 n "J").before a0 Z = true) (wy : (Cond.lays cd.1 cd.1 n "J").before a0 Z = true ∨ ((Cond.laysFinal cd.1 cd.1 n "J").before a0 Z = true ∧ (nmOf md).name = "<init>")) (hd : InsA md pc (.putfield idx) 3 pc') (h : Wk l Z (MoC Z cd) md pc' L S (k, F, ups G i x, A, B) cu su Q) : Wk l Z (MoC Z cd) md pc L (.long x :: .ref 0 :: S) (k, F, G, A, B) cu su Q :=
  fun en p e s m args below meth c T locs r X K hz hF hR hL => by
  obtain ⟨hd, rfl⟩ := hd
  obtain ⟨kk, wi⟩ := ok.1
  obtain ⟨T1, h1, X1, e1, W1, st⟩ := putF X K.1 K.2.1 K.2.2.1 (host := "") (Or.inl wl) Via.refl rfl (hR.2.2.2.1 _ ht) hR.2.1 (wy.imp id fun q => ⟨q.1, rfl, K.2.2.2.1.trans q.2⟩) wi (ty := .long) (v := .long x) (by decide +kernel) rfl rfl (g := mkF m pc r (.long x :: .ref en.1 :: S.map (rv ((MoC Z cd).rho en)))) rfl rfl (hb K.by hd)
  subst e1
  exact (h en p e s m args below meth c T1 _ r X1 K (by rw [W1.size]; exact hz) (Fr.snoc X1 hF hR.1) (relC.putJ ok hR ht W1) hL).pre (fun _ q => (frmC.wr W1 (Nat.le_refl _) (Nat.le_add_right _ _)).trans q) fun t q => st t q
/-- an array is made and laid into its field at once -/
theorem Wk.newA (ok : CO Z a0 cd) {aty : ArrayType} {len : Int32} {n d : String} {ty : FieldType} {k' : Nat} (hty : newarray.typeOf aty = ty) (wa : (Cond.arrayClass (newarray.typeOf aty)).before a0 Z = true) (ht : (k, n, d, ty, len) ∈ cd.2.2.2) (wl : (Cond.fieldLink cd.1 idx cd.1 n d).before a0 Z = true)
    (wy : (Cond.lays cd.1 cd.1 n d).before a0 Z = true ∨ ((Cond.laysFinal cd.1 cd.1 n d).before a0 Z = true ∧ (nmOf md).name = "<init>")) (hd : InsA md pc (.newarray aty) 2 pc1) (hd2 : InsA md pc1 (.putfield idx) 3 pc') (hA : A k = fun _ => 0) (hB : B k = fun _ => 0) (hk : k + 1 = k') (hcu : cu + 1 = cu') (hsu : su + len.toNatClampNeg = su')
    (hcap : len.toNatClampNeg * 8 ≤ 536870912) (hc : cu' ≤ (rmOf md).cells) (hs : su' ≤ (rmOf md).slots) (h : Wk l Z (MoC Z cd) md pc' L S (k', F, G, A, B) cu' su' Q) : Wk l Z (MoC Z cd) md pc L (.int len :: .ref 0 :: S) (k, F, G, A, B) cu su Q :=
  fun en p e s m args below meth c T locs r X K hz hF hR hL => by
  obtain ⟨hd, rfl⟩ := hd
  obtain ⟨hd2, rfl⟩ := hd2
  subst hk hcu hsu hty
  obtain ⟨kk, wi⟩ := ok.1
  have p8 := ok.2.2.2.2.2.2.2.2.2.2.2 _ ht
  obtain ⟨T1, h1, cA, X1, e1, E1, N1, st1⟩ := newP X K.1 K.2.1 wa rfl (g := mkF m pc r (.int len :: .ref en.1 :: S.map (rv ((MoC Z cd).rho en)))) rfl (hb K.by hd) rfl p8.2.2.2 (cap := len.toNatClampNeg) (Nat.le_refl _) hcap hc hs
  subst e1
  obtain ⟨T2, h2, X2, e2, W2, st2⟩ := putF X1 K.1 K.2.1 K.2.2.1 (host := "") (Or.inl wl) Via.refl rfl (((hR.2.2.2.2.1 _ ht).2 (Nat.lt_irrefl k)).ext E1) (hR.2.1.ext E1) (wy.imp id fun q => ⟨q.1, rfl, K.2.2.2.1.trans q.2⟩) wi (v := .ref T.heap.size) p8.1 rfl rfl (g := mkF m (pc + 2) r (.ref T.heap.size :: .ref en.1 :: S.map (rv ((MoC Z cd).rho en)))) rfl rfl (hb K.by hd2)
  subst e2
  have z1 := X1.heapSize
  have z2 : (T.heap.size : Nat) < T1.heap.size := N1.lt
  have z3 := W2.size
  exact (h en p e s m args below meth c T2 _ r X2 K (by omega) (Fr.snoc X2 hF hR.1) (relC.newA ok hR ht hA hB E1 N1 W2 (by omega)) hL).pre (fun _ q => ((frmC.ext E1).trans (frmC.wr W2 (Nat.le_refl _) (Nat.le_add_right _ _))).trans q) fun t q => st1 t (st2 t q)
theorem relC.arr {en : Nat × Nat} {h : Heap} {i : Nat} {n d : String} {ty : FieldType} {len : Int32} (hR : relC Z cd en (k, F, G, A, B) h) (ht : (i, n, d, ty, len) ∈ cd.2.2.2) (hi : i < k) : AtA Z h (en.1 + (i + 1)) ty len (A i) (B i) := ((hR.2.2.2.2.1 _ ht).1 hi).2
theorem Wk.iaload {i i' : Nat} {n d : String} {len x : Int32} {y : Int32} (ht : (i, n, d, .int, len) ∈ cd.2.2.2) (hi : i < k) (hi' : i + 1 = i') (h0 : ¬ x < 0) (h1 : x < len) (hd : InsA md pc .iaload 1 pc') (hy : A i x = y) (h : Wk l Z (MoC Z cd) md pc' L (.int y :: S) (k, F, G, A, B) cu su Q) : Wk l Z (MoC Z cd) md pc L (.int x :: .ref i' :: S) (k, F, G, A, B) cu su Q :=
  fun en p e s m args below meth c T locs r X K hz hF hR hL => by
  obtain ⟨hd, rfl⟩ := hd
  subst hi' hy
  obtain ⟨cl, g1, g2, g3⟩ := relC.arr hR ht hi
  exact (h en p e s m args below meth c T locs r X K hz hF hR hL).pre (fun _ q => q) fun t q => X.iaload K.1 (j := x) (v := .int (A i x)) g1.1 (State.isArrayOf_alike K.2.1.alike g1.2.1) g1.2.2 (in_of g2 h0 h1) (g3 x h0 h1) (g := mkF m pc r (.int x :: .ref (en.1 + (i + 1)) :: S.map (rv ((MoC Z cd).rho en)))) rfl rfl (hb K.by hd) _ q
theorem Wk.baload {i i' : Nat} {n d : String} {len x : Int32} {y : Int32} (ht : (i, n, d, .boolean, len) ∈ cd.2.2.2) (hi : i < k) (hi' : i + 1 = i') (h0 : ¬ x < 0) (h1 : x < len) (hd : InsA md pc .baload 1 pc') (hy : A i x = y) (h : Wk l Z (MoC Z cd) md pc' L (.int y :: S) (k, F, G, A, B) cu su Q) : Wk l Z (MoC Z cd) md pc L (.int x :: .ref i' :: S) (k, F, G, A, B) cu su Q :=
  fun en p e s m args below meth c T locs r X K hz hF hR hL => by
  obtain ⟨hd, rfl⟩ := hd
  subst hi' hy
  obtain ⟨cl, g1, g2, g3⟩ := relC.arr hR ht hi
  exact (h en p e s m args below meth c T locs r X K hz hF hR hL).pre (fun _ q => q) fun t q => X.baloadBooleans K.1 (j := x) (v := .int (A i x)) g1.1 (State.isArrayOf_alike K.2.1.alike g1.2.1) g1.2.2 (in_of g2 h0 h1) (g3 x h0 h1) (g := mkF m pc r (.int x :: .ref (en.1 + (i + 1)) :: S.map (rv ((MoC Z cd).rho en)))) rfl rfl (hb K.by hd) _ q
theorem Wk.laload {i i' : Nat} {n d : String} {len x : Int32} {y : Int64} (ht : (i, n, d, .long, len) ∈ cd.2.2.2) (hi : i < k) (hi' : i + 1 = i') (h0 : ¬ x < 0) (h1 : x < len) (hd : InsA md pc .laload 1 pc') (hy : B i x = y) (h : Wk l Z (MoC Z cd) md pc' L (.long y :: S) (k, F, G, A, B) cu su Q) : Wk l Z (MoC Z cd) md pc L (.int x :: .ref i' :: S) (k, F, G, A, B) cu su Q :=
  fun en p e s m args below meth c T locs r X K hz hF hR hL => by
  obtain ⟨hd, rfl⟩ := hd
  subst hi' hy
  obtain ⟨cl, g1, g2, g3⟩ := relC.arr hR ht hi
  exact (h en p e s m args below meth c T locs r X K hz hF hR hL).pre (fun _ q => q) fun t q => X.laload K.1 (j := x) (v := .long (B i x)) g1.1 (State.isArrayOf_alike K.2.1.alike g1.2.1) g1.2.2 (in_of g2 h0 h1) (g3 x h0 h1) (g := mkF m pc r (.int x :: .ref (en.1 + (i + 1)) :: S.map (rv ((MoC Z cd).rho en)))) rfl rfl (hb K.by hd) _ q
theorem Wk.iastore (ok : CO Z a0 cd) {f : Int32 → Int32} {i i' : Nat} {n d : String} {len x v : Int32} (ht : (i, n, d, .int, len) ∈ cd.2.2.2) (hf : A i = f) (hi : i < k) (hi' : i + 1 = i') (h0 : ¬ x < 0) (h1 : x < len) (hd : InsA md pc .iastore 1 pc') (h : Wk l Z (MoC Z cd) md pc' L S (k, F, G, ups A i (ups f x v), B) cu su Q) : Wk l Z (MoC Z cd) md pc L (.int v :: .int x :: .ref i' :: S) (k, F, G, A, B) cu su Q :=
  fun en p e s m args below meth c T locs r X K hz hF hR hL => by
  obtain ⟨hd, rfl⟩ := hd
  subst hi' hf
  obtain ⟨cl, g1, g2, g3⟩ := relC.arr hR ht hi
  obtain ⟨T1, e1', X1, e1, W1, st⟩ := stI X K.1 K.2.1 rfl g1 (in_of g2 h0 h1) (g := mkF m pc r (.int v :: .int x :: .ref (en.1 + (i + 1)) :: S.map (rv ((MoC Z cd).rho en)))) rfl rfl (hb K.by hd)
  subst e1
  have p8 := (ok.2.2.2.2.2.2.2.2.2.2.2 _ ht).2.1
  exact (h en p e s m args below meth c T1 _ r X1 K (by rw [W1.size]; exact hz) (Fr.snoc X1 hF (Nat.le_trans hR.1 (Nat.le_add_right _ _))) (relC.stI ok (by decide) h0 h1 hR ht W1) hL).pre (fun _ q => (frmC.wr W1 (Nat.le_add_right _ _) (Nat.add_le_add_left (show i + 1 ≤ cd.2.2.2.length from p8) _)).trans q) fun t q => st t q
theorem Wk.bastore (ok : CO Z a0 cd) {f : Int32 → Int32} {i i' : Nat} {n d : String} {len x v v' : Int32} (hv : nar .boolean v = v') (ht : (i, n, d, .boolean, len) ∈ cd.2.2.2) (hf : A i = f) (hi : i < k) (hi' : i + 1 = i') (h0 : ¬ x < 0) (h1 : x < len) (hd : InsA md pc .bastore 1 pc') (h : Wk l Z (MoC Z cd) md pc' L S (k, F, G, ups A i (ups f x v'), B) cu su Q) : Wk l Z (MoC Z cd) md pc L (.int v :: .int x :: .ref i' :: S) (k, F, G, A, B) cu su Q :=
  fun en p e s m args below meth c T locs r X K hz hF hR hL => by
  obtain ⟨hd, rfl⟩ := hd
  subst hi' hv hf
  obtain ⟨cl, g1, g2, g3⟩ := relC.arr hR ht hi
  obtain ⟨T1, e1', X1, e1, W1, st⟩ := stZ X K.1 K.2.1 rfl g1 (in_of g2 h0 h1) (g := mkF m pc r (.int v :: .int x :: .ref (en.1 + (i + 1)) :: S.map (rv ((MoC Z cd).rho en)))) rfl rfl (hb K.by hd)
  subst e1
  have p8 := (ok.2.2.2.2.2.2.2.2.2.2.2 _ ht).2.1
  exact (h en p e s m args below meth c T1 _ r X1 K (by rw [W1.size]; exact hz) (Fr.snoc X1 hF (Nat.le_trans hR.1 (Nat.le_add_right _ _))) (relC.stI ok (by decide) h0 h1 hR ht W1) hL).pre (fun _ q => (frmC.wr W1 (Nat.le_add_right _ _) (Nat.add_le_add_left (show i + 1 ≤ cd.2.2.2.length from p8) _)).trans q) fun t q => st t q
theorem Wk.lastore (ok : CO Z a0 cd) {f : Int32 → Int64} {i i' : Nat} {n d : String} {len x : Int32} {v : Int64} (ht : (i, n, d, .long, len) ∈ cd.2.2.2) (hf : B i = f) (hi : i < k) (hi' : i + 1 = i') (h0 : ¬ x < 0) (h1 : x < len) (hd : InsA md pc .lastore 1 pc') (h : Wk l Z (MoC Z cd) md pc' L S (k, F, G, A, ups B i (ups f x v)) cu su Q) : Wk l Z (MoC Z cd) md pc L (.long v :: .int x :: .ref i' :: S) (k, F, G, A, B) cu su Q :=
  fun en p e s m args below meth c T locs r X K hz hF hR hL => by
  obtain ⟨hd, rfl⟩ := hd
  subst hi' hf
  obtain ⟨cl, g1, g2, g3⟩ := relC.arr hR ht hi
  obtain ⟨T1, e1', X1, e1, W1, st⟩ := stJ X K.1 K.2.1 rfl g1 (in_of g2 h0 h1) (g := mkF m pc r (.long v :: .int x :: .ref (en.1 + (i + 1)) :: S.map (rv ((MoC Z cd).rho en)))) rfl rfl (hb K.by hd)
  subst e1
  have p8 := (ok.2.2.2.2.2.2.2.2.2.2.2 _ ht).2.1
  exact (h en p e s m args below meth c T1 _ r X1 K (by rw [W1.size]; exact hz) (Fr.snoc X1 hF (Nat.le_trans hR.1 (Nat.le_add_right _ _))) (relC.stJ ok h0 h1 hR ht W1) hL).pre (fun _ q => (frmC.wr W1 (Nat.le_add_right _ _) (Nat.add_le_add_left (show i + 1 ≤ cd.2.2.2.length from p8) _)).trans q) fun t q => st t q
/-- Object.<init> -/
theorem Wk.initO {μ E : Type} {M : Mode μ E} {w : μ} {Q : Option Value → μ → Prop} {v : Nat} (w1 : (Cond.methodLink M.own idx Lib.objectInit).before a0 Z = true) (w2 : (Cond.instanceMethod Lib.objectInit).before a0 Z = true) (w3 : (Cond.code Lib.objectInit ⟨#[0xb1]⟩ 1 none).before a0 Z = true) (hd : InsA md pc (.invokespecial idx) 3 pc') (hl : L.length = mxOf md) (hf : 1 ≤ (rmOf md).frames) (hW : (S.map fun v => v.category).sum + 12 ≤ (rmOf md).locals)
    (h : Wk l Z M md pc' L S w cu su Q) : Wk l Z M md pc L (.ref v :: S) w cu su Q :=
  fun en p e s m args below meth c T locs r X K hz hF hR hL => by
  obtain ⟨hd, rfl⟩ := hd
  have cs : ∀ S : List Value, ((S.map (rv (M.rho en))).map fun v => v.category).sum = (S.map fun v => v.category).sum := fun S => by rw [List.map_map]; congr 1; exact List.map_congr_left fun v _ => rv_cat _ v
  obtain ⟨T1, X1, e1, st⟩ := Jvm.RoadKit.initO X K.1 K.2.1 K.2.2.1 w1 w2 w3 rfl (g := mkF m pc r (.ref (M.rho en v) :: S.map (rv (M.rho en)))) rfl (by show r.size = _; rw [hL.1, hl]; exact K.2.2.2.2.2.2.2.symm) rfl (hb K.by hd) hf (W := (S.map fun v => v.category).sum) (by show 2 * 0 + _ ≤ _; rw [cs]; omega) hW
  exact (h en p e s m args below meth c T1 locs r X1 K (by rw [e1]; exact hz) hF (by rw [e1]; exact hR) hL).pre (fun _ q => by rw [e1] at q; exact q) fun t q => st t q
end StepsC
end Jvm.Own

namespace Jvm.Own
open Jvm Jvm.ClassFile Sem Op Lib Jvm.Free Jvm.Stand Jvm.LawKit Jvm.RoadKit
/-! ## 4. Calls -/
def noRef : List Value → Bool
  | [] => true
  | .ref _ :: _ => false
  | _ :: t => noRef t
theorem noRef.map : (as : List Value) → noRef as = true → ∀ ρ, as.map (rv ρ) = as
  | [], _, _ => rfl
  | .ref _ :: _, h, _ => by cases h
  | .int _ :: t, h, ρ => by rw [List.map_cons, noRef.map t h ρ]; rfl
  | .long _ :: t, h, ρ => by rw [List.map_cons, noRef.map t h ρ]; rfl
  | .float _ :: t, h, ρ => by rw [List.map_cons, noRef.map t h ρ]; rfl
  | .double _ :: t, h, ρ => by rw [List.map_cons, noRef.map t h ρ]; rfl
  | .null :: t, h, ρ => by rw [List.map_cons, noRef.map t h ρ]; rfl
  | .retAddr _ :: t, h, ρ => by rw [List.map_cons, noRef.map t h ρ]; rfl
/-- what the words say of a callee: an instance method -/
def CalV (Z : State) (a0 : Array Value) (md : MD) (n : Nat) : Prop :=
  plainName (nmOf md).cls = true ∧ ((nmOf md).cls ≠ "java/lang/invoke/MethodHandle" ∧ (nmOf md).cls ≠ "java/lang/invoke/VarHandle") ∧ (∀ sig, parseMethodDescriptor (nmOf md).desc = some sig → n = sig.parameters.length) ∧
  (Cond.instanceMethod (nmOf md)).before a0 Z = true ∧ (Cond.code (nmOf md) (byOf md) (mxOf md) (rtOf md)).before a0 Z = true ∧ (Cond.initialized (nmOf md).cls).before a0 Z = true ∧
  (((Cond.declares (nmOf md)).before a0 Z = true ∧ (Cond.selects (nmOf md).cls (nmOf md) (nmOf md)).before a0 Z = true) ∨ ((Cond.privateMethod (nmOf md)).before a0 Z = true ∧ ∃ kk, (Cond.instantiable (nmOf md).cls kk).before a0 Z = true))
/-- a constructor -/
def CalI (Z : State) (a0 : Array Value) (md : MD) (n : Nat) : Prop :=
  plainName (nmOf md).cls = true ∧ ((nmOf md).cls ≠ "java/lang/invoke/MethodHandle" ∧ (nmOf md).cls ≠ "java/lang/invoke/VarHandle") ∧ (∀ sig, parseMethodDescriptor (nmOf md).desc = some sig → n = sig.parameters.length) ∧
  (Cond.instanceMethod (nmOf md)).before a0 Z = true ∧ (Cond.code (nmOf md) (byOf md) (mxOf md) (rtOf md)).before a0 Z = true ∧ (Cond.initialized (nmOf md).cls).before a0 Z = true ∧ (nmOf md).name = "<init>" ∧ rtOf md = none
/-- a static method -/
def CalS (Z : State) (a0 : Array Value) (md : MD) (n : Nat) : Prop :=
  plainName (nmOf md).cls = true ∧ ((nmOf md).cls ≠ "java/lang/invoke/MethodHandle" ∧ (nmOf md).cls ≠ "java/lang/invoke/VarHandle") ∧ (∀ sig, parseMethodDescriptor (nmOf md).desc = some sig → n = sig.parameters.length) ∧
  (Cond.static (nmOf md)).before a0 Z = true ∧ (Cond.code (nmOf md) (byOf md) (mxOf md) (rtOf md)).before a0 Z = true ∧ (Cond.initialized (nmOf md).cls).before a0 Z = true
/-- the figures of a call: the operands under it weigh wt -/
def Fits (md md' : MD) (wt cu su cu' su' : Nat) : Prop :=
  (rmOf md').frames + 1 ≤ (rmOf md).frames ∧ wt + (mxOf md' + 11) + (rmOf md').locals ≤ (rmOf md).locals ∧ cu + (rmOf md').cells = cu' ∧ su + (rmOf md').slots = su' ∧ cu' ≤ (rmOf md).cells ∧ su' ≤ (rmOf md).slots ∧ exOf md' = (rmOf md').cells
instance (md md' : MD) (wt cu su cu' su' : Nat) : Decidable (Fits md md' wt cu su cu' su') := by unfold Fits; infer_instance
section Core
variable {μ E : Type} {l : Launch} {Z : State} {a0 : Array Value} {M' : Mode μ E} {md md' : MD} {own : String} {p : Program} {e : Env} {s : State} {m : MethodId} {args : Array Value} {below : List Frame} {meth : Method} {c : Code} {T : State} {locs : List Loc} {cu su cu' su' wt pc idx : Nat} {as : List Value} {L' : List Slot} {w : μ} {Q' : Option Value → μ → Prop} {en : E} {a : Addr} {r : Array Slot} {rest : List Value}
theorem coreV (X : Stand p l e (rmOf md) s m args below meth c T locs cu su) (K : Kn Z own md p s m meth c) (hd : decode (byOf md) pc = .ok (.invokevirtual idx, 3)) (wl : (Cond.methodLink own idx (nmOf md')).before a0 Z = true) (cv : CalV Z a0 md' as.length) (hcal : Wk l Z M' md' 0 L' [] w 0 0 Q') (ho : M'.own = (nmOf md').cls) (hR : M'.rel en w T.heap) (hE : Exa Z T.heap a (nmOf md').cls) (ha : M'.rho en 0 = a)
    (hL : (argsToLocals (.ref 0 :: as).toArray (mxOf md')).toList = L') (hw : wfL L' = true) (ft : Fits md md' wt cu su cu' su') (hr : r.size = mxOf md) (hrest : (rest.map fun v => v.category).sum ≤ wt) :
    ∃ v T1 Lc w1, Stand p l e (rmOf md) s m args below meth c T1 (locs ++ Lc) cu' su' ∧ Q' v w1 ∧ M'.rel en w1 T1.heap ∧ M'.frm en T.heap T1.heap ∧ Fr (M'.lo en) Lc ∧ T1.heap.size = T.heap.size + exOf md' ∧ (∀ ρ x, v = some x → rv ρ x = x) ∧
      ∀ t, Steps p.tables e below (T1.setTop (mkF m (pc + 3) r (v.toList ++ rest))) t → Steps p.tables e below (T.setTop (mkF m pc r ((as.map (rv (M'.rho en))).reverse ++ .ref a :: rest))) t := by
  obtain ⟨v1, v2, v3, v4, v5, v6, v7⟩ := cv
  obtain ⟨f1, f2, f3, f4, f5, f6, f7⟩ := ft
  subst f3 f4 ha
  obtain ⟨hx, hZ, hown, -, -, -, hby, hml⟩ := K
  have bk := backOf (s := s) (args := args) (p := p) (e := e) (below := below) (len := 3) (W := wt) (R := rmOf md) (Q := fun v hh Lc => ∃ w', Q' v w' ∧ M'.rel en w' hh ∧ M'.frm en T.heap hh ∧ Fr (M'.lo en) Lc ∧ hh.size = T.heap.size + exOf md' ∧ ∀ ρ x, v = some x → rv ρ x = x) (hcal.met v1 ho hR (.ref 0 :: as) hL hw []) hZ v5 v6 f1 f2
  have hlen : ∀ sig, parseMethodDescriptor (nmOf md').desc = some sig → (as.map (rv (M'.rho en))).length = sig.parameters.length := fun sig q => by rw [List.length_map]; exact v3 sig q
  rcases v7 with ⟨d1, d2⟩ | ⟨d1, kk, d2⟩
  · obtain ⟨cq, kq, qa, qb, qc⟩ := isOf (T := T) hZ rfl hE
    obtain ⟨v, _, ⟨T1, L1, k1, n1⟩, -, X1, ⟨Lc, hQ, l1, y1, z1⟩, st⟩ := X.virtualBack hx (y := nmOf md') (z := nmOf md') hown (mvT hZ wl) (mvT hZ d1) (notFace_of_selects (args := #[]) (mvT hZ d2)) (mvT hZ d2) (mvT hZ v4) v2 bk qa qc (g := mkF m pc r ((as.map (rv (M'.rho en))).reverse ++ .ref (M'.rho en 0) :: rest)) rfl (hr.trans hml.symm) (Steps.refl _) (argsL := as.map (rv (M'.rho en))) (rest := rest) hlen rfl (by show 2 * 0 + _ ≤ _; omega) (hb hby hd) (fun _ _ => ⟨rfl, rfl, f5, f6⟩)
    dsimp only [Pt.U, Pt.locs, Pt.cells, Pt.slots] at X1 l1 y1 z1 st hQ
    subst l1 y1 z1
    obtain ⟨w1, q1, q2, q3, q4, q5, q6⟩ := hQ
    exact ⟨v, T1, Lc, w1, X1, q1, q2, q3, q4, q5, q6, fun t q => st.trans q⟩
  · obtain ⟨cc, kc, i1, i2, i3, i4, -⟩ := Cond.instantiable_spec (mvT (s := s) (args := #[]) hZ d2)
    have hni : kc.isInterface = false := by cases hq : kc.isInterface <;> simp [hq] at i4 ⊢
    have pv : s.PrivateAt (nmOf md') := Cond.privateMethod_at (mvP hZ d1 (args := #[]))
    have sel : (Cond.selects (nmOf md').cls (nmOf md') (nmOf md')).before args s = true := selects_self_of_private i1 i2 hni pv (mvT hZ v4) v2
    obtain ⟨cq, q7, q7'⟩ := hE.cell
    obtain ⟨v, _, ⟨T1, L1, k1, n1⟩, -, X1, ⟨Lc, hQ, l1, y1, z1⟩, st⟩ := X.privateBack hx (y := nmOf md') hown (mvT hZ wl) (mvT hZ v4) sel pv (mvT hZ v5) v2 bk (g := mkF m pc r ((as.map (rv (M'.rho en))).reverse ++ .ref (M'.rho en 0) :: rest)) rfl (hr.trans hml.symm) (Steps.refl _) (a := M'.rho en 0) q7 q7' (argsL := as.map (rv (M'.rho en))) (rest := rest) hlen rfl (by show 2 * 0 + _ ≤ _; omega) (hb hby hd) (fun _ _ => ⟨rfl, rfl, f5, f6⟩)
    dsimp only [Pt.U, Pt.locs, Pt.cells, Pt.slots] at X1 l1 y1 z1 st hQ
    subst l1 y1 z1
    obtain ⟨w1, q1, q2, q3, q4, q5, q6⟩ := hQ
    exact ⟨v, T1, Lc, w1, X1, q1, q2, q3, q4, q5, q6, fun t q => st.trans q⟩
theorem coreI (X : Stand p l e (rmOf md) s m args below meth c T locs cu su) (K : Kn Z own md p s m meth c) (hd : decode (byOf md) pc = .ok (.invokespecial idx, 3)) (wl : (Cond.methodLink own idx (nmOf md')).before a0 Z = true) (cv : CalI Z a0 md' as.length) (hcal : Wk l Z M' md' 0 L' [] w 0 0 Q') (ho : M'.own = (nmOf md').cls) (hR : M'.rel en w T.heap) (ha : M'.rho en 0 = a)
    (hL : (argsToLocals (.ref 0 :: as).toArray (mxOf md')).toList = L') (hw : wfL L' = true) (ft : Fits md md' wt cu su cu' su') (hr : r.size = mxOf md) (hrest : (rest.map fun v => v.category).sum ≤ wt) :
    ∃ v T1 Lc w1, Stand p l e (rmOf md) s m args below meth c T1 (locs ++ Lc) cu' su' ∧ Q' v w1 ∧ M'.rel en w1 T1.heap ∧ M'.frm en T.heap T1.heap ∧ Fr (M'.lo en) Lc ∧ T1.heap.size = T.heap.size + exOf md' ∧ (∀ ρ x, v = some x → rv ρ x = x) ∧
      ∀ t, Steps p.tables e below (T1.setTop (mkF m (pc + 3) r (v.toList ++ rest))) t → Steps p.tables e below (T.setTop (mkF m pc r ((as.map (rv (M'.rho en))).reverse ++ .ref a :: rest))) t := by
  obtain ⟨v1, v2, v3, v4, v5, v6, v7, v8⟩ := cv
  obtain ⟨f1, f2, f3, f4, f5, f6, f7⟩ := ft
  subst f3 f4 ha
  obtain ⟨hx, hZ, hown, -, -, -, hby, hml⟩ := K
  have bk := backOf (s := s) (args := args) (p := p) (e := e) (below := below) (len := 3) (W := wt) (R := rmOf md) (Q := fun v hh Lc => ∃ w', Q' v w' ∧ M'.rel en w' hh ∧ M'.frm en T.heap hh ∧ Fr (M'.lo en) Lc ∧ hh.size = T.heap.size + exOf md' ∧ ∀ ρ x, v = some x → rv ρ x = x) (hcal.met v1 ho hR (.ref 0 :: as) hL hw []) hZ v5 v6 f1 f2
  have hlen : ∀ sig, parseMethodDescriptor (nmOf md').desc = some sig → (as.map (rv (M'.rho en))).length = sig.parameters.length := fun sig q => by rw [List.length_map]; exact v3 sig q
  rw [v8] at v5
  obtain ⟨v, _, ⟨T1, L1, k1, n1⟩, -, X1, ⟨Lc, hQ, l1, y1, z1⟩, st⟩ := X.specialBack hx (y := nmOf md') v7 hown (mvT hZ wl) (mvT hZ v4) (mvT hZ v5) v2 bk (g := mkF m pc r ((as.map (rv (M'.rho en))).reverse ++ .ref (M'.rho en 0) :: rest)) rfl (hr.trans hml.symm) (Steps.refl _) (a := M'.rho en 0) (argsL := as.map (rv (M'.rho en))) (rest := rest) hlen rfl (by show 2 * 0 + _ ≤ _; omega) (hb hby hd) (fun _ _ => ⟨rfl, rfl, f5, f6⟩)
  dsimp only [Pt.U, Pt.locs, Pt.cells, Pt.slots] at X1 l1 y1 z1 st hQ
  subst l1 y1 z1
  obtain ⟨w1, q1, q2, q3, q4, q5, q6⟩ := hQ
  exact ⟨v, T1, Lc, w1, X1, q1, q2, q3, q4, q5, q6, fun t q => st.trans q⟩
theorem coreS (X : Stand p l e (rmOf md) s m args below meth c T locs cu su) (K : Kn Z own md p s m meth c) (hd : decode (byOf md) pc = .ok (.invokestatic idx, 3)) (wl : (Cond.methodLink own idx (nmOf md')).before a0 Z = true) (cv : CalS Z a0 md' as.length) (hcal : Wk l Z M' md' 0 L' [] w 0 0 Q') (ho : M'.own = (nmOf md').cls) (hR : M'.rel en w T.heap)
    (hL : (argsToLocals as.toArray (mxOf md')).toList = L') (hw : wfL L' = true) (ft : Fits md md' wt cu su cu' su') (hr : r.size = mxOf md) (hrest : (rest.map fun v => v.category).sum ≤ wt) :
    ∃ v T1 Lc w1, Stand p l e (rmOf md) s m args below meth c T1 (locs ++ Lc) cu' su' ∧ Q' v w1 ∧ M'.rel en w1 T1.heap ∧ M'.frm en T.heap T1.heap ∧ Fr (M'.lo en) Lc ∧ T1.heap.size = T.heap.size + exOf md' ∧ (∀ ρ x, v = some x → rv ρ x = x) ∧
      ∀ t, Steps p.tables e below (T1.setTop (mkF m (pc + 3) r (v.toList ++ rest))) t → Steps p.tables e below (T.setTop (mkF m pc r ((as.map (rv (M'.rho en))).reverse ++ rest))) t := by
  obtain ⟨v1, v2, v3, v4, v5, v6⟩ := cv
  obtain ⟨f1, f2, f3, f4, f5, f6, f7⟩ := ft
  subst f3 f4
  obtain ⟨hx, hZ, hown, -, -, -, hby, hml⟩ := K
  have bk := backOf (s := s) (args := args) (p := p) (e := e) (below := below) (len := 3) (W := wt) (R := rmOf md) (Q := fun v hh Lc => ∃ w', Q' v w' ∧ M'.rel en w' hh ∧ M'.frm en T.heap hh ∧ Fr (M'.lo en) Lc ∧ hh.size = T.heap.size + exOf md' ∧ ∀ ρ x, v = some x → rv ρ x = x) (hcal.met v1 ho hR as hL hw []) hZ v5 v6 f1 f2
  have hlen : ∀ sig, parseMethodDescriptor (nmOf md').desc = some sig → (as.map (rv (M'.rho en))).length = sig.parameters.length := fun sig q => by rw [List.length_map]; exact v3 sig q
  obtain ⟨v, _, ⟨T1, L1, k1, n1⟩, -, X1, ⟨Lc, hQ, l1, y1, z1⟩, st⟩ := Jvm.LawKit.callS X hx (y := nmOf md') hown (mvT hZ wl) (mvT hZ v4) (mvT hZ v6) (mvT hZ v5) v2 bk (g := mkF m pc r ((as.map (rv (M'.rho en))).reverse ++ rest)) rfl (hr.trans hml.symm) (argsL := as.map (rv (M'.rho en))) (rest := rest) hlen rfl (by show 2 * 0 + _ ≤ _; omega) (hb hby hd) (fun _ _ => ⟨rfl, rfl, f5, f6⟩)
  dsimp only [Pt.U, Pt.locs, Pt.cells, Pt.slots] at X1 l1 y1 z1 st hQ
  subst l1 y1 z1
  obtain ⟨w1, q1, q2, q3, q4, q5, q6⟩ := hQ
  exact ⟨v, T1, Lc, w1, X1, q1, q2, q3, q4, q5, q6, fun t q => st t q⟩
end Core
theorem cat_map (ρ : Nat → Addr) (S : List Value) : ((S.map (rv ρ)).map fun v => v.category).sum = (S.map fun v => v.category).sum := by
  rw [List.map_map]; congr 1; exact List.map_congr_left fun v _ => rv_cat _ v
theorem res_map {ρ : Nat → Addr} {v : Option Value} (h : ∀ ρ x, v = some x → rv ρ x = x) (S : List Value) : (v.toList ++ S).map (rv ρ) = v.toList ++ S.map (rv ρ) := by
  cases v with
  | none => rfl
  | some x => simp [h ρ x rfl]
section CallsC
variable {l : Launch} {Z : State} {a0 : Array Value} {cd : CD} {md md' : MD} {pc pc' wt idx : Nat} {L L' : List Slot} {S stk as : List Value} {w : WO} {cu su cu' su' : Nat} {Q Q' : Option Value → WO → Prop}
/-- a method of the same object -/
theorem Wk.callC (as : List Value) (S : List Value) (hs : stk = as.reverse ++ .ref 0 :: S) (wl : (Cond.methodLink cd.1 idx (nmOf md')).before a0 Z = true) (cv : CalV Z a0 md' as.length) (hc : (nmOf md').cls = cd.1) (nr : noRef as = true) (hcal : Wk l Z (MoC Z cd) md' 0 L' [] w 0 0 Q') (hL' : (argsToLocals (.ref 0 :: as).toArray (mxOf md')).toList = L') (hw : wfL L' = true) (hl : L.length = mxOf md)
    (hwt : (S.map fun v => v.category).sum = wt) (ft : Fits md md' wt cu su cu' su') (hd : InsA md pc (.invokevirtual idx) 3 pc') (h : ∀ v w', Q' v w' → Wk l Z (MoC Z cd) md pc' L (v.toList ++ S) w' cu' su' Q) : Wk l Z (MoC Z cd) md pc L stk w cu su Q :=
  fun en p e s m args below meth c T locs r X K hz hF hR hL => by
  obtain ⟨hd, rfl⟩ := hd
  subst hs
  obtain ⟨v, T1, Lc, w1, X1, q1, q2, q3, q4, q5, q6, st⟩ := coreV (M' := MoC Z cd) (en := en) (r := r) (rest := S.map (rv ((MoC Z cd).rho en))) X K hd wl cv hcal hc.symm hR (by rw [hc]; exact hR.2.1) rfl hL' hw ft (hL.1.trans hl) (by rw [cat_map]; omega)
  have f7 := ft.2.2.1
  have f8 := ft.2.2.2.2.2.2
  have em : (as.reverse ++ .ref 0 :: S).map (rv ((MoC Z cd).rho en)) = (as.map (rv ((MoC Z cd).rho en))).reverse ++ .ref ((MoC Z cd).rho en 0) :: S.map (rv ((MoC Z cd).rho en)) := by rw [List.map_append, List.map_reverse]; rfl
  have D := h v w1 q1 en p e s m args below meth c T1 _ r X1 K (by omega) (hF.app q4) q2 hL
  rw [res_map q6] at D
  rw [em]
  exact D.pre (fun _ q => frmC.trans q3 q) st
end CallsC
section CallsS
variable {μ E : Type} {l : Launch} {Z : State} {a0 : Array Value} {M : Mode μ E} {md md' : MD} {pc pc' wt idx : Nat} {L L' : List Slot} {S stk as : List Value} {w : μ} {cu su cu' su' : Nat} {Q Q' : Option Value → μ → Prop}
/-- a static method, in the same mode -/
theorem Wk.callS (hM : ∀ en h1 h2 h3, M.frm en h1 h2 → M.frm en h2 h3 → M.frm en h1 h3) (as : List Value) (S : List Value) (hs : stk = as.reverse ++ S) (wl : (Cond.methodLink M.own idx (nmOf md')).before a0 Z = true) (cv : CalS Z a0 md' as.length) (hc : (nmOf md').cls = M.own) (hcal : Wk l Z M md' 0 L' [] w 0 0 Q') (hL' : (argsToLocals as.toArray (mxOf md')).toList = L') (hw : wfL L' = true) (hl : L.length = mxOf md)
    (hwt : (S.map fun v => v.category).sum = wt) (ft : Fits md md' wt cu su cu' su') (hd : InsA md pc (.invokestatic idx) 3 pc') (h : ∀ v w', Q' v w' → Wk l Z M md pc' L (v.toList ++ S) w' cu' su' Q) : Wk l Z M md pc L stk w cu su Q :=
  fun en p e s m args below meth c T locs r X K hz hF hR hL => by
  obtain ⟨hd, rfl⟩ := hd
  subst hs
  obtain ⟨v, T1, Lc, w1, X1, q1, q2, q3, q4, q5, q6, st⟩ := coreS (M' := M) (en := en) (r := r) (rest := S.map (rv (M.rho en))) X K hd wl cv hcal hc.symm hR hL' hw ft (hL.1.trans hl) (by rw [cat_map]; omega)
  have f7 := ft.2.2.1
  have f8 := ft.2.2.2.2.2.2
  have em : (as.reverse ++ S).map (rv (M.rho en)) = (as.map (rv (M.rho en))).reverse ++ S.map (rv (M.rho en)) := by rw [List.map_append, List.map_reverse]
  have D := h v w1 q1 en p e s m args below meth c T1 _ r X1 K (by omega) (hF.app q4) q2 hL
  rw [res_map q6] at D
  rw [em]
  exact D.pre (fun _ q => hM _ _ _ _ q3 q) st
end CallsS
/-! ## 5. The law's own level: a script of ints (or none) and some objects, made one behind the other -/
abbrev WL : Type := Int32 × (Int32 → Int32) × List WO
def w0 : WO := (0, fun _ => 0, fun _ => 0, fun _ _ => 0, fun _ _ => 0)
def rhoL (cd : CD) (en : Nat × Nat) : Nat → Addr
  | 0 => en.2
  | i + 1 => en.1 + i * (cd.2.2.2.length + 1)
def relL (Z : State) (cd : CD) (sc : Bool) (en : Nat × Nat) (w : WL) (h : Heap) : Prop :=
  (sc = true → en.2 < en.1 ∧ ¬ w.1 < 0 ∧ AtA Z h en.2 .int w.1 w.2.1 (fun _ => 0)) ∧ (∀ i x, w.2.2[i]? = some x → relC Z cd (en.1 + i * (cd.2.2.2.length + 1), en.1) x h) ∧ h.size = en.1 + (w.2.2.map fun x => x.1 + 1).sum
abbrev MoL (Z : State) (cd : CD) (own : String) (sc : Bool) : Mode WL (Nat × Nat) := (own, rhoL cd, fun en => en.1, relL Z cd sc, fun _ _ _ => True)
def allK (n : Nat) : List WO → Prop
  | [] => True
  | x :: t => x.1 = n ∧ allK n t
theorem allK.get {n : Nat} : (ws : List WO) → allK n ws → ∀ (i : Nat) (x : WO), ws[i]? = some x → x.1 = n
  | [], _, i, x, h => by simp at h
  | y :: t, h, i, x, e => by
    cases i with
    | zero => simp at e; rw [← e]; exact h.1
    | succ i => exact allK.get t h.2 i x (by simpa using e)
theorem allK.sum {n : Nat} : {ws : List WO} → allK n ws → (ws.map fun x => x.1 + 1).sum = ws.length * (n + 1)
  | [], _ => by simp
  | y :: t, h => by rw [List.map_cons, List.sum_cons, allK.sum (ws := t) h.2, h.1, List.length_cons, Nat.add_mul]; omega
theorem sum_set : (ws : List WO) → (i : Nat) → (x y : WO) → ws[i]? = some x → ((ws.set i y).map fun x => x.1 + 1).sum + x.1 = (ws.map fun x => x.1 + 1).sum + y.1
  | [], i, x, y, h => by simp at h
  | z :: t, 0, x, y, h => by simp at h; subst h; simp; omega
  | z :: t, i + 1, x, y, h => by have := sum_set t i x y (by simpa using h); simp only [List.set_cons_succ, List.map_cons, List.sum_cons]; omega
section Keep
variable {Z : State} {cd : CD} {en : Nat × Nat} {h h' : Heap} {w : WO}
theorem Fld.cells {a : Addr} {C n d : String} {v : Value} (H : Fld Z h a C n d v) (q : ∀ c, h[a]? = some c → h'[a]? = some c) : Fld Z h' a C n d v := by
  obtain ⟨cell, cf, k, i, f, h1, r⟩ := H; exact ⟨cell, cf, k, i, f, q _ h1, r⟩
theorem Exa.cells {a : Addr} {C : String} (H : Exa Z h a C) (q : ∀ c, h[a]? = some c → h'[a]? = some c) : Exa Z h' a C := by
  obtain ⟨cell, k, h1, r⟩ := H; exact ⟨cell, k, q _ h1, r⟩
theorem AtA.cells {b : Addr} {ty : FieldType} {n : Int32} {f : Int32 → Int32} {g : Int32 → Int64} (H : AtA Z h b ty n f g) (q : ∀ c, h[b]? = some c → h'[b]? = some c) : AtA Z h' b ty n f g := by
  obtain ⟨cl, h1, r⟩ := H; exact ⟨cl, ⟨q _ h1.1, h1.2⟩, r⟩
theorem relC.cells (okA : ∀ t ∈ cd.2.2.2, t.1 < cd.2.2.2.length) (hR : relC Z cd en w h) (hk : w.1 = cd.2.2.2.length) (q : ∀ x c, en.1 ≤ x → x ≤ en.1 + cd.2.2.2.length → h[x]? = some c → h'[x]? = some c) : relC Z cd en w h' := by
  obtain ⟨r1, r2, r3, r4, r5, r6⟩ := hR
  have q0 := fun c => q en.1 c (Nat.le_refl _) (Nat.le_add_right _ _)
  refine ⟨r1, Exa.cells r2 q0, fun t m => Fld.cells (r3 t m) q0, fun t m => Fld.cells (r4 t m) q0, fun t m => ⟨fun k => ⟨Fld.cells ((r5 t m).1 k).1 q0, AtA.cells ((r5 t m).1 k).2 fun c => q _ c (Nat.le_add_right _ _) (by have := okA t m; omega)⟩, fun k => Fld.cells ((r5 t m).2 k) q0⟩, fun k => absurd k (by omega)⟩
end Keep
theorem apart {N i j n x : Nat} (hne : j ≠ i) (h1 : n + j * (N + 1) ≤ x) (h2 : x ≤ n + j * (N + 1) + N) : x < n + i * (N + 1) ∨ n + i * (N + 1) + N < x := by
  rcases Nat.lt_or_gt_of_ne hne with q | q
  · left
    have := Nat.mul_le_mul_right (N + 1) (show j + 1 ≤ i from q)
    rw [Nat.add_mul] at this
    omega
  · right
    have := Nat.mul_le_mul_right (N + 1) (show i + 1 ≤ j from q)
    rw [Nat.add_mul] at this
    omega
/-- one object's walk, seen from the law's level -/
theorem relL.step {Z : State} {cd : CD} {sc : Bool} {en : Nat × Nat} {sl : Int32} {sv : Int32 → Int32} {ws : List WO} {h h' : Heap} {i : Nat} {x y : WO} (okA : ∀ t ∈ cd.2.2.2, t.1 < cd.2.2.2.length) (hR : relL Z cd sc en (sl, sv, ws) h) (hi : ws[i]? = some x) (hoth : ∀ j z, ws[j]? = some z → j ≠ i → z.1 = cd.2.2.2.length)
    (hy : relC Z cd (en.1 + i * (cd.2.2.2.length + 1), en.1) y h') (hf : frmC cd (en.1 + i * (cd.2.2.2.length + 1), en.1) h h') (hz : h'.size + x.1 = h.size + y.1) : relL Z cd sc en (sl, sv, ws.set i y) h' := by
  obtain ⟨r1, r2, r3⟩ := hR
  refine ⟨fun q => ?_, fun j z hj => ?_, ?_⟩
  · obtain ⟨a1, a2, a3⟩ := r1 q
    refine ⟨a1, a2, AtA.cells a3 fun c hc => hf.2 _ c hc (Or.inl ?_)⟩
    show en.2 < en.1 + i * (cd.2.2.2.length + 1)
    omega
  · have hj' : (ws.set i y)[j]? = some z := hj
    rw [List.getElem?_set] at hj'
    by_cases e : i = j
    · subst e
      have : i < ws.length := (List.getElem?_eq_some_iff.mp hi).1
      simp [this] at hj'
      subst hj'
      exact hy
    · rw [if_neg e] at hj'
      exact relC.cells okA (r2 j z hj') (hoth j z hj' (Ne.symm e)) fun a c h1 h2 hc => hf.2 a c hc (apart (Ne.symm e) h1 h2)
  · have s1 := sum_set ws i x y hi
    have s2 : h.size = en.1 + (ws.map fun x => x.1 + 1).sum := r3
    show h'.size = en.1 + ((ws.set i y).map fun x => x.1 + 1).sum
    omega
section StepsL
variable {l : Launch} {Z : State} {a0 : Array Value} {cd : CD} {own : String} {sc : Bool} {md md' : MD} {pc pc' wt idx : Nat} {L L' : List Slot} {S stk as : List Value} {sl : Int32} {sv : Int32 → Int32} {ws ws' : List WO} {cu su cu' su' : Nat} {Q : Option Value → WL → Prop} {Q' : Option Value → WO → Prop}
theorem Wk.lenL (hd : InsA md pc .arraylength 1 pc') (h : Wk l Z (MoL Z cd own true) md pc' L (.int sl :: S) (sl, sv, ws) cu su Q) : Wk l Z (MoL Z cd own true) md pc L (.ref 0 :: S) (sl, sv, ws) cu su Q :=
  fun en p e s m args below meth c T locs r X K hz hF hR hL => by
  obtain ⟨hd, rfl⟩ := hd
  obtain ⟨a1, a2, cl, g1, g2, g3⟩ := hR.1 rfl
  have e1 : cl.slots.size.toInt32 = sl := by rw [g2]; exact (back32 a2).1
  refine (h en p e s m args below meth c T locs r X K hz hF hR hL).pre (fun _ q => q) fun t q => X.arraylength K.1 g1.1 (State.isArrayOf_alike K.2.1.alike g1.2.1) (g := mkF m pc r (.ref en.2 :: S.map (rv (rhoL cd en)))) rfl rfl (hb K.by hd) _ (by rw [e1]; exact q)
theorem Wk.ialoadL {x : Int32} (h0 : ¬ x < 0) (h1 : x < sl) (hd : InsA md pc .iaload 1 pc') (h : Wk l Z (MoL Z cd own true) md pc' L (.int (sv x) :: S) (sl, sv, ws) cu su Q) : Wk l Z (MoL Z cd own true) md pc L (.int x :: .ref 0 :: S) (sl, sv, ws) cu su Q :=
  fun en p e s m args below meth c T locs r X K hz hF hR hL => by
  obtain ⟨hd, rfl⟩ := hd
  obtain ⟨a1, a2, cl, g1, g2, g3⟩ := hR.1 rfl
  exact (h en p e s m args below meth c T locs r X K hz hF hR hL).pre (fun _ q => q) fun t q => X.iaload K.1 (j := x) (v := .int (sv x)) g1.1 (State.isArrayOf_alike K.2.1.alike g1.2.1) g1.2.2 (in_of g2 h0 h1) (g3 x h0 h1) (g := mkF m pc r (.int x :: .ref en.2 :: S.map (rv (rhoL cd en)))) rfl rfl (hb K.by hd) _ q
theorem Wk.newL (ok : CO Z a0 cd) {kk i' : Nat} (wc : (Cond.classLink own idx cd.1).before a0 Z = true) (wi : (Cond.instantiable cd.1 kk).before a0 Z = true) (wz : (Cond.initialized cd.1).before a0 Z = true) (hd : InsA md pc (.new idx) 3 pc') (hall : allK cd.2.2.2.length ws) (hi : ws.length + 1 = i') (hws : ws ++ [w0] = ws') (hcu : cu + 1 = cu') (hsu : su + kk = su') (hc : cu' ≤ (rmOf md).cells) (hs : su' ≤ (rmOf md).slots)
    (h : Wk l Z (MoL Z cd own sc) md pc' L (.ref i' :: S) (sl, sv, ws') cu' su' Q) : Wk l Z (MoL Z cd own sc) md pc L S (sl, sv, ws) cu su Q :=
  fun en p e s m args below meth c T locs r X K hz hF hR hL => by
  obtain ⟨hd, rfl⟩ := hd
  subst hi hws hcu hsu
  obtain ⟨T1, h1, X1, e1, E1, A1, D1, -, st⟩ := newO X K.1 K.2.1 K.2.2.1 wc wi wz rfl (g := mkF m pc r (S.map (rv (rhoL cd en)))) rfl (hb K.by hd) hc hs
  subst e1
  obtain ⟨r1, r2, r3⟩ := hR
  have r3' : T.heap.size = en.1 + (ws.map fun x => x.1 + 1).sum := r3
  have sm := hall.sum
  have z1 := X1.heapSize
  have z2 : (T.heap.size : Nat) < T1.heap.size := A1.lt
  have ea : T.heap.size = en.1 + ws.length * (cd.2.2.2.length + 1) := by rw [r3', sm]
  have okp := ok.2.2.2.2
  obtain ⟨q1, q2, q3, q4, q5, q6, q7, q8⟩ := okp
  have rel1 : relL Z cd sc en (sl, sv, ws ++ [w0]) T1.heap := by
    refine ⟨fun q => ⟨(r1 q).1, (r1 q).2.1, (r1 q).2.2.ext E1⟩, fun j z hj => ?_, ?_⟩
    · have hj' : (ws ++ [w0])[j]? = some z := hj
      by_cases e : j < ws.length
      · rw [List.getElem?_append_left e] at hj'
        exact relC.cells (fun t m => (q8 t m).2.1) (r2 j z hj') (allK.get _ hall _ _ hj') fun a c _ _ hc => E1.2 a c hc
      · have e2 : j = ws.length := by
          have := (List.getElem?_eq_some_iff.mp hj').1
          simp at this; omega
        subst e2
        simp at hj'
        subst hj'
        rw [← ea]
        refine ⟨by show en.1 ≤ T.heap.size; omega, A1, fun t m => ?_, fun t m => ?_, fun t m => ⟨fun k => absurd k (Nat.not_lt_zero _), fun _ => ?_⟩, fun _ => by show T1.heap.size = T.heap.size + 1 + 0; omega⟩
        · rcases q7 t m with q | q
          · exact D1 (ok.2.1 t m) q
          · exact D1 (ok.2.1 t m) q
        · exact D1 (ok.2.2.1 t m) pJ
        · exact D1 (ok.2.2.2.1 t m) (q8 t m).1
    · show T1.heap.size = en.1 + ((ws ++ [w0]).map fun x => x.1 + 1).sum
      rw [List.map_append, List.sum_append]
      show T1.heap.size = en.1 + ((ws.map fun x => x.1 + 1).sum + 1)
      omega
  refine (h en p e s m args below meth c T1 locs r X1 K (by omega) hF rel1 hL).pre (fun _ _ => trivial) fun t q => st t ?_
  rw [ea]
  exact q
theorem Wk.callLC (ok : CO Z a0 cd) (as : List Value) (i : Nat) (S : List Value) {i' : Nat} {x : WO} (hi' : i + 1 = i') (hs : stk = as.reverse ++ .ref i' :: S) (hx : ws[i]? = some x) (hoth : allK cd.2.2.2.length (ws.eraseIdx i)) (wl : (Cond.methodLink own idx (nmOf md')).before a0 Z = true) (cv : CalV Z a0 md' as.length) (hc : (nmOf md').cls = cd.1) (nr : noRef as = true) (hcal : Wk l Z (MoC Z cd) md' 0 L' [] x 0 0 Q') (hL' : (argsToLocals (.ref 0 :: as).toArray (mxOf md')).toList = L') (hw : wfL L' = true) (hl : L.length = mxOf md)
    (hwt : (S.map fun v => v.category).sum = wt) (ft : Fits md md' wt cu su cu' su') (hd : InsA md pc (.invokevirtual idx) 3 pc') (hk : ∀ v y, Q' v y → y.1 = x.1 + exOf md') (h : ∀ v y, Q' v y → Wk l Z (MoL Z cd own sc) md pc' L (v.toList ++ S) (sl, sv, ws.set i y) cu' su' Q) : Wk l Z (MoL Z cd own sc) md pc L stk (sl, sv, ws) cu su Q :=
  fun en p e s m args below meth c T locs r X K hz hF hR hL => by
  obtain ⟨hd, rfl⟩ := hd
  subst hs hi'
  have rx := hR.2.1 i x hx
  obtain ⟨v, T1, Lc, w1, X1, p1, p2, p3, p4, p5, p6, st⟩ := coreV (M' := MoC Z cd) (en := (en.1 + i * (cd.2.2.2.length + 1), en.1)) (r := r) (rest := S.map (rv (rhoL cd en))) X K hd wl cv hcal hc.symm rx (by rw [hc]; exact rx.2.1) rfl hL' hw ft (hL.1.trans hl) (by rw [cat_map]; omega)
  have f7 := ft.2.2.1
  have f8 := ft.2.2.2.2.2.2
  have em : (as.reverse ++ .ref (i + 1) :: S).map (rv (rhoL cd en)) = (as.map (rv ((MoC Z cd).rho (en.1 + i * (cd.2.2.2.length + 1), en.1)))).reverse ++ .ref ((MoC Z cd).rho (en.1 + i * (cd.2.2.2.length + 1), en.1) 0) :: S.map (rv (rhoL cd en)) := by
    rw [List.map_append, List.map_reverse, noRef.map as nr, noRef.map as nr]; rfl
  have oth : ∀ j z, ws[j]? = some z → j ≠ i → z.1 = cd.2.2.2.length := by
    intro j z hj hne
    by_cases e : j < i
    · exact allK.get _ hoth j z (by rw [List.getElem?_eraseIdx]; simp [e, hj])
    · refine allK.get _ hoth (j - 1) z ?_
      rw [List.getElem?_eraseIdx, if_neg (by omega), show j - 1 + 1 = j by omega]; exact hj
  have hkk := hk v w1 p1
  have okA : ∀ t ∈ cd.2.2.2, t.1 < cd.2.2.2.length := fun t m => (ok.2.2.2.2.2.2.2.2.2.2.2 t m).2.1
  have D := h v w1 p1 en p e s m args below meth c T1 _ r X1 K (by omega) (hF.app p4) (relL.step okA hR hx oth p2 p3 (by omega)) hL
  rw [res_map p6] at D
  show Done _ _ _ _ _ _ _ _ _ _ _ _ _ _ (mkF m pc r ((as.reverse ++ .ref (i + 1) :: S).map (rv (rhoL cd en))))
  rw [em]
  exact D.pre (fun _ _ => trivial) st
theorem Wk.ctorL (ok : CO Z a0 cd) (as : List Value) (i : Nat) (S : List Value) {i' : Nat} {x : WO} (hi' : i + 1 = i') (hs : stk = as.reverse ++ .ref i' :: S) (hx : ws[i]? = some x) (hoth : allK cd.2.2.2.length (ws.eraseIdx i)) (wl : (Cond.methodLink own idx (nmOf md')).before a0 Z = true) (cv : CalI Z a0 md' as.length) (hc : (nmOf md').cls = cd.1) (nr : noRef as = true) (hcal : Wk l Z (MoC Z cd) md' 0 L' [] x 0 0 Q') (hL' : (argsToLocals (.ref 0 :: as).toArray (mxOf md')).toList = L') (hw : wfL L' = true) (hl : L.length = mxOf md)
    (hwt : (S.map fun v => v.category).sum = wt) (ft : Fits md md' wt cu su cu' su') (hd : InsA md pc (.invokespecial idx) 3 pc') (hk : ∀ v y, Q' v y → y.1 = x.1 + exOf md') (h : ∀ v y, Q' v y → Wk l Z (MoL Z cd own sc) md pc' L (v.toList ++ S) (sl, sv, ws.set i y) cu' su' Q) : Wk l Z (MoL Z cd own sc) md pc L stk (sl, sv, ws) cu su Q :=
  fun en p e s m args below meth c T locs r X K hz hF hR hL => by
  obtain ⟨hd, rfl⟩ := hd
  subst hs hi'
  have rx := hR.2.1 i x hx
  obtain ⟨v, T1, Lc, w1, X1, p1, p2, p3, p4, p5, p6, st⟩ := coreI (M' := MoC Z cd) (en := (en.1 + i * (cd.2.2.2.length + 1), en.1)) (r := r) (rest := S.map (rv (rhoL cd en))) X K hd wl cv hcal hc.symm rx rfl hL' hw ft (hL.1.trans hl) (by rw [cat_map]; omega)
  have f7 := ft.2.2.1
  have f8 := ft.2.2.2.2.2.2
  have em : (as.reverse ++ .ref (i + 1) :: S).map (rv (rhoL cd en)) = (as.map (rv ((MoC Z cd).rho (en.1 + i * (cd.2.2.2.length + 1), en.1)))).reverse ++ .ref ((MoC Z cd).rho (en.1 + i * (cd.2.2.2.length + 1), en.1) 0) :: S.map (rv (rhoL cd en)) := by
    rw [List.map_append, List.map_reverse, noRef.map as nr, noRef.map as nr]; rfl
  have oth : ∀ j z, ws[j]? = some z → j ≠ i → z.1 = cd.2.2.2.length := by
    intro j z hj hne
    by_cases e : j < i
    · exact allK.get _ hoth j z (by rw [List.getElem?_eraseIdx]; simp [e, hj])
    · refine allK.get _ hoth (j - 1) z ?_
      rw [List.getElem?_eraseIdx, if_neg (by omega), show j - 1 + 1 = j by omega]; exact hj
  have hkk := hk v w1 p1
  have okA : ∀ t ∈ cd.2.2.2, t.1 < cd.2.2.2.length := fun t m => (ok.2.2.2.2.2.2.2.2.2.2.2 t m).2.1
  have D := h v w1 p1 en p e s m args below meth c T1 _ r X1 K (by omega) (hF.app p4) (relL.step okA hR hx oth p2 p3 (by omega)) hL
  rw [res_map p6] at D
  show Done _ _ _ _ _ _ _ _ _ _ _ _ _ _ (mkF m pc r ((as.reverse ++ .ref (i + 1) :: S).map (rv (rhoL cd en))))
  rw [em]
  exact D.pre (fun _ _ => trivial) st
end StepsL
end Jvm.Own

namespace Jvm.Own
open Jvm Jvm.ClassFile Sem Op Lib Jvm.Free Jvm.Stand Jvm.LawKit Jvm.RoadKit
/-- the class's list of fields, looked at -/
def okB (cd : CD) : Bool :=
  cd.2.1.all (fun (t : Nat × String × String) => cd.2.1.all fun t' => if t.1 = t'.1 then decide (t = t') else t.2.1 != t'.2.1) && cd.2.2.1.all (fun (t : Nat × String) => cd.2.2.1.all fun t' => if t.1 = t'.1 then decide (t = t') else t.2 != t'.2) && cd.2.2.2.all (fun (t : Nat × String × String × FieldType × Int32) => cd.2.2.2.all fun t' => if t.1 = t'.1 then decide (t = t') else t.2.1 != t'.2.1) &&
  cd.2.1.all (fun (t : Nat × String × String) => cd.2.2.1.all fun (t' : Nat × String) => t.2.1 != t'.2) && cd.2.1.all (fun (t : Nat × String × String) => cd.2.2.2.all fun (t' : Nat × String × String × FieldType × Int32) => t.2.1 != t'.2.1) && cd.2.2.1.all (fun (t : Nat × String) => cd.2.2.2.all fun (t' : Nat × String × String × FieldType × Int32) => t.2 != t'.2.1) &&
  cd.2.1.all (fun (t : Nat × String × String) => decide (parseFieldDescriptor t.2.2 = some .int) || decide (parseFieldDescriptor t.2.2 = some .boolean)) &&
  cd.2.2.2.all (fun (t : Nat × String × String × FieldType × Int32) => decide (parseFieldDescriptor t.2.2.1 = some (.array t.2.2.2.1)) && decide (t.1 < cd.2.2.2.length) && (decide (t.2.2.2.1 = .int) || decide (t.2.2.2.1 = .boolean) || decide (t.2.2.2.1 = .long)) && !decide (t.2.2.2.2 < 0))
theorem pair_of {α : Type} {L : List α} {f : α → Nat} {g : α → String} [DecidableEq α] (h : L.all (fun t => L.all fun t' => if f t = f t' then decide (t = t') else g t != g t') = true) : ∀ t ∈ L, ∀ t' ∈ L, (f t = f t' → t = t') ∧ (f t ≠ f t' → g t ≠ g t') := by
  intro t m t' m'
  have q := List.all_eq_true.mp (List.all_eq_true.mp h t m) t' m'
  constructor
  · intro e; rw [if_pos e] at q; exact of_decide_eq_true q
  · intro e; rw [if_neg e] at q; simpa using q
theorem apart_of {α β : Type} {L : List α} {L' : List β} {g : α → String} {g' : β → String} (h : L.all (fun t => L'.all fun t' => g t != g' t') = true) : ∀ t ∈ L, ∀ t' ∈ L', g t ≠ g' t' := by
  intro t m t' m'
  have q := List.all_eq_true.mp (List.all_eq_true.mp h t m) t' m'
  simpa using q
theorem okC.of {cd : CD} (h : okB cd = true) : okC cd := by
  unfold okB at h
  simp only [Bool.and_eq_true] at h
  obtain ⟨⟨⟨⟨⟨⟨⟨h1, h2⟩, h3⟩, h4⟩, h5⟩, h6⟩, h7⟩, h8⟩ := h
  refine ⟨pair_of (L := cd.2.1) (f := fun (t : Nat × String × String) => t.1) (g := fun (t : Nat × String × String) => t.2.1) h1, pair_of (L := cd.2.2.1) (f := fun (t : Nat × String) => t.1) (g := fun (t : Nat × String) => t.2) h2, pair_of (L := cd.2.2.2) (f := fun (t : Nat × String × String × FieldType × Int32) => t.1) (g := fun (t : Nat × String × String × FieldType × Int32) => t.2.1) h3, apart_of (L := cd.2.1) (L' := cd.2.2.1) (g := fun (t : Nat × String × String) => t.2.1) (g' := fun (t : Nat × String) => t.2) h4, apart_of (L := cd.2.1) (L' := cd.2.2.2) (g := fun (t : Nat × String × String) => t.2.1) (g' := fun (t : Nat × String × String × FieldType × Int32) => t.2.1) h5, apart_of (L := cd.2.2.1) (L' := cd.2.2.2) (g := fun (t : Nat × String) => t.2) (g' := fun (t : Nat × String × String × FieldType × Int32) => t.2.1) h6, fun t m => ?_, fun t m => ?_⟩
  · have q := List.all_eq_true.mp h7 t m
    simpa using q
  · have q := List.all_eq_true.mp h8 t m
    simp only [Bool.and_eq_true, Bool.or_eq_true, decide_eq_true_eq, Bool.not_eq_true', decide_eq_false_iff_not] at q
    exact ⟨q.1.1.1, q.1.1.2, by rcases q.1.2 with (a | a) | a <;> simp [a], q.2⟩
theorem nar1 : nar .boolean 1 = 1 := by decide
theorem nar0 : nar .boolean 0 = 0 := by decide
theorem nar_nar (x : Int32) : nar .boolean (nar .boolean x) = nar .boolean x := by
  show (x &&& 1) &&& 1 = x &&& 1
  rw [Int32.and_assoc]; rfl
theorem ne_toInt {x n : Int32} (q : ¬ x = n) : x.toInt ≠ n.toInt := fun h => q (Int32.toInt_inj.mp h)
/-! ## 6. The same calls where the callee's answer is known as a term -/
section FunC
variable {l : Launch} {Z : State} {a0 : Array Value} {cd : CD} {md md' : MD} {pc pc' wt idx : Nat} {L L' : List Slot} {S stk as : List Value} {w w1 : WO} {cu su cu' su' : Nat} {Q : Option Value → WO → Prop} {x : Value}
theorem Wk.callF (as : List Value) (S : List Value) (wl : (Cond.methodLink cd.1 idx (nmOf md')).before a0 Z = true) (cv : CalV Z a0 md' as.length) (hd : InsA md pc (.invokevirtual idx) 3 pc') (hcal : Wk l Z (MoC Z cd) md' 0 L' [] w 0 0 (fun v w' => v = some x ∧ w' = w1)) (ft : Fits md md' wt cu su cu' su') (hs : stk = as.reverse ++ .ref 0 :: S) (hc : (nmOf md').cls = cd.1) (nr : noRef as = true) (hL' : (argsToLocals (.ref 0 :: as).toArray (mxOf md')).toList = L') (hw : wfL L' = true) (hl : L.length = mxOf md)
    (hwt : (S.map fun v => v.category).sum = wt) (h : Wk l Z (MoC Z cd) md pc' L (x :: S) w1 cu' su' Q) : Wk l Z (MoC Z cd) md pc L stk w cu su Q :=
  Wk.callC as S hs wl cv hc nr hcal hL' hw hl hwt ft hd fun v w' q => by obtain ⟨rfl, rfl⟩ := q; exact h
theorem Wk.callU (as : List Value) (S : List Value) (wl : (Cond.methodLink cd.1 idx (nmOf md')).before a0 Z = true) (cv : CalV Z a0 md' as.length) (hd : InsA md pc (.invokevirtual idx) 3 pc') (hcal : Wk l Z (MoC Z cd) md' 0 L' [] w 0 0 (fun v w' => v = none ∧ w' = w1)) (ft : Fits md md' wt cu su cu' su') (hs : stk = as.reverse ++ .ref 0 :: S) (hc : (nmOf md').cls = cd.1) (nr : noRef as = true) (hL' : (argsToLocals (.ref 0 :: as).toArray (mxOf md')).toList = L') (hw : wfL L' = true) (hl : L.length = mxOf md)
    (hwt : (S.map fun v => v.category).sum = wt) (h : Wk l Z (MoC Z cd) md pc' L S w1 cu' su' Q) : Wk l Z (MoC Z cd) md pc L stk w cu su Q :=
  Wk.callC as S hs wl cv hc nr hcal hL' hw hl hwt ft hd fun v w' q => by obtain ⟨rfl, rfl⟩ := q; exact h
end FunC
section FunS
variable {μ E : Type} {l : Launch} {Z : State} {a0 : Array Value} {M : Mode μ E} {md md' : MD} {pc pc' wt idx : Nat} {L L' : List Slot} {S stk as : List Value} {w w1 : μ} {cu su cu' su' : Nat} {Q : Option Value → μ → Prop} {x : Value}
theorem Wk.callSF (hM : ∀ en h1 h2 h3, M.frm en h1 h2 → M.frm en h2 h3 → M.frm en h1 h3) (as : List Value) (S : List Value) (wl : (Cond.methodLink M.own idx (nmOf md')).before a0 Z = true) (cv : CalS Z a0 md' as.length) (hd : InsA md pc (.invokestatic idx) 3 pc') (hcal : Wk l Z M md' 0 L' [] w 0 0 (fun v w' => v = some x ∧ w' = w1)) (ft : Fits md md' wt cu su cu' su') (hs : stk = as.reverse ++ S) (hc : (nmOf md').cls = M.own) (hL' : (argsToLocals as.toArray (mxOf md')).toList = L') (hw : wfL L' = true) (hl : L.length = mxOf md)
    (hwt : (S.map fun v => v.category).sum = wt) (h : Wk l Z M md pc' L (x :: S) w1 cu' su' Q) : Wk l Z M md pc L stk w cu su Q :=
  Wk.callS hM as S hs wl cv hc hcal hL' hw hl hwt ft hd fun v w' q => by obtain ⟨rfl, rfl⟩ := q; exact h
theorem Wk.callSU (hM : ∀ en h1 h2 h3, M.frm en h1 h2 → M.frm en h2 h3 → M.frm en h1 h3) (as : List Value) (S : List Value) (wl : (Cond.methodLink M.own idx (nmOf md')).before a0 Z = true) (cv : CalS Z a0 md' as.length) (hd : InsA md pc (.invokestatic idx) 3 pc') (hcal : Wk l Z M md' 0 L' [] w 0 0 (fun v w' => v = none ∧ w' = w1)) (ft : Fits md md' wt cu su cu' su') (hs : stk = as.reverse ++ S) (hc : (nmOf md').cls = M.own) (hL' : (argsToLocals as.toArray (mxOf md')).toList = L') (hw : wfL L' = true) (hl : L.length = mxOf md)
    (hwt : (S.map fun v => v.category).sum = wt) (h : Wk l Z M md pc' L S w1 cu' su' Q) : Wk l Z M md pc L stk w cu su Q :=
  Wk.callS hM as S hs wl cv hc hcal hL' hw hl hwt ft hd fun v w' q => by obtain ⟨rfl, rfl⟩ := q; exact h
end FunS
section FunL
variable {l : Launch} {Z : State} {a0 : Array Value} {cd : CD} {own : String} {sc : Bool} {md md' : MD} {pc pc' wt idx : Nat} {L L' : List Slot} {S stk as : List Value} {sl : Int32} {sv : Int32 → Int32} {ws ws' : List WO} {cu su cu' su' : Nat} {Q : Option Value → WL → Prop} {v : Value} {y : WO}
theorem Wk.callLF (ok : CO Z a0 cd) (as : List Value) (i : Nat) (S : List Value) {i' : Nat} {x : WO} (wl : (Cond.methodLink own idx (nmOf md')).before a0 Z = true) (cv : CalV Z a0 md' as.length) (hd : InsA md pc (.invokevirtual idx) 3 pc') (hcal : Wk l Z (MoC Z cd) md' 0 L' [] x 0 0 (fun v' w' => v' = some v ∧ w' = y)) (ft : Fits md md' wt cu su cu' su') (hoth : allK cd.2.2.2.length (ws.eraseIdx i)) (hi' : i + 1 = i') (hs : stk = as.reverse ++ .ref i' :: S) (hx : ws[i]? = some x) (hc : (nmOf md').cls = cd.1) (nr : noRef as = true) (hL' : (argsToLocals (.ref 0 :: as).toArray (mxOf md')).toList = L') (hw : wfL L' = true) (hl : L.length = mxOf md)
    (hwt : (S.map fun v => v.category).sum = wt) (hk : y.1 = x.1 + exOf md') (hws : ws.set i y = ws') (h : Wk l Z (MoL Z cd own sc) md pc' L (v :: S) (sl, sv, ws') cu' su' Q) : Wk l Z (MoL Z cd own sc) md pc L stk (sl, sv, ws) cu su Q :=
  Wk.callLC ok as i S hi' hs hx hoth wl cv hc nr hcal hL' hw hl hwt ft hd (fun v' y' q => by obtain ⟨rfl, rfl⟩ := q; exact hk) fun v' y' q => by obtain ⟨rfl, rfl⟩ := q; subst hws; exact h
theorem Wk.callLU (ok : CO Z a0 cd) (as : List Value) (i : Nat) (S : List Value) {i' : Nat} {x : WO} (wl : (Cond.methodLink own idx (nmOf md')).before a0 Z = true) (cv : CalV Z a0 md' as.length) (hd : InsA md pc (.invokevirtual idx) 3 pc') (hcal : Wk l Z (MoC Z cd) md' 0 L' [] x 0 0 (fun v' w' => v' = none ∧ w' = y)) (ft : Fits md md' wt cu su cu' su') (hoth : allK cd.2.2.2.length (ws.eraseIdx i)) (hi' : i + 1 = i') (hs : stk = as.reverse ++ .ref i' :: S) (hx : ws[i]? = some x) (hc : (nmOf md').cls = cd.1) (nr : noRef as = true) (hL' : (argsToLocals (.ref 0 :: as).toArray (mxOf md')).toList = L') (hw : wfL L' = true) (hl : L.length = mxOf md)
    (hwt : (S.map fun v => v.category).sum = wt) (hk : y.1 = x.1 + exOf md') (hws : ws.set i y = ws') (h : Wk l Z (MoL Z cd own sc) md pc' L S (sl, sv, ws') cu' su' Q) : Wk l Z (MoL Z cd own sc) md pc L stk (sl, sv, ws) cu su Q :=
  Wk.callLC ok as i S hi' hs hx hoth wl cv hc nr hcal hL' hw hl hwt ft hd (fun v' y' q => by obtain ⟨rfl, rfl⟩ := q; exact hk) fun v' y' q => by obtain ⟨rfl, rfl⟩ := q; subst hws; exact h
theorem Wk.ctorLU (ok : CO Z a0 cd) (as : List Value) (i : Nat) (S : List Value) {i' : Nat} {x : WO} (wl : (Cond.methodLink own idx (nmOf md')).before a0 Z = true) (cv : CalI Z a0 md' as.length) (hd : InsA md pc (.invokespecial idx) 3 pc') (hcal : Wk l Z (MoC Z cd) md' 0 L' [] x 0 0 (fun v' w' => v' = none ∧ w' = y)) (ft : Fits md md' wt cu su cu' su') (hoth : allK cd.2.2.2.length (ws.eraseIdx i)) (hi' : i + 1 = i') (hs : stk = as.reverse ++ .ref i' :: S) (hx : ws[i]? = some x) (hc : (nmOf md').cls = cd.1) (nr : noRef as = true) (hL' : (argsToLocals (.ref 0 :: as).toArray (mxOf md')).toList = L') (hw : wfL L' = true) (hl : L.length = mxOf md)
    (hwt : (S.map fun v => v.category).sum = wt) (hk : y.1 = x.1 + exOf md') (hws : ws.set i y = ws') (h : Wk l Z (MoL Z cd own sc) md pc' L S (sl, sv, ws') cu' su' Q) : Wk l Z (MoL Z cd own sc) md pc L stk (sl, sv, ws) cu su Q :=
  Wk.ctorL ok as i S hi' hs hx hoth wl cv hc nr hcal hL' hw hl hwt ft hd (fun v' y' q => by obtain ⟨rfl, rfl⟩ := q; exact hk) fun v' y' q => by obtain ⟨rfl, rfl⟩ := q; subst hws; exact h
end FunL
end Jvm.Own

namespace Jvm.Own
open Jvm
/-! ## 7. Plain helpers -/
theorem lt_i {x y : Int32} : x < y ↔ x.toInt < y.toInt := Int32.lt_iff_toInt_lt
theorem add_toInt {x y : Int32} (h1 : -2147483648 ≤ x.toInt + y.toInt) (h2 : x.toInt + y.toInt < 2147483648) : (x + y).toInt = x.toInt + y.toInt := by
  rw [Int32.toInt_add]
  exact Int.bmod_eq_of_le (by omega) (by omega)
theorem sub_toInt {x y : Int32} (h1 : -2147483648 ≤ x.toInt - y.toInt) (h2 : x.toInt - y.toInt < 2147483648) : (x - y).toInt = x.toInt - y.toInt := by
  rw [Int32.toInt_sub]
  exact Int.bmod_eq_of_le (by omega) (by omega)
theorem succ_toInt {i n : Int32} (h : i < n) : (i + 1).toInt = i.toInt + 1 := by
  have h1 := lt_i.mp h
  have h2 := Int32.toInt_lt n
  have h3 := Int32.le_toInt i
  exact add_toInt (x := i) (y := 1) (by show -2147483648 ≤ i.toInt + 1; omega) (by show i.toInt + 1 < 2147483648; omega)
/-- a loop that counts up to n: backwards from its end -/
theorem loopUp {n : Int32} {P : Int32 → Prop} (hend : P n) (hstep : ∀ i, ¬ i < 0 → i < n → P (i + 1) → P i) : ∀ i, ¬ i < 0 → ¬ n < i → P i := by
  have key : ∀ (k : Nat) (i : Int32), ¬ i < 0 → ¬ n < i → (n.toInt - i.toInt).toNat = k → P i := by
    intro k
    induction k with
    | zero =>
      intro i h0 h1 hk
      have e : i = n := by
        rw [lt_i] at h1
        exact Int32.toInt_inj.mp (by omega)
      subst e; exact hend
    | succ k ih =>
      intro i h0 h1 hk
      rw [lt_i] at h1
      have hlt : i < n := lt_i.mpr (by omega)
      have hs := succ_toInt hlt
      have h0' : ¬ i.toInt < 0 := fun q => h0 (lt_i.mpr q)
      refine hstep i h0 hlt (ih (i + 1) ?_ ?_ ?_)
      · rw [lt_i, hs]; show ¬ i.toInt + 1 < 0; omega
      · rw [lt_i, hs]; omega
      · rw [hs]; omega
  exact fun i h0 h1 => key _ i h0 h1 rfl
/-- the first n places hold c -/
def fill {α : Type} (f : Int32 → α) (n : Int32) (c : α) : Int32 → α := fun x => if ¬ x < 0 ∧ x < n then c else f x
theorem fill_zero {α : Type} (f : Int32 → α) (c : α) : fill f 0 c = f := by
  funext x; exact if_neg fun q => q.1 q.2
theorem fill_succ {α : Type} (f : Int32 → α) (c : α) {i n : Int32} (h0 : ¬ i < 0) (h : i < n) : ups (fill f i c) i c = fill f (i + 1) c := by
  funext x
  have hs := succ_toInt h
  have h0' : ¬ i.toInt < 0 := fun q => h0 (lt_i.mpr q)
  unfold ups fill
  by_cases e : x = i
  · rw [if_pos e, if_pos]
    subst e
    exact ⟨h0, lt_i.mpr (by omega)⟩
  · rw [if_neg e]
    have e' : x.toInt ≠ i.toInt := fun q => e (Int32.toInt_inj.mp q)
    by_cases q : ¬ x < 0 ∧ x < i
    · rw [if_pos q, if_pos ⟨q.1, lt_i.mpr (by have := lt_i.mp q.2; omega)⟩]
    · rw [if_neg q, if_neg]
      rintro ⟨a, b⟩
      exact q ⟨a, lt_i.mpr (by have := lt_i.mp b; omega)⟩
theorem fill_in {α : Type} (f : Int32 → α) (c : α) {x n : Int32} (h0 : ¬ x < 0) (h : x < n) : fill f n c x = c := if_pos ⟨h0, h⟩
theorem ups_self {κ α : Type} [DecidableEq κ] (f : κ → α) (i : κ) : ups f i (f i) = f := by
  funext k; unfold ups; by_cases e : k = i
  · rw [if_pos e, e]
  · rw [if_neg e]
theorem ups_upd {κ α : Type} [DecidableEq κ] (f : κ → α) (i : κ) (x y : α) : ups (ups f i x) i y = ups f i y := by
  funext k; unfold ups; by_cases e : k = i
  · rw [if_pos e, if_pos e]
  · rw [if_neg e, if_neg e, if_neg e]
theorem ups_comm {κ α : Type} [DecidableEq κ] (f : κ → α) {i j : κ} (x y : α) (h : i ≠ j) : ups (ups f i x) j y = ups (ups f j y) i x := by
  funext k; unfold ups; by_cases e : k = i
  · have : k ≠ j := fun q => h (e.symm.trans q)
    rw [if_neg this, if_pos e, if_pos e]
  · by_cases e2 : k = j
    · rw [if_pos e2, if_neg e, if_pos e2]
    · rw [if_neg e2, if_neg e, if_neg e, if_neg e2]
end Jvm.Own

namespace Jvm.Own
open Jvm Jvm.Free
/-! ## 8. Bits -/
theorem toNat_toInt (x : Int32) : (x.toBitVec.toNat : Int) = x.toInt % 4294967296 := by
  have h1 : x.toInt = x.toBitVec.toInt := rfl
  rw [h1, BitVec.toInt_eq_toNat_bmod]
  have h2 := x.toBitVec.isLt
  have h3 := Int.bmod_emod (x := (x.toBitVec.toNat : Int)) (m := 2 ^ 32)
  have h4 : ((2 ^ 32 : Nat) : Int) = 4294967296 := rfl
  rw [h4] at h3
  rw [h3]; omega
theorem and_mask (x m : Int32) (k : Nat) (hk : k < 31) (hm : m.toBitVec.toNat = 2 ^ k - 1) : (x &&& m).toInt = x.toInt % ((2 ^ k : Nat) : Int) := by
  have h1 : (x &&& m).toInt = (x.toBitVec &&& m.toBitVec).toInt := rfl
  have h2 : (x.toBitVec &&& m.toBitVec).toNat = x.toBitVec.toNat % 2 ^ k := by rw [BitVec.toNat_and, hm, Nat.and_two_pow_sub_one_eq_mod]
  have h3 : (2 ^ k : Nat) ≤ 2 ^ 30 := Nat.pow_le_pow_right (by decide) (by omega)
  have h4 : x.toBitVec.toNat % 2 ^ k < 2 ^ k := Nat.mod_lt _ (Nat.two_pow_pos k)
  have h5 : (2 ^ k : Nat) ∣ 4294967296 := ⟨2 ^ (32 - k), by rw [← Nat.pow_add]; have : k + (32 - k) = 32 := by omega
                                                            rw [this]⟩
  rw [h1, BitVec.toInt_eq_toNat_of_lt (by rw [h2]; omega), h2, Int.natCast_emod, toNat_toInt]
  exact Int.emod_emod_of_dvd _ (Int.natCast_dvd_natCast.mpr h5)
theorem sar_toInt (x y : Int32) (k : Nat) (hy : y.toBitVec.smod 32#32 = BitVec.ofNat 32 k) (hk : k < 32) : (x >>> y).toInt = x.toInt / ((2 ^ k : Nat) : Int) := by
  have h1 : (x >>> y).toInt = (x.toBitVec.sshiftRight' (y.toBitVec.smod 32#32)).toInt := rfl
  rw [h1, hy, BitVec.sshiftRight_eq', BitVec.toInt_sshiftRight, BitVec.toNat_ofNat, Nat.mod_eq_of_lt (by omega), Int.shiftRight_eq_div_pow]
  rfl
theorem ushr_pos (x y : Int32) (k : Nat) (hy : (y &&& 31).toBitVec.toNat = k) (hx : ¬ x < 0) : (XT.ushr x y).toInt = x.toInt / ((2 ^ k : Nat) : Int) := by
  have hx' : 0 ≤ x.toInt := by rw [lt_i] at hx; have z : (0 : Int32).toInt = 0 := rfl; omega
  have h0 : (x.toBitVec.toNat : Int) = x.toInt := by rw [toNat_toInt]; have := Int32.toInt_lt x; omega
  have hy' : k < 32 := by
    rw [← hy]
    have : (y &&& 31).toBitVec.toNat = y.toBitVec.toNat % 2 ^ 5 := by
      show (y.toBitVec &&& 31#32).toNat = _
      rw [BitVec.toNat_and]; exact Nat.and_two_pow_sub_one_eq_mod _ 5
    omega
  have h1 : (XT.ushr x y).toBitVec = x.toBitVec >>> k := by
    show x.toBitVec >>> ((y &&& 31).toBitVec % 32#32) = _
    rw [BitVec.ushiftRight_eq', BitVec.toNat_umod, hy]
    show x.toBitVec >>> (k % 32) = _
    rw [Nat.mod_eq_of_lt hy']
  have h2 : (x.toBitVec >>> k).toNat = x.toBitVec.toNat / 2 ^ k := by rw [BitVec.toNat_ushiftRight, Nat.shiftRight_eq_div_pow]
  have h3 : (XT.ushr x y).toInt = (x.toBitVec >>> k).toInt := by rw [← h1]; rfl
  have h4 : x.toBitVec.toNat / 2 ^ k ≤ x.toBitVec.toNat := Nat.div_le_self _ _
  rw [h3, BitVec.toInt_eq_toNat_of_lt (by rw [h2]; have := Int32.toInt_lt x; omega), h2, Int.natCast_ediv, h0]
end Jvm.Own
namespace Jvm.Pilot.@@N@@
open Jvm Jvm.ClassFile Sem Op Lib Jvm.Free Jvm.Stand Jvm.LawKit Jvm.RoadKit Bundle Jvm.Own Jvm.Pilot.@@N@@.Jvm.D
def OK (Z : State) (a0 : Array Value) : Prop := ∀ d ∈ tables_1, d.before a0 Z = true
theorem OK.w {Z : State} {a0 : Array Value} (H : OK Z a0) (i : Nat) {d : Jvm.Cond} (h : tables_1[i]? = some d) : d.before a0 Z = true := H _ (List.mem_of_getElem? h)
abbrev cdC : CD := ("RebaseLoader", [(0, "cap", "I"), (1, "maxRec", "I"), (2, "nSec", "I"), (3, "imgSize", "I"), (4, "nRec", "I"), (5, "state", "I"), (6, "baseAddr", "I"), (7, "pcReg", "I")], [], [(0, "secStart", "[I", .int, 4), (1, "secSize", "[I", .int, 4), (2, "raw", "[I", .int, 64), (3, "cur", "[I", .int, 64), (4, "taken", "[Z", .boolean, 64), (5, "recKind", "[I", .int, 32), (6, "recOff", "[I", .int, 32), (7, "recTarget", "[I", .int, 32), (8, "recLoOff", "[I", .int, 32), (9, "regs", "[I", .int, 8)])
theorem okcC : okC cdC := okC.of (by decide +kernel)
theorem mI_cap : (0, "cap", "I") ∈ cdC.2.1 := List.mem_of_getElem? (i := 0) rfl
theorem mI_maxRec : (1, "maxRec", "I") ∈ cdC.2.1 := List.mem_of_getElem? (i := 1) rfl
theorem mI_nSec : (2, "nSec", "I") ∈ cdC.2.1 := List.mem_of_getElem? (i := 2) rfl
theorem mI_imgSize : (3, "imgSize", "I") ∈ cdC.2.1 := List.mem_of_getElem? (i := 3) rfl
theorem mI_nRec : (4, "nRec", "I") ∈ cdC.2.1 := List.mem_of_getElem? (i := 4) rfl
theorem mI_state : (5, "state", "I") ∈ cdC.2.1 := List.mem_of_getElem? (i := 5) rfl
theorem mI_baseAddr : (6, "baseAddr", "I") ∈ cdC.2.1 := List.mem_of_getElem? (i := 6) rfl
theorem mI_pcReg : (7, "pcReg", "I") ∈ cdC.2.1 := List.mem_of_getElem? (i := 7) rfl
theorem mA_secStart : (0, "secStart", "[I", FieldType.int, (4 : Int32)) ∈ cdC.2.2.2 := List.mem_of_getElem? (i := 0) rfl
theorem mA_secSize : (1, "secSize", "[I", FieldType.int, (4 : Int32)) ∈ cdC.2.2.2 := List.mem_of_getElem? (i := 1) rfl
theorem mA_raw : (2, "raw", "[I", FieldType.int, (64 : Int32)) ∈ cdC.2.2.2 := List.mem_of_getElem? (i := 2) rfl
theorem mA_cur : (3, "cur", "[I", FieldType.int, (64 : Int32)) ∈ cdC.2.2.2 := List.mem_of_getElem? (i := 3) rfl
theorem mA_taken : (4, "taken", "[Z", FieldType.boolean, (64 : Int32)) ∈ cdC.2.2.2 := List.mem_of_getElem? (i := 4) rfl
theorem mA_recKind : (5, "recKind", "[I", FieldType.int, (32 : Int32)) ∈ cdC.2.2.2 := List.mem_of_getElem? (i := 5) rfl
theorem mA_recOff : (6, "recOff", "[I", FieldType.int, (32 : Int32)) ∈ cdC.2.2.2 := List.mem_of_getElem? (i := 6) rfl
theorem mA_recTarget : (7, "recTarget", "[I", FieldType.int, (32 : Int32)) ∈ cdC.2.2.2 := List.mem_of_getElem? (i := 7) rfl
theorem mA_recLoOff : (8, "recLoOff", "[I", FieldType.int, (32 : Int32)) ∈ cdC.2.2.2 := List.mem_of_getElem? (i := 8) rfl
theorem mA_regs : (9, "regs", "[I", FieldType.int, (8 : Int32)) ∈ cdC.2.2.2 := List.mem_of_getElem? (i := 9) rfl
theorem wf_secStart {Z : State} {a0 : Array Value} (H : OK Z a0) : (Cond.fieldLink "RebaseLoader" 7 "RebaseLoader" "secStart" "[I").before a0 Z = true := H.w 10 rfl
theorem wf_secSize {Z : State} {a0 : Array Value} (H : OK Z a0) : (Cond.fieldLink "RebaseLoader" 13 "RebaseLoader" "secSize" "[I").before a0 Z = true := H.w 12 rfl
theorem wf_raw {Z : State} {a0 : Array Value} (H : OK Z a0) : (Cond.fieldLink "RebaseLoader" 16 "RebaseLoader" "raw" "[I").before a0 Z = true := H.w 14 rfl
theorem wf_cur {Z : State} {a0 : Array Value} (H : OK Z a0) : (Cond.fieldLink "RebaseLoader" 19 "RebaseLoader" "cur" "[I").before a0 Z = true := H.w 16 rfl
theorem wf_taken {Z : State} {a0 : Array Value} (H : OK Z a0) : (Cond.fieldLink "RebaseLoader" 22 "RebaseLoader" "taken" "[Z").before a0 Z = true := H.w 19 rfl
theorem wf_recKind {Z : State} {a0 : Array Value} (H : OK Z a0) : (Cond.fieldLink "RebaseLoader" 26 "RebaseLoader" "recKind" "[I").before a0 Z = true := H.w 21 rfl
theorem wf_recOff {Z : State} {a0 : Array Value} (H : OK Z a0) : (Cond.fieldLink "RebaseLoader" 29 "RebaseLoader" "recOff" "[I").before a0 Z = true := H.w 23 rfl
theorem wf_recTarget {Z : State} {a0 : Array Value} (H : OK Z a0) : (Cond.fieldLink "RebaseLoader" 32 "RebaseLoader" "recTarget" "[I").before a0 Z = true := H.w 25 rfl
theorem wf_recLoOff {Z : State} {a0 : Array Value} (H : OK Z a0) : (Cond.fieldLink "RebaseLoader" 35 "RebaseLoader" "recLoOff" "[I").before a0 Z = true := H.w 27 rfl
theorem wf_regs {Z : State} {a0 : Array Value} (H : OK Z a0) : (Cond.fieldLink "RebaseLoader" 38 "RebaseLoader" "regs" "[I").before a0 Z = true := H.w 29 rfl
theorem wf_cap {Z : State} {a0 : Array Value} (H : OK Z a0) : (Cond.fieldLink "RebaseLoader" 45 "RebaseLoader" "cap" "I").before a0 Z = true := H.w 35 rfl
theorem wf_maxRec {Z : State} {a0 : Array Value} (H : OK Z a0) : (Cond.fieldLink "RebaseLoader" 49 "RebaseLoader" "maxRec" "I").before a0 Z = true := H.w 37 rfl
theorem wf_state {Z : State} {a0 : Array Value} (H : OK Z a0) : (Cond.fieldLink "RebaseLoader" 52 "RebaseLoader" "state" "I").before a0 Z = true := H.w 39 rfl
theorem wf_nSec {Z : State} {a0 : Array Value} (H : OK Z a0) : (Cond.fieldLink "RebaseLoader" 55 "RebaseLoader" "nSec" "I").before a0 Z = true := H.w 41 rfl
theorem wf_nRec {Z : State} {a0 : Array Value} (H : OK Z a0) : (Cond.fieldLink "RebaseLoader" 58 "RebaseLoader" "nRec" "I").before a0 Z = true := H.w 43 rfl
theorem wf_imgSize {Z : State} {a0 : Array Value} (H : OK Z a0) : (Cond.fieldLink "RebaseLoader" 61 "RebaseLoader" "imgSize" "I").before a0 Z = true := H.w 45 rfl
theorem wf_baseAddr {Z : State} {a0 : Array Value} (H : OK Z a0) : (Cond.fieldLink "RebaseLoader" 64 "RebaseLoader" "baseAddr" "I").before a0 Z = true := H.w 47 rfl
theorem wf_pcReg {Z : State} {a0 : Array Value} (H : OK Z a0) : (Cond.fieldLink "RebaseLoader" 67 "RebaseLoader" "pcReg" "I").before a0 Z = true := H.w 49 rfl
theorem wy_secStart {Z : State} {a0 : Array Value} (H : OK Z a0) : (Cond.lays "RebaseLoader" "RebaseLoader" "secStart" "[I").before a0 Z = true := H.w 11 rfl
theorem wy_secSize {Z : State} {a0 : Array Value} (H : OK Z a0) : (Cond.lays "RebaseLoader" "RebaseLoader" "secSize" "[I").before a0 Z = true := H.w 13 rfl
theorem wy_raw {Z : State} {a0 : Array Value} (H : OK Z a0) : (Cond.lays "RebaseLoader" "RebaseLoader" "raw" "[I").before a0 Z = true := H.w 15 rfl
theorem wy_cur {Z : State} {a0 : Array Value} (H : OK Z a0) : (Cond.lays "RebaseLoader" "RebaseLoader" "cur" "[I").before a0 Z = true := H.w 17 rfl
theorem wy_taken {Z : State} {a0 : Array Value} (H : OK Z a0) : (Cond.lays "RebaseLoader" "RebaseLoader" "taken" "[Z").before a0 Z = true := H.w 20 rfl
theorem wy_recKind {Z : State} {a0 : Array Value} (H : OK Z a0) : (Cond.lays "RebaseLoader" "RebaseLoader" "recKind" "[I").before a0 Z = true := H.w 22 rfl
theorem wy_recOff {Z : State} {a0 : Array Value} (H : OK Z a0) : (Cond.lays "RebaseLoader" "RebaseLoader" "recOff" "[I").before a0 Z = true := H.w 24 rfl
theorem wy_recTarget {Z : State} {a0 : Array Value} (H : OK Z a0) : (Cond.lays "RebaseLoader" "RebaseLoader" "recTarget" "[I").before a0 Z = true := H.w 26 rfl
theorem wy_recLoOff {Z : State} {a0 : Array Value} (H : OK Z a0) : (Cond.lays "RebaseLoader" "RebaseLoader" "recLoOff" "[I").before a0 Z = true := H.w 28 rfl
theorem wy_regs {Z : State} {a0 : Array Value} (H : OK Z a0) : (Cond.lays "RebaseLoader" "RebaseLoader" "regs" "[I").before a0 Z = true := H.w 30 rfl
theorem wy_cap {Z : State} {a0 : Array Value} (H : OK Z a0) : (Cond.lays "RebaseLoader" "RebaseLoader" "cap" "I").before a0 Z = true := H.w 36 rfl
theorem wy_maxRec {Z : State} {a0 : Array Value} (H : OK Z a0) : (Cond.lays "RebaseLoader" "RebaseLoader" "maxRec" "I").before a0 Z = true := H.w 38 rfl
theorem wy_state {Z : State} {a0 : Array Value} (H : OK Z a0) : (Cond.lays "RebaseLoader" "RebaseLoader" "state" "I").before a0 Z = true := H.w 40 rfl
theorem wy_nSec {Z : State} {a0 : Array Value} (H : OK Z a0) : (Cond.lays "RebaseLoader" "RebaseLoader" "nSec" "I").before a0 Z = true := H.w 42 rfl
theorem wy_nRec {Z : State} {a0 : Array Value} (H : OK Z a0) : (Cond.lays "RebaseLoader" "RebaseLoader" "nRec" "I").before a0 Z = true := H.w 44 rfl
theorem wy_imgSize {Z : State} {a0 : Array Value} (H : OK Z a0) : (Cond.lays "RebaseLoader" "RebaseLoader" "imgSize" "I").before a0 Z = true := H.w 46 rfl
theorem wy_baseAddr {Z : State} {a0 : Array Value} (H : OK Z a0) : (Cond.lays "RebaseLoader" "RebaseLoader" "baseAddr" "I").before a0 Z = true := H.w 48 rfl
theorem wy_pcReg {Z : State} {a0 : Array Value} (H : OK Z a0) : (Cond.lays "RebaseLoader" "RebaseLoader" "pcReg" "I").before a0 Z = true := H.w 50 rfl
theorem wa_int {Z : State} {a0 : Array Value} (H : OK Z a0) : (Cond.arrayClass (newarray.typeOf .int)).before a0 Z = true := H.w 9 rfl
theorem wa_boolean {Z : State} {a0 : Array Value} (H : OK Z a0) : (Cond.arrayClass (newarray.typeOf .boolean)).before a0 Z = true := H.w 18 rfl
theorem wz_C {Z : State} {a0 : Array Value} (H : OK Z a0) : (Cond.initialized "RebaseLoader").before a0 Z = true := H.w 2 rfl
theorem coC {Z : State} {a0 : Array Value} (H : OK Z a0) : CO Z a0 cdC := by
  refine ⟨⟨18, H.w 1 rfl⟩, ?_, ?_, ?_, okcC⟩
  · intro t m; simp only [cdC, List.mem_cons, List.not_mem_nil, or_false] at m
    rcases m with rfl | rfl | rfl | rfl | rfl | rfl | rfl | rfl
    · exact Or.inl (wy_cap H)
    · exact Or.inl (wy_maxRec H)
    · exact Or.inl (wy_nSec H)
    · exact Or.inl (wy_imgSize H)
    · exact Or.inl (wy_nRec H)
    · exact Or.inl (wy_state H)
    · exact Or.inl (wy_baseAddr H)
    · exact Or.inl (wy_pcReg H)
  · intro t m; cases m
  · intro t m; simp only [cdC, List.mem_cons, List.not_mem_nil, or_false] at m
    rcases m with rfl | rfl | rfl | rfl | rfl | rfl | rfl | rfl | rfl | rfl
    · exact Or.inl (wy_secStart H)
    · exact Or.inl (wy_secSize H)
    · exact Or.inl (wy_raw H)
    · exact Or.inl (wy_cur H)
    · exact Or.inl (wy_taken H)
    · exact Or.inl (wy_recKind H)
    · exact Or.inl (wy_recOff H)
    · exact Or.inl (wy_recTarget H)
    · exact Or.inl (wy_recLoOff H)
    · exact Or.inl (wy_regs H)
theorem mrC {Z : State} (en : Nat × Nat) (h : Heap) : (MoC Z cdC).frm en h h := frmC.refl _ _ _
theorem mtC {Z : State} (en : Nat × Nat) (h1 h2 h3 : Heap) (a : (MoC Z cdC).frm en h1 h2) (b : (MoC Z cdC).frm en h2 h3) : (MoC Z cdC).frm en h1 h3 := frmC.trans a b
theorem mrL {Z : State} (en : Nat × Nat) (h : Heap) : (MoL Z cdC "RebaseLoaderL2" false).frm en h h := trivial
theorem mtL {Z : State} (en : Nat × Nat) (h1 h2 h3 : Heap) (a : (MoL Z cdC "RebaseLoaderL2" false).frm en h1 h2) (b : (MoL Z cdC "RebaseLoaderL2" false).frm en h2 h3) : (MoL Z cdC "RebaseLoaderL2" false).frm en h1 h3 := trivial
theorem pn_RebaseLoader : plainName "RebaseLoader" = true := by first | (simp [plainName, overriddenIn]; done) | decide +kernel
theorem pn_RebaseLoaderL2 : plainName "RebaseLoaderL2" = true := by first | (simp [plainName, overriddenIn]; done) | decide +kernel
theorem pd___I : ∀ sig, parseMethodDescriptor "()I" = some sig → 0 = sig.parameters.length := fun sig h => by
  have q : parseMethodDescriptor "()I" = some ⟨[], some .int⟩ := by decide +kernel
  cases q.symm.trans h; rfl
theorem pd___V : ∀ sig, parseMethodDescriptor "()V" = some sig → 0 = sig.parameters.length := fun sig h => by
  have q : parseMethodDescriptor "()V" = some ⟨[], none⟩ := by decide +kernel
  cases q.symm.trans h; rfl
theorem pd__I_I : ∀ sig, parseMethodDescriptor "(I)I" = some sig → 1 = sig.parameters.length := fun sig h => by
  have q : parseMethodDescriptor "(I)I" = some ⟨[.int], some .int⟩ := by decide +kernel
  cases q.symm.trans h; rfl
theorem pd__I_Z : ∀ sig, parseMethodDescriptor "(I)Z" = some sig → 1 = sig.parameters.length := fun sig h => by
  have q : parseMethodDescriptor "(I)Z" = some ⟨[.int], some .boolean⟩ := by decide +kernel
  cases q.symm.trans h; rfl
theorem pd__II_I : ∀ sig, parseMethodDescriptor "(II)I" = some sig → 2 = sig.parameters.length := fun sig h => by
  have q : parseMethodDescriptor "(II)I" = some ⟨[.int, .int], some .int⟩ := by decide +kernel
  cases q.symm.trans h; rfl
theorem pd__II_V : ∀ sig, parseMethodDescriptor "(II)V" = some sig → 2 = sig.parameters.length := fun sig h => by
  have q : parseMethodDescriptor "(II)V" = some ⟨[.int, .int], none⟩ := by decide +kernel
  cases q.symm.trans h; rfl
theorem pd__III_I : ∀ sig, parseMethodDescriptor "(III)I" = some sig → 3 = sig.parameters.length := fun sig h => by
  have q : parseMethodDescriptor "(III)I" = some ⟨[.int, .int, .int], some .int⟩ := by decide +kernel
  cases q.symm.trans h; rfl
theorem pd__IIIII_Z : ∀ sig, parseMethodDescriptor "(IIIII)Z" = some sig → 5 = sig.parameters.length := fun sig h => by
  have q : parseMethodDescriptor "(IIIII)Z" = some ⟨[.int, .int, .int, .int, .int], some .boolean⟩ := by decide +kernel
  cases q.symm.trans h; rfl
abbrev md_init : MD := (⟨"RebaseLoader", "<init>", "(II)V"⟩, prog_1_method_1_code, 3, none, { frames := 1, cells := 10, slots := 336, locals := 16 }, 10)
theorem cv_init {Z : State} {a0 : Array Value} (H : OK Z a0) : CalI Z a0 md_init 2 := ⟨pn_RebaseLoader, by decide, pd__II_V, H.w 4 rfl, H.w 5 rfl, H.w 2 rfl, rfl, rfl⟩
theorem o_init_0 : InsA md_init 0 (.aload_n 0) 1 1 := ⟨by decide +kernel, rfl⟩
theorem o_init_1 : InsA md_init 1 (.invokespecial 1) 3 4 := ⟨by decide +kernel, rfl⟩
theorem o_init_4 : InsA md_init 4 (.aload_n 0) 1 5 := ⟨by decide +kernel, rfl⟩
theorem o_init_5 : InsA md_init 5 (.iconst 4) 1 6 := ⟨by decide +kernel, rfl⟩
theorem o_init_6 : InsA md_init 6 (.newarray .int) 2 8 := ⟨by decide +kernel, rfl⟩
theorem o_init_8 : InsA md_init 8 (.putfield 7) 3 11 := ⟨by decide +kernel, rfl⟩
theorem o_init_11 : InsA md_init 11 (.aload_n 0) 1 12 := ⟨by decide +kernel, rfl⟩
theorem o_init_12 : InsA md_init 12 (.iconst 4) 1 13 := ⟨by decide +kernel, rfl⟩
theorem o_init_13 : InsA md_init 13 (.newarray .int) 2 15 := ⟨by decide +kernel, rfl⟩
theorem o_init_15 : InsA md_init 15 (.putfield 13) 3 18 := ⟨by decide +kernel, rfl⟩
theorem o_init_18 : InsA md_init 18 (.aload_n 0) 1 19 := ⟨by decide +kernel, rfl⟩
theorem o_init_19 : InsA md_init 19 (.bipush 64) 2 21 := ⟨by decide +kernel, rfl⟩
theorem o_init_21 : InsA md_init 21 (.newarray .int) 2 23 := ⟨by decide +kernel, rfl⟩
theorem o_init_23 : InsA md_init 23 (.putfield 16) 3 26 := ⟨by decide +kernel, rfl⟩
theorem o_init_26 : InsA md_init 26 (.aload_n 0) 1 27 := ⟨by decide +kernel, rfl⟩
theorem o_init_27 : InsA md_init 27 (.bipush 64) 2 29 := ⟨by decide +kernel, rfl⟩
theorem o_init_29 : InsA md_init 29 (.newarray .int) 2 31 := ⟨by decide +kernel, rfl⟩
theorem o_init_31 : InsA md_init 31 (.putfield 19) 3 34 := ⟨by decide +kernel, rfl⟩
theorem o_init_34 : InsA md_init 34 (.aload_n 0) 1 35 := ⟨by decide +kernel, rfl⟩
theorem o_init_35 : InsA md_init 35 (.bipush 64) 2 37 := ⟨by decide +kernel, rfl⟩
theorem o_init_37 : InsA md_init 37 (.newarray .boolean) 2 39 := ⟨by decide +kernel, rfl⟩
theorem o_init_39 : InsA md_init 39 (.putfield 22) 3 42 := ⟨by decide +kernel, rfl⟩
theorem o_init_42 : InsA md_init 42 (.aload_n 0) 1 43 := ⟨by decide +kernel, rfl⟩
theorem o_init_43 : InsA md_init 43 (.bipush 32) 2 45 := ⟨by decide +kernel, rfl⟩
theorem o_init_45 : InsA md_init 45 (.newarray .int) 2 47 := ⟨by decide +kernel, rfl⟩
theorem o_init_47 : InsA md_init 47 (.putfield 26) 3 50 := ⟨by decide +kernel, rfl⟩
theorem o_init_50 : InsA md_init 50 (.aload_n 0) 1 51 := ⟨by decide +kernel, rfl⟩
theorem o_init_51 : InsA md_init 51 (.bipush 32) 2 53 := ⟨by decide +kernel, rfl⟩
theorem o_init_53 : InsA md_init 53 (.newarray .int) 2 55 := ⟨by decide +kernel, rfl⟩
theorem o_init_55 : InsA md_init 55 (.putfield 29) 3 58 := ⟨by decide +kernel, rfl⟩
theorem o_init_58 : InsA md_init 58 (.aload_n 0) 1 59 := ⟨by decide +kernel, rfl⟩
theorem o_init_59 : InsA md_init 59 (.bipush 32) 2 61 := ⟨by decide +kernel, rfl⟩
theorem o_init_61 : InsA md_init 61 (.newarray .int) 2 63 := ⟨by decide +kernel, rfl⟩
theorem o_init_63 : InsA md_init 63 (.putfield 32) 3 66 := ⟨by decide +kernel, rfl⟩
theorem o_init_66 : InsA md_init 66 (.aload_n 0) 1 67 := ⟨by decide +kernel, rfl⟩
theorem o_init_67 : InsA md_init 67 (.bipush 32) 2 69 := ⟨by decide +kernel, rfl⟩
theorem o_init_69 : InsA md_init 69 (.newarray .int) 2 71 := ⟨by decide +kernel, rfl⟩
theorem o_init_71 : InsA md_init 71 (.putfield 35) 3 74 := ⟨by decide +kernel, rfl⟩
theorem o_init_74 : InsA md_init 74 (.aload_n 0) 1 75 := ⟨by decide +kernel, rfl⟩
theorem o_init_75 : InsA md_init 75 (.bipush 8) 2 77 := ⟨by decide +kernel, rfl⟩
theorem o_init_77 : InsA md_init 77 (.newarray .int) 2 79 := ⟨by decide +kernel, rfl⟩
theorem o_init_79 : InsA md_init 79 (.putfield 38) 3 82 := ⟨by decide +kernel, rfl⟩
theorem o_init_82 : InsA md_init 82 (.aload_n 0) 1 83 := ⟨by decide +kernel, rfl⟩
theorem o_init_83 : InsA md_init 83 (.aload_n 0) 1 84 := ⟨by decide +kernel, rfl⟩
theorem o_init_84 : InsA md_init 84 (.iload_n 1) 1 85 := ⟨by decide +kernel, rfl⟩
theorem o_init_85 : InsA md_init 85 (.bipush 16) 2 87 := ⟨by decide +kernel, rfl⟩
theorem o_init_87 : InsA md_init 87 (.bipush 64) 2 89 := ⟨by decide +kernel, rfl⟩
theorem o_init_89 : InsA md_init 89 (.invokevirtual 41) 3 92 := ⟨by decide +kernel, rfl⟩
theorem o_init_92 : InsA md_init 92 (.putfield 45) 3 95 := ⟨by decide +kernel, rfl⟩
theorem o_init_95 : InsA md_init 95 (.aload_n 0) 1 96 := ⟨by decide +kernel, rfl⟩
theorem o_init_96 : InsA md_init 96 (.aload_n 0) 1 97 := ⟨by decide +kernel, rfl⟩
theorem o_init_97 : InsA md_init 97 (.iload_n 2) 1 98 := ⟨by decide +kernel, rfl⟩
theorem o_init_98 : InsA md_init 98 (.iconst 4) 1 99 := ⟨by decide +kernel, rfl⟩
theorem o_init_99 : InsA md_init 99 (.bipush 32) 2 101 := ⟨by decide +kernel, rfl⟩
theorem o_init_101 : InsA md_init 101 (.invokevirtual 41) 3 104 := ⟨by decide +kernel, rfl⟩
theorem o_init_104 : InsA md_init 104 (.putfield 49) 3 107 := ⟨by decide +kernel, rfl⟩
theorem o_init_107 : InsA md_init 107 (.aload_n 0) 1 108 := ⟨by decide +kernel, rfl⟩
theorem o_init_108 : InsA md_init 108 (.iconst 0) 1 109 := ⟨by decide +kernel, rfl⟩
theorem o_init_109 : InsA md_init 109 (.putfield 52) 3 112 := ⟨by decide +kernel, rfl⟩
theorem o_init_112 : InsA md_init 112 (.aload_n 0) 1 113 := ⟨by decide +kernel, rfl⟩
theorem o_init_113 : InsA md_init 113 (.iconst 0) 1 114 := ⟨by decide +kernel, rfl⟩
theorem o_init_114 : InsA md_init 114 (.putfield 55) 3 117 := ⟨by decide +kernel, rfl⟩
theorem o_init_117 : InsA md_init 117 (.aload_n 0) 1 118 := ⟨by decide +kernel, rfl⟩
theorem o_init_118 : InsA md_init 118 (.iconst 0) 1 119 := ⟨by decide +kernel, rfl⟩
theorem o_init_119 : InsA md_init 119 (.putfield 58) 3 122 := ⟨by decide +kernel, rfl⟩
theorem o_init_122 : InsA md_init 122 (.aload_n 0) 1 123 := ⟨by decide +kernel, rfl⟩
theorem o_init_123 : InsA md_init 123 (.iconst 0) 1 124 := ⟨by decide +kernel, rfl⟩
theorem o_init_124 : InsA md_init 124 (.putfield 61) 3 127 := ⟨by decide +kernel, rfl⟩
theorem o_init_127 : InsA md_init 127 (.aload_n 0) 1 128 := ⟨by decide +kernel, rfl⟩
theorem o_init_128 : InsA md_init 128 (.iconst 0) 1 129 := ⟨by decide +kernel, rfl⟩
theorem o_init_129 : InsA md_init 129 (.putfield 64) 3 132 := ⟨by decide +kernel, rfl⟩
theorem o_init_132 : InsA md_init 132 (.aload_n 0) 1 133 := ⟨by decide +kernel, rfl⟩
theorem o_init_133 : InsA md_init 133 (.iconst 0) 1 134 := ⟨by decide +kernel, rfl⟩
theorem o_init_134 : InsA md_init 134 (.putfield 67) 3 137 := ⟨by decide +kernel, rfl⟩
theorem o_init_137 : InsA md_init 137 (.return_) 1 138 := ⟨by decide +kernel, rfl⟩
abbrev md_clamp : MD := (⟨"RebaseLoader", "clamp", "(III)I"⟩, prog_1_method_2_code, 4, some .int, { frames := 0, cells := 0, slots := 0, locals := 0 }, 0)
theorem cv_clamp {Z : State} {a0 : Array Value} (H : OK Z a0) : CalV Z a0 md_clamp 3 := ⟨pn_RebaseLoader, by decide, pd__III_I, H.w 32 rfl, H.w 34 rfl, H.w 2 rfl, Or.inr ⟨H.w 33 rfl, 18, H.w 1 rfl⟩⟩
theorem o_clamp_0 : InsA md_clamp 0 (.iload_n 1) 1 1 := ⟨by decide +kernel, rfl⟩
theorem o_clamp_1 : InsA md_clamp 1 (.iload_n 2) 1 2 := ⟨by decide +kernel, rfl⟩
theorem o_clamp_2 : InsB md_clamp 2 (.if_icmp .ge 5) 3 5 (5) 7 := ⟨by decide +kernel, rfl, by decide, by decide⟩
theorem o_clamp_5 : InsA md_clamp 5 (.iload_n 2) 1 6 := ⟨by decide +kernel, rfl⟩
theorem o_clamp_6 : InsA md_clamp 6 (.ireturn) 1 7 := ⟨by decide +kernel, rfl⟩
theorem o_clamp_7 : InsA md_clamp 7 (.iload_n 1) 1 8 := ⟨by decide +kernel, rfl⟩
theorem o_clamp_8 : InsA md_clamp 8 (.iload_n 3) 1 9 := ⟨by decide +kernel, rfl⟩
theorem o_clamp_9 : InsB md_clamp 9 (.if_icmp .le 5) 3 12 (5) 14 := ⟨by decide +kernel, rfl, by decide, by decide⟩
theorem o_clamp_12 : InsA md_clamp 12 (.iload_n 3) 1 13 := ⟨by decide +kernel, rfl⟩
theorem o_clamp_13 : InsA md_clamp 13 (.ireturn) 1 14 := ⟨by decide +kernel, rfl⟩
theorem o_clamp_14 : InsA md_clamp 14 (.iload_n 1) 1 15 := ⟨by decide +kernel, rfl⟩
theorem o_clamp_15 : InsA md_clamp 15 (.ireturn) 1 16 := ⟨by decide +kernel, rfl⟩
abbrev md_addSection : MD := (⟨"RebaseLoader", "addSection", "(II)I"⟩, prog_1_method_12_code, 5, some .int, { frames := 1, cells := 0, slots := 0, locals := 15 }, 0)
theorem cv_addSection {Z : State} {a0 : Array Value} (H : OK Z a0) : CalV Z a0 md_addSection 2 := ⟨pn_RebaseLoader, by decide, pd__II_I, H.w 53 rfl, H.w 55 rfl, H.w 2 rfl, Or.inl ⟨H.w 52 rfl, H.w 54 rfl⟩⟩
theorem o_addSection_0 : InsA md_addSection 0 (.aload_n 0) 1 1 := ⟨by decide +kernel, rfl⟩
theorem o_addSection_1 : InsA md_addSection 1 (.getfield 52) 3 4 := ⟨by decide +kernel, rfl⟩
theorem o_addSection_4 : InsB md_addSection 4 (.ifCond .eq 5) 3 7 (5) 9 := ⟨by decide +kernel, rfl, by decide, by decide⟩
theorem o_addSection_7 : InsA md_addSection 7 (.iconst (-1)) 1 8 := ⟨by decide +kernel, rfl⟩
theorem o_addSection_8 : InsA md_addSection 8 (.ireturn) 1 9 := ⟨by decide +kernel, rfl⟩
theorem o_addSection_9 : InsA md_addSection 9 (.aload_n 0) 1 10 := ⟨by decide +kernel, rfl⟩
theorem o_addSection_10 : InsA md_addSection 10 (.getfield 55) 3 13 := ⟨by decide +kernel, rfl⟩
theorem o_addSection_13 : InsA md_addSection 13 (.iconst 4) 1 14 := ⟨by decide +kernel, rfl⟩
theorem o_addSection_14 : InsB md_addSection 14 (.if_icmp .lt 6) 3 17 (6) 20 := ⟨by decide +kernel, rfl, by decide, by decide⟩
theorem o_addSection_17 : InsA md_addSection 17 (.bipush (-3)) 2 19 := ⟨by decide +kernel, rfl⟩
theorem o_addSection_19 : InsA md_addSection 19 (.ireturn) 1 20 := ⟨by decide +kernel, rfl⟩
theorem o_addSection_20 : InsA md_addSection 20 (.iload_n 1) 1 21 := ⟨by decide +kernel, rfl⟩
theorem o_addSection_21 : InsA md_addSection 21 (.iconst 1) 1 22 := ⟨by decide +kernel, rfl⟩
theorem o_addSection_22 : InsB md_addSection 22 (.if_icmp .lt 11) 3 25 (11) 33 := ⟨by decide +kernel, rfl, by decide, by decide⟩
theorem o_addSection_25 : InsA md_addSection 25 (.aload_n 0) 1 26 := ⟨by decide +kernel, rfl⟩
theorem o_addSection_26 : InsA md_addSection 26 (.iload_n 2) 1 27 := ⟨by decide +kernel, rfl⟩
theorem o_addSection_27 : InsA md_addSection 27 (.invokevirtual 74) 3 30 := ⟨by decide +kernel, rfl⟩
theorem o_addSection_30 : InsB md_addSection 30 (.ifCond .ne 6) 3 33 (6) 36 := ⟨by decide +kernel, rfl, by decide, by decide⟩
theorem o_addSection_33 : InsA md_addSection 33 (.bipush (-2)) 2 35 := ⟨by decide +kernel, rfl⟩
theorem o_addSection_35 : InsA md_addSection 35 (.ireturn) 1 36 := ⟨by decide +kernel, rfl⟩
theorem o_addSection_36 : InsA md_addSection 36 (.aload_n 0) 1 37 := ⟨by decide +kernel, rfl⟩
theorem o_addSection_37 : InsA md_addSection 37 (.getfield 61) 3 40 := ⟨by decide +kernel, rfl⟩
theorem o_addSection_40 : InsA md_addSection 40 (.iload_n 2) 1 41 := ⟨by decide +kernel, rfl⟩
theorem o_addSection_41 : InsA md_addSection 41 (.iadd) 1 42 := ⟨by decide +kernel, rfl⟩
theorem o_addSection_42 : InsA md_addSection 42 (.iconst 1) 1 43 := ⟨by decide +kernel, rfl⟩
theorem o_addSection_43 : InsA md_addSection 43 (.isub) 1 44 := ⟨by decide +kernel, rfl⟩
theorem o_addSection_44 : InsA md_addSection 44 (.iload_n 2) 1 45 := ⟨by decide +kernel, rfl⟩
theorem o_addSection_45 : InsA md_addSection 45 (.iconst 1) 1 46 := ⟨by decide +kernel, rfl⟩
theorem o_addSection_46 : InsA md_addSection 46 (.isub) 1 47 := ⟨by decide +kernel, rfl⟩
theorem o_addSection_47 : InsA md_addSection 47 (.iconst (-1)) 1 48 := ⟨by decide +kernel, rfl⟩
theorem o_addSection_48 : InsA md_addSection 48 (.ixor) 1 49 := ⟨by decide +kernel, rfl⟩
theorem o_addSection_49 : InsA md_addSection 49 (.iand) 1 50 := ⟨by decide +kernel, rfl⟩
theorem o_addSection_50 : InsA md_addSection 50 (.istore_n 3) 1 51 := ⟨by decide +kernel, rfl⟩
theorem o_addSection_51 : InsA md_addSection 51 (.iload_n 1) 1 52 := ⟨by decide +kernel, rfl⟩
theorem o_addSection_52 : InsA md_addSection 52 (.aload_n 0) 1 53 := ⟨by decide +kernel, rfl⟩
theorem o_addSection_53 : InsA md_addSection 53 (.getfield 45) 3 56 := ⟨by decide +kernel, rfl⟩
theorem o_addSection_56 : InsA md_addSection 56 (.iload_n 3) 1 57 := ⟨by decide +kernel, rfl⟩
theorem o_addSection_57 : InsA md_addSection 57 (.isub) 1 58 := ⟨by decide +kernel, rfl⟩
theorem o_addSection_58 : InsB md_addSection 58 (.if_icmp .le 6) 3 61 (6) 64 := ⟨by decide +kernel, rfl, by decide, by decide⟩
theorem o_addSection_61 : InsA md_addSection 61 (.bipush (-3)) 2 63 := ⟨by decide +kernel, rfl⟩
theorem o_addSection_63 : InsA md_addSection 63 (.ireturn) 1 64 := ⟨by decide +kernel, rfl⟩
theorem o_addSection_64 : InsA md_addSection 64 (.aload_n 0) 1 65 := ⟨by decide +kernel, rfl⟩
theorem o_addSection_65 : InsA md_addSection 65 (.getfield 55) 3 68 := ⟨by decide +kernel, rfl⟩
theorem o_addSection_68 : InsA md_addSection 68 (.istore 4) 2 70 := ⟨by decide +kernel, rfl⟩
theorem o_addSection_70 : InsA md_addSection 70 (.aload_n 0) 1 71 := ⟨by decide +kernel, rfl⟩
theorem o_addSection_71 : InsA md_addSection 71 (.getfield 7) 3 74 := ⟨by decide +kernel, rfl⟩
theorem o_addSection_74 : InsA md_addSection 74 (.iload 4) 2 76 := ⟨by decide +kernel, rfl⟩
theorem o_addSection_76 : InsA md_addSection 76 (.iload_n 3) 1 77 := ⟨by decide +kernel, rfl⟩
theorem o_addSection_77 : InsA md_addSection 77 (.iastore) 1 78 := ⟨by decide +kernel, rfl⟩
theorem o_addSection_78 : InsA md_addSection 78 (.aload_n 0) 1 79 := ⟨by decide +kernel, rfl⟩
theorem o_addSection_79 : InsA md_addSection 79 (.getfield 13) 3 82 := ⟨by decide +kernel, rfl⟩
theorem o_addSection_82 : InsA md_addSection 82 (.iload 4) 2 84 := ⟨by decide +kernel, rfl⟩
theorem o_addSection_84 : InsA md_addSection 84 (.iload_n 1) 1 85 := ⟨by decide +kernel, rfl⟩
theorem o_addSection_85 : InsA md_addSection 85 (.iastore) 1 86 := ⟨by decide +kernel, rfl⟩
theorem o_addSection_86 : InsA md_addSection 86 (.aload_n 0) 1 87 := ⟨by decide +kernel, rfl⟩
theorem o_addSection_87 : InsA md_addSection 87 (.aload_n 0) 1 88 := ⟨by decide +kernel, rfl⟩
theorem o_addSection_88 : InsA md_addSection 88 (.getfield 55) 3 91 := ⟨by decide +kernel, rfl⟩
theorem o_addSection_91 : InsA md_addSection 91 (.iconst 1) 1 92 := ⟨by decide +kernel, rfl⟩
theorem o_addSection_92 : InsA md_addSection 92 (.iadd) 1 93 := ⟨by decide +kernel, rfl⟩
theorem o_addSection_93 : InsA md_addSection 93 (.putfield 55) 3 96 := ⟨by decide +kernel, rfl⟩
theorem o_addSection_96 : InsA md_addSection 96 (.aload_n 0) 1 97 := ⟨by decide +kernel, rfl⟩
theorem o_addSection_97 : InsA md_addSection 97 (.aload_n 0) 1 98 := ⟨by decide +kernel, rfl⟩
theorem o_addSection_98 : InsA md_addSection 98 (.getfield 61) 3 101 := ⟨by decide +kernel, rfl⟩
theorem o_addSection_101 : InsA md_addSection 101 (.iload_n 3) 1 102 := ⟨by decide +kernel, rfl⟩
theorem o_addSection_102 : InsA md_addSection 102 (.iload_n 1) 1 103 := ⟨by decide +kernel, rfl⟩
theorem o_addSection_103 : InsA md_addSection 103 (.iadd) 1 104 := ⟨by decide +kernel, rfl⟩
theorem o_addSection_104 : InsA md_addSection 104 (.invokevirtual 78) 3 107 := ⟨by decide +kernel, rfl⟩
theorem o_addSection_107 : InsA md_addSection 107 (.aload_n 0) 1 108 := ⟨by decide +kernel, rfl⟩
theorem o_addSection_108 : InsA md_addSection 108 (.iload_n 3) 1 109 := ⟨by decide +kernel, rfl⟩
theorem o_addSection_109 : InsA md_addSection 109 (.iload_n 1) 1 110 := ⟨by decide +kernel, rfl⟩
theorem o_addSection_110 : InsA md_addSection 110 (.iadd) 1 111 := ⟨by decide +kernel, rfl⟩
theorem o_addSection_111 : InsA md_addSection 111 (.putfield 61) 3 114 := ⟨by decide +kernel, rfl⟩
theorem o_addSection_114 : InsA md_addSection 114 (.iload 4) 2 116 := ⟨by decide +kernel, rfl⟩
theorem o_addSection_116 : InsA md_addSection 116 (.ireturn) 1 117 := ⟨by decide +kernel, rfl⟩
abbrev md_setWord : MD := (⟨"RebaseLoader", "setWord", "(II)I"⟩, prog_1_method_14_code, 4, some .int, { frames := 1, cells := 0, slots := 0, locals := 14 }, 0)
theorem cv_setWord {Z : State} {a0 : Array Value} (H : OK Z a0) : CalV Z a0 md_setWord 2 := ⟨pn_RebaseLoader, by decide, pd__II_I, H.w 58 rfl, H.w 60 rfl, H.w 2 rfl, Or.inl ⟨H.w 57 rfl, H.w 59 rfl⟩⟩
theorem o_setWord_0 : InsA md_setWord 0 (.aload_n 0) 1 1 := ⟨by decide +kernel, rfl⟩
theorem o_setWord_1 : InsA md_setWord 1 (.getfield 52) 3 4 := ⟨by decide +kernel, rfl⟩
theorem o_setWord_4 : InsB md_setWord 4 (.ifCond .eq 5) 3 7 (5) 9 := ⟨by decide +kernel, rfl, by decide, by decide⟩
theorem o_setWord_7 : InsA md_setWord 7 (.iconst (-1)) 1 8 := ⟨by decide +kernel, rfl⟩
theorem o_setWord_8 : InsA md_setWord 8 (.ireturn) 1 9 := ⟨by decide +kernel, rfl⟩
theorem o_setWord_9 : InsA md_setWord 9 (.aload_n 0) 1 10 := ⟨by decide +kernel, rfl⟩
theorem o_setWord_10 : InsA md_setWord 10 (.iload_n 1) 1 11 := ⟨by decide +kernel, rfl⟩
theorem o_setWord_11 : InsA md_setWord 11 (.invokevirtual 82) 3 14 := ⟨by decide +kernel, rfl⟩
theorem o_setWord_14 : InsB md_setWord 14 (.ifCond .ne 6) 3 17 (6) 20 := ⟨by decide +kernel, rfl, by decide, by decide⟩
theorem o_setWord_17 : InsA md_setWord 17 (.bipush (-2)) 2 19 := ⟨by decide +kernel, rfl⟩
theorem o_setWord_19 : InsA md_setWord 19 (.ireturn) 1 20 := ⟨by decide +kernel, rfl⟩
theorem o_setWord_20 : InsA md_setWord 20 (.aload_n 0) 1 21 := ⟨by decide +kernel, rfl⟩
theorem o_setWord_21 : InsA md_setWord 21 (.iload_n 1) 1 22 := ⟨by decide +kernel, rfl⟩
theorem o_setWord_22 : InsA md_setWord 22 (.invokevirtual 85) 3 25 := ⟨by decide +kernel, rfl⟩
theorem o_setWord_25 : InsA md_setWord 25 (.istore_n 3) 1 26 := ⟨by decide +kernel, rfl⟩
theorem o_setWord_26 : InsA md_setWord 26 (.aload_n 0) 1 27 := ⟨by decide +kernel, rfl⟩
theorem o_setWord_27 : InsA md_setWord 27 (.getfield 16) 3 30 := ⟨by decide +kernel, rfl⟩
theorem o_setWord_30 : InsA md_setWord 30 (.iload_n 3) 1 31 := ⟨by decide +kernel, rfl⟩
theorem o_setWord_31 : InsA md_setWord 31 (.iload_n 2) 1 32 := ⟨by decide +kernel, rfl⟩
theorem o_setWord_32 : InsA md_setWord 32 (.iastore) 1 33 := ⟨by decide +kernel, rfl⟩
theorem o_setWord_33 : InsA md_setWord 33 (.iconst 0) 1 34 := ⟨by decide +kernel, rfl⟩
theorem o_setWord_34 : InsA md_setWord 34 (.ireturn) 1 35 := ⟨by decide +kernel, rfl⟩
abbrev md_validPos : MD := (⟨"RebaseLoader", "validPos", "(I)Z"⟩, prog_1_method_8_code, 3, some .boolean, { frames := 0, cells := 0, slots := 0, locals := 0 }, 0)
theorem cv_validPos {Z : State} {a0 : Array Value} (H : OK Z a0) : CalV Z a0 md_validPos 1 := ⟨pn_RebaseLoader, by decide, pd__I_Z, H.w 62 rfl, H.w 64 rfl, H.w 2 rfl, Or.inr ⟨H.w 63 rfl, 18, H.w 1 rfl⟩⟩
theorem o_validPos_0 : InsA md_validPos 0 (.iload_n 1) 1 1 := ⟨by decide +kernel, rfl⟩
theorem o_validPos_1 : InsB md_validPos 1 (.ifCond .ge 5) 3 4 (5) 6 := ⟨by decide +kernel, rfl, by decide, by decide⟩
theorem o_validPos_4 : InsA md_validPos 4 (.iconst 0) 1 5 := ⟨by decide +kernel, rfl⟩
theorem o_validPos_5 : InsA md_validPos 5 (.ireturn) 1 6 := ⟨by decide +kernel, rfl⟩
theorem o_validPos_6 : InsA md_validPos 6 (.iload_n 1) 1 7 := ⟨by decide +kernel, rfl⟩
theorem o_validPos_7 : InsA md_validPos 7 (.bipush 8) 2 9 := ⟨by decide +kernel, rfl⟩
theorem o_validPos_9 : InsA md_validPos 9 (.ishr) 1 10 := ⟨by decide +kernel, rfl⟩
theorem o_validPos_10 : InsA md_validPos 10 (.istore_n 2) 1 11 := ⟨by decide +kernel, rfl⟩
theorem o_validPos_11 : InsA md_validPos 11 (.iload_n 2) 1 12 := ⟨by decide +kernel, rfl⟩
theorem o_validPos_12 : InsA md_validPos 12 (.aload_n 0) 1 13 := ⟨by decide +kernel, rfl⟩
theorem o_validPos_13 : InsA md_validPos 13 (.getfield 55) 3 16 := ⟨by decide +kernel, rfl⟩
theorem o_validPos_16 : InsB md_validPos 16 (.if_icmp .lt 5) 3 19 (5) 21 := ⟨by decide +kernel, rfl, by decide, by decide⟩
theorem o_validPos_19 : InsA md_validPos 19 (.iconst 0) 1 20 := ⟨by decide +kernel, rfl⟩
theorem o_validPos_20 : InsA md_validPos 20 (.ireturn) 1 21 := ⟨by decide +kernel, rfl⟩
theorem o_validPos_21 : InsA md_validPos 21 (.iload_n 1) 1 22 := ⟨by decide +kernel, rfl⟩
theorem o_validPos_22 : InsA md_validPos 22 (.sipush 255) 3 25 := ⟨by decide +kernel, rfl⟩
theorem o_validPos_25 : InsA md_validPos 25 (.iand) 1 26 := ⟨by decide +kernel, rfl⟩
theorem o_validPos_26 : InsA md_validPos 26 (.aload_n 0) 1 27 := ⟨by decide +kernel, rfl⟩
theorem o_validPos_27 : InsA md_validPos 27 (.getfield 13) 3 30 := ⟨by decide +kernel, rfl⟩
theorem o_validPos_30 : InsA md_validPos 30 (.iload_n 2) 1 31 := ⟨by decide +kernel, rfl⟩
theorem o_validPos_31 : InsA md_validPos 31 (.iaload) 1 32 := ⟨by decide +kernel, rfl⟩
theorem o_validPos_32 : InsB md_validPos 32 (.if_icmp .ge 7) 3 35 (7) 39 := ⟨by decide +kernel, rfl, by decide, by decide⟩
theorem o_validPos_35 : InsA md_validPos 35 (.iconst 1) 1 36 := ⟨by decide +kernel, rfl⟩
theorem o_validPos_36 : InsB md_validPos 36 (.goto 4) 3 39 (4) 40 := ⟨by decide +kernel, rfl, by decide, by decide⟩
theorem o_validPos_39 : InsA md_validPos 39 (.iconst 0) 1 40 := ⟨by decide +kernel, rfl⟩
theorem o_validPos_40 : InsA md_validPos 40 (.ireturn) 1 41 := ⟨by decide +kernel, rfl⟩
abbrev md_peek : MD := (⟨"RebaseLoader", "peek", "(I)I"⟩, prog_1_method_26_code, 2, some .int, { frames := 0, cells := 0, slots := 0, locals := 0 }, 0)
theorem cv_peek {Z : State} {a0 : Array Value} (H : OK Z a0) : CalV Z a0 md_peek 1 := ⟨pn_RebaseLoader, by decide, pd__I_I, H.w 67 rfl, H.w 69 rfl, H.w 2 rfl, Or.inl ⟨H.w 66 rfl, H.w 68 rfl⟩⟩
theorem o_peek_0 : InsA md_peek 0 (.iload_n 1) 1 1 := ⟨by decide +kernel, rfl⟩
theorem o_peek_1 : InsB md_peek 1 (.ifCond .lt 17) 3 4 (17) 18 := ⟨by decide +kernel, rfl, by decide, by decide⟩
theorem o_peek_4 : InsA md_peek 4 (.iload_n 1) 1 5 := ⟨by decide +kernel, rfl⟩
theorem o_peek_5 : InsA md_peek 5 (.aload_n 0) 1 6 := ⟨by decide +kernel, rfl⟩
theorem o_peek_6 : InsA md_peek 6 (.getfield 61) 3 9 := ⟨by decide +kernel, rfl⟩
theorem o_peek_9 : InsB md_peek 9 (.if_icmp .ge 9) 3 12 (9) 18 := ⟨by decide +kernel, rfl, by decide, by decide⟩
theorem o_peek_12 : InsA md_peek 12 (.iload_n 1) 1 13 := ⟨by decide +kernel, rfl⟩
theorem o_peek_13 : InsA md_peek 13 (.bipush 64) 2 15 := ⟨by decide +kernel, rfl⟩
theorem o_peek_15 : InsB md_peek 15 (.if_icmp .lt 5) 3 18 (5) 20 := ⟨by decide +kernel, rfl, by decide, by decide⟩
theorem o_peek_18 : InsA md_peek 18 (.iconst 0) 1 19 := ⟨by decide +kernel, rfl⟩
theorem o_peek_19 : InsA md_peek 19 (.ireturn) 1 20 := ⟨by decide +kernel, rfl⟩
theorem o_peek_20 : InsA md_peek 20 (.aload_n 0) 1 21 := ⟨by decide +kernel, rfl⟩
theorem o_peek_21 : InsA md_peek 21 (.getfield 52) 3 24 := ⟨by decide +kernel, rfl⟩
theorem o_peek_24 : InsB md_peek 24 (.ifCond .ne 10) 3 27 (10) 34 := ⟨by decide +kernel, rfl, by decide, by decide⟩
theorem o_peek_27 : InsA md_peek 27 (.aload_n 0) 1 28 := ⟨by decide +kernel, rfl⟩
theorem o_peek_28 : InsA md_peek 28 (.getfield 16) 3 31 := ⟨by decide +kernel, rfl⟩
theorem o_peek_31 : InsA md_peek 31 (.iload_n 1) 1 32 := ⟨by decide +kernel, rfl⟩
theorem o_peek_32 : InsA md_peek 32 (.iaload) 1 33 := ⟨by decide +kernel, rfl⟩
theorem o_peek_33 : InsA md_peek 33 (.ireturn) 1 34 := ⟨by decide +kernel, rfl⟩
theorem o_peek_34 : InsA md_peek 34 (.aload_n 0) 1 35 := ⟨by decide +kernel, rfl⟩
theorem o_peek_35 : InsA md_peek 35 (.getfield 19) 3 38 := ⟨by decide +kernel, rfl⟩
theorem o_peek_38 : InsA md_peek 38 (.iload_n 1) 1 39 := ⟨by decide +kernel, rfl⟩
theorem o_peek_39 : InsA md_peek 39 (.iaload) 1 40 := ⟨by decide +kernel, rfl⟩
theorem o_peek_40 : InsA md_peek 40 (.ireturn) 1 41 := ⟨by decide +kernel, rfl⟩
abbrev md_imageSize : MD := (⟨"RebaseLoader", "imageSize", "()I"⟩, prog_1_method_27_code, 1, some .int, { frames := 0, cells := 0, slots := 0, locals := 0 }, 0)
theorem cv_imageSize {Z : State} {a0 : Array Value} (H : OK Z a0) : CalV Z a0 md_imageSize 0 := ⟨pn_RebaseLoader, by decide, pd___I, H.w 72 rfl, H.w 74 rfl, H.w 2 rfl, Or.inl ⟨H.w 71 rfl, H.w 73 rfl⟩⟩
theorem o_imageSize_0 : InsA md_imageSize 0 (.aload_n 0) 1 1 := ⟨by decide +kernel, rfl⟩
theorem o_imageSize_1 : InsA md_imageSize 1 (.getfield 61) 3 4 := ⟨by decide +kernel, rfl⟩
theorem o_imageSize_4 : InsA md_imageSize 4 (.ireturn) 1 5 := ⟨by decide +kernel, rfl⟩
abbrev md_status : MD := (⟨"RebaseLoader", "status", "()I"⟩, prog_1_method_34_code, 1, some .int, { frames := 0, cells := 0, slots := 0, locals := 0 }, 0)
theorem cv_status {Z : State} {a0 : Array Value} (H : OK Z a0) : CalV Z a0 md_status 0 := ⟨pn_RebaseLoader, by decide, pd___I, H.w 77 rfl, H.w 79 rfl, H.w 2 rfl, Or.inl ⟨H.w 76 rfl, H.w 78 rfl⟩⟩
theorem o_status_0 : InsA md_status 0 (.aload_n 0) 1 1 := ⟨by decide +kernel, rfl⟩
theorem o_status_1 : InsA md_status 1 (.getfield 52) 3 4 := ⟨by decide +kernel, rfl⟩
theorem o_status_4 : InsA md_status 4 (.ireturn) 1 5 := ⟨by decide +kernel, rfl⟩
abbrev md_validAlign : MD := (⟨"RebaseLoader", "validAlign", "(I)Z"⟩, prog_1_method_7_code, 2, some .boolean, { frames := 0, cells := 0, slots := 0, locals := 0 }, 0)
theorem cv_validAlign {Z : State} {a0 : Array Value} (H : OK Z a0) : CalV Z a0 md_validAlign 1 := ⟨pn_RebaseLoader, by decide, pd__I_Z, H.w 81 rfl, H.w 83 rfl, H.w 2 rfl, Or.inr ⟨H.w 82 rfl, 18, H.w 1 rfl⟩⟩
theorem o_validAlign_0 : InsA md_validAlign 0 (.iload_n 1) 1 1 := ⟨by decide +kernel, rfl⟩
theorem o_validAlign_1 : InsA md_validAlign 1 (.iconst 1) 1 2 := ⟨by decide +kernel, rfl⟩
theorem o_validAlign_2 : InsB md_validAlign 2 (.if_icmp .eq 25) 3 5 (25) 27 := ⟨by decide +kernel, rfl, by decide, by decide⟩
theorem o_validAlign_5 : InsA md_validAlign 5 (.iload_n 1) 1 6 := ⟨by decide +kernel, rfl⟩
theorem o_validAlign_6 : InsA md_validAlign 6 (.iconst 2) 1 7 := ⟨by decide +kernel, rfl⟩
theorem o_validAlign_7 : InsB md_validAlign 7 (.if_icmp .eq 20) 3 10 (20) 27 := ⟨by decide +kernel, rfl, by decide, by decide⟩
theorem o_validAlign_10 : InsA md_validAlign 10 (.iload_n 1) 1 11 := ⟨by decide +kernel, rfl⟩
theorem o_validAlign_11 : InsA md_validAlign 11 (.iconst 4) 1 12 := ⟨by decide +kernel, rfl⟩
theorem o_validAlign_12 : InsB md_validAlign 12 (.if_icmp .eq 15) 3 15 (15) 27 := ⟨by decide +kernel, rfl, by decide, by decide⟩
theorem o_validAlign_15 : InsA md_validAlign 15 (.iload_n 1) 1 16 := ⟨by decide +kernel, rfl⟩
theorem o_validAlign_16 : InsA md_validAlign 16 (.bipush 8) 2 18 := ⟨by decide +kernel, rfl⟩
theorem o_validAlign_18 : InsB md_validAlign 18 (.if_icmp .eq 9) 3 21 (9) 27 := ⟨by decide +kernel, rfl, by decide, by decide⟩
theorem o_validAlign_21 : InsA md_validAlign 21 (.iload_n 1) 1 22 := ⟨by decide +kernel, rfl⟩
theorem o_validAlign_22 : InsA md_validAlign 22 (.bipush 16) 2 24 := ⟨by decide +kernel, rfl⟩
theorem o_validAlign_24 : InsB md_validAlign 24 (.if_icmp .ne 7) 3 27 (7) 31 := ⟨by decide +kernel, rfl, by decide, by decide⟩
theorem o_validAlign_27 : InsA md_validAlign 27 (.iconst 1) 1 28 := ⟨by decide +kernel, rfl⟩
theorem o_validAlign_28 : InsB md_validAlign 28 (.goto 4) 3 31 (4) 32 := ⟨by decide +kernel, rfl, by decide, by decide⟩
theorem o_validAlign_31 : InsA md_validAlign 31 (.iconst 0) 1 32 := ⟨by decide +kernel, rfl⟩
theorem o_validAlign_32 : InsA md_validAlign 32 (.ireturn) 1 33 := ⟨by decide +kernel, rfl⟩
abbrev md_clearWords : MD := (⟨"RebaseLoader", "clearWords", "(II)V"⟩, prog_1_method_13_code, 4, none, { frames := 0, cells := 0, slots := 0, locals := 0 }, 0)
theorem cv_clearWords {Z : State} {a0 : Array Value} (H : OK Z a0) : CalV Z a0 md_clearWords 2 := ⟨pn_RebaseLoader, by decide, pd__II_V, H.w 85 rfl, H.w 87 rfl, H.w 2 rfl, Or.inr ⟨H.w 86 rfl, 18, H.w 1 rfl⟩⟩
theorem o_clearWords_0 : InsA md_clearWords 0 (.iload_n 1) 1 1 := ⟨by decide +kernel, rfl⟩
theorem o_clearWords_1 : InsA md_clearWords 1 (.istore_n 3) 1 2 := ⟨by decide +kernel, rfl⟩
theorem o_clearWords_2 : InsA md_clearWords 2 (.iload_n 3) 1 3 := ⟨by decide +kernel, rfl⟩
theorem o_clearWords_3 : InsA md_clearWords 3 (.iload_n 2) 1 4 := ⟨by decide +kernel, rfl⟩
theorem o_clearWords_4 : InsB md_clearWords 4 (.if_icmp .ge 40) 3 7 (40) 44 := ⟨by decide +kernel, rfl, by decide, by decide⟩
theorem o_clearWords_7 : InsA md_clearWords 7 (.iload_n 3) 1 8 := ⟨by decide +kernel, rfl⟩
theorem o_clearWords_8 : InsA md_clearWords 8 (.bipush 64) 2 10 := ⟨by decide +kernel, rfl⟩
theorem o_clearWords_10 : InsB md_clearWords 10 (.if_icmp .ge 34) 3 13 (34) 44 := ⟨by decide +kernel, rfl, by decide, by decide⟩
theorem o_clearWords_13 : InsA md_clearWords 13 (.iload_n 3) 1 14 := ⟨by decide +kernel, rfl⟩
theorem o_clearWords_14 : InsB md_clearWords 14 (.ifCond .lt 24) 3 17 (24) 38 := ⟨by decide +kernel, rfl, by decide, by decide⟩
theorem o_clearWords_17 : InsA md_clearWords 17 (.aload_n 0) 1 18 := ⟨by decide +kernel, rfl⟩
theorem o_clearWords_18 : InsA md_clearWords 18 (.getfield 16) 3 21 := ⟨by decide +kernel, rfl⟩
theorem o_clearWords_21 : InsA md_clearWords 21 (.iload_n 3) 1 22 := ⟨by decide +kernel, rfl⟩
theorem o_clearWords_22 : InsA md_clearWords 22 (.iconst 0) 1 23 := ⟨by decide +kernel, rfl⟩
theorem o_clearWords_23 : InsA md_clearWords 23 (.iastore) 1 24 := ⟨by decide +kernel, rfl⟩
theorem o_clearWords_24 : InsA md_clearWords 24 (.aload_n 0) 1 25 := ⟨by decide +kernel, rfl⟩
theorem o_clearWords_25 : InsA md_clearWords 25 (.getfield 19) 3 28 := ⟨by decide +kernel, rfl⟩
theorem o_clearWords_28 : InsA md_clearWords 28 (.iload_n 3) 1 29 := ⟨by decide +kernel, rfl⟩
theorem o_clearWords_29 : InsA md_clearWords 29 (.iconst 0) 1 30 := ⟨by decide +kernel, rfl⟩
theorem o_clearWords_30 : InsA md_clearWords 30 (.iastore) 1 31 := ⟨by decide +kernel, rfl⟩
theorem o_clearWords_31 : InsA md_clearWords 31 (.aload_n 0) 1 32 := ⟨by decide +kernel, rfl⟩
theorem o_clearWords_32 : InsA md_clearWords 32 (.getfield 22) 3 35 := ⟨by decide +kernel, rfl⟩
theorem o_clearWords_35 : InsA md_clearWords 35 (.iload_n 3) 1 36 := ⟨by decide +kernel, rfl⟩
theorem o_clearWords_36 : InsA md_clearWords 36 (.iconst 0) 1 37 := ⟨by decide +kernel, rfl⟩
theorem o_clearWords_37 : InsA md_clearWords 37 (.bastore) 1 38 := ⟨by decide +kernel, rfl⟩
theorem o_clearWords_38 : InsA md_clearWords 38 (.iinc 3 1) 3 41 := ⟨by decide +kernel, rfl⟩
theorem o_clearWords_41 : InsB md_clearWords 41 (.goto (-39)) 3 44 (-39) 2 := ⟨by decide +kernel, rfl, by decide, by decide⟩
theorem o_clearWords_44 : InsA md_clearWords 44 (.return_) 1 45 := ⟨by decide +kernel, rfl⟩
abbrev md_offsetOf : MD := (⟨"RebaseLoader", "offsetOf", "(I)I"⟩, prog_1_method_9_code, 2, some .int, { frames := 0, cells := 0, slots := 0, locals := 0 }, 0)
theorem cv_offsetOf {Z : State} {a0 : Array Value} (H : OK Z a0) : CalV Z a0 md_offsetOf 1 := ⟨pn_RebaseLoader, by decide, pd__I_I, H.w 89 rfl, H.w 91 rfl, H.w 2 rfl, Or.inr ⟨H.w 90 rfl, 18, H.w 1 rfl⟩⟩
theorem o_offsetOf_0 : InsA md_offsetOf 0 (.aload_n 0) 1 1 := ⟨by decide +kernel, rfl⟩
theorem o_offsetOf_1 : InsA md_offsetOf 1 (.getfield 7) 3 4 := ⟨by decide +kernel, rfl⟩
theorem o_offsetOf_4 : InsA md_offsetOf 4 (.iload_n 1) 1 5 := ⟨by decide +kernel, rfl⟩
theorem o_offsetOf_5 : InsA md_offsetOf 5 (.bipush 8) 2 7 := ⟨by decide +kernel, rfl⟩
theorem o_offsetOf_7 : InsA md_offsetOf 7 (.ishr) 1 8 := ⟨by decide +kernel, rfl⟩
theorem o_offsetOf_8 : InsA md_offsetOf 8 (.iaload) 1 9 := ⟨by decide +kernel, rfl⟩
theorem o_offsetOf_9 : InsA md_offsetOf 9 (.iload_n 1) 1 10 := ⟨by decide +kernel, rfl⟩
theorem o_offsetOf_10 : InsA md_offsetOf 10 (.sipush 255) 3 13 := ⟨by decide +kernel, rfl⟩
theorem o_offsetOf_13 : InsA md_offsetOf 13 (.iand) 1 14 := ⟨by decide +kernel, rfl⟩
theorem o_offsetOf_14 : InsA md_offsetOf 14 (.iadd) 1 15 := ⟨by decide +kernel, rfl⟩
theorem o_offsetOf_15 : InsA md_offsetOf 15 (.ireturn) 1 16 := ⟨by decide +kernel, rfl⟩
abbrev md_L_law : MD := (x, code, maxLocals, ret, room_1, 11)
theorem o_L_law_0 : InsA md_L_law 0 (.new 7) 3 3 := ⟨at_0, rfl⟩
theorem o_L_law_3 : InsA md_L_law 3 (.dup) 1 4 := ⟨at_3, rfl⟩
theorem o_L_law_4 : InsA md_L_law 4 (.bipush 64) 2 6 := ⟨at_4, rfl⟩
theorem o_L_law_6 : InsA md_L_law 6 (.iconst 4) 1 7 := ⟨at_6, rfl⟩
theorem o_L_law_7 : InsA md_L_law 7 (.invokespecial 9) 3 10 := ⟨at_7, rfl⟩
theorem o_L_law_10 : InsA md_L_law 10 (.astore 5) 2 12 := ⟨at_10, rfl⟩
theorem o_L_law_12 : InsA md_L_law 12 (.iload_n 0) 1 13 := ⟨at_12, rfl⟩
theorem o_L_law_13 : InsA md_L_law 13 (.iconst 1) 1 14 := ⟨at_13, rfl⟩
theorem o_L_law_14 : InsB md_L_law 14 (.if_icmp .lt 13) 3 17 (13) 27 := ⟨at_14, rfl, by decide, by decide⟩
theorem o_L_law_17 : InsA md_L_law 17 (.iload_n 0) 1 18 := ⟨at_17, rfl⟩
theorem o_L_law_18 : InsA md_L_law 18 (.bipush 64) 2 20 := ⟨at_18, rfl⟩
theorem o_L_law_20 : InsB md_L_law 20 (.if_icmp .gt 7) 3 23 (7) 27 := ⟨at_20, rfl, by decide, by decide⟩
theorem o_L_law_23 : InsA md_L_law 23 (.iconst 1) 1 24 := ⟨at_23, rfl⟩
theorem o_L_law_24 : InsB md_L_law 24 (.goto 4) 3 27 (4) 28 := ⟨at_24, rfl, by decide, by decide⟩
theorem o_L_law_27 : InsA md_L_law 27 (.iconst 0) 1 28 := ⟨at_27, rfl⟩
theorem o_L_law_28 : InsA md_L_law 28 (.istore 6) 2 30 := ⟨at_28, rfl⟩
theorem o_L_law_30 : InsA md_L_law 30 (.iload_n 0) 1 31 := ⟨at_30, rfl⟩
theorem o_L_law_31 : InsA md_L_law 31 (.iconst 1) 1 32 := ⟨at_31, rfl⟩
theorem o_L_law_32 : InsB md_L_law 32 (.if_icmp .ge 8) 3 35 (8) 40 := ⟨at_32, rfl, by decide, by decide⟩
theorem o_L_law_35 : InsA md_L_law 35 (.bipush (-2)) 2 37 := ⟨at_35, rfl⟩
theorem o_L_law_37 : InsB md_L_law 37 (.goto 15) 3 40 (15) 52 := ⟨at_37, rfl, by decide, by decide⟩
theorem o_L_law_40 : InsA md_L_law 40 (.iload_n 0) 1 41 := ⟨at_40, rfl⟩
theorem o_L_law_41 : InsA md_L_law 41 (.bipush 64) 2 43 := ⟨at_41, rfl⟩
theorem o_L_law_43 : InsB md_L_law 43 (.if_icmp .le 8) 3 46 (8) 51 := ⟨at_43, rfl, by decide, by decide⟩
theorem o_L_law_46 : InsA md_L_law 46 (.bipush (-3)) 2 48 := ⟨at_46, rfl⟩
theorem o_L_law_48 : InsB md_L_law 48 (.goto 4) 3 51 (4) 52 := ⟨at_48, rfl, by decide, by decide⟩
theorem o_L_law_51 : InsA md_L_law 51 (.iconst 0) 1 52 := ⟨at_51, rfl⟩
theorem o_L_law_52 : InsA md_L_law 52 (.istore 7) 2 54 := ⟨at_52, rfl⟩
theorem o_L_law_54 : InsA md_L_law 54 (.aload 5) 2 56 := ⟨at_54, rfl⟩
theorem o_L_law_56 : InsA md_L_law 56 (.iload_n 0) 1 57 := ⟨at_56, rfl⟩
theorem o_L_law_57 : InsA md_L_law 57 (.iconst 1) 1 58 := ⟨at_57, rfl⟩
theorem o_L_law_58 : InsA md_L_law 58 (.invokevirtual 12) 3 61 := ⟨at_58, rfl⟩
theorem o_L_law_61 : InsA md_L_law 61 (.iload 7) 2 63 := ⟨at_61, rfl⟩
theorem o_L_law_63 : InsB md_L_law 63 (.if_icmp .eq 5) 3 66 (5) 68 := ⟨at_63, rfl, by decide, by decide⟩
theorem o_L_law_66 : InsA md_L_law 66 (.iconst 0) 1 67 := ⟨at_66, rfl⟩
theorem o_L_law_67 : InsA md_L_law 67 (.ireturn) 1 68 := ⟨at_67, rfl⟩
theorem o_L_law_68 : InsA md_L_law 68 (.iload 6) 2 70 := ⟨at_68, rfl⟩
theorem o_L_law_70 : InsB md_L_law 70 (.ifCond .eq 16) 3 73 (16) 86 := ⟨at_70, rfl, by decide, by decide⟩
theorem o_L_law_73 : InsA md_L_law 73 (.iload_n 1) 1 74 := ⟨at_73, rfl⟩
theorem o_L_law_74 : InsB md_L_law 74 (.ifCond .lt 12) 3 77 (12) 86 := ⟨at_74, rfl, by decide, by decide⟩
theorem o_L_law_77 : InsA md_L_law 77 (.iload_n 1) 1 78 := ⟨at_77, rfl⟩
theorem o_L_law_78 : InsA md_L_law 78 (.iload_n 0) 1 79 := ⟨at_78, rfl⟩
theorem o_L_law_79 : InsB md_L_law 79 (.if_icmp .ge 7) 3 82 (7) 86 := ⟨at_79, rfl, by decide, by decide⟩
theorem o_L_law_82 : InsA md_L_law 82 (.iconst 1) 1 83 := ⟨at_82, rfl⟩
theorem o_L_law_83 : InsB md_L_law 83 (.goto 4) 3 86 (4) 87 := ⟨at_83, rfl, by decide, by decide⟩
theorem o_L_law_86 : InsA md_L_law 86 (.iconst 0) 1 87 := ⟨at_86, rfl⟩
theorem o_L_law_87 : InsA md_L_law 87 (.istore 8) 2 89 := ⟨at_87, rfl⟩
theorem o_L_law_89 : InsA md_L_law 89 (.iload 6) 2 91 := ⟨at_89, rfl⟩
theorem o_L_law_91 : InsB md_L_law 91 (.ifCond .eq 16) 3 94 (16) 107 := ⟨at_91, rfl, by decide, by decide⟩
theorem o_L_law_94 : InsA md_L_law 94 (.iload_n 3) 1 95 := ⟨at_94, rfl⟩
theorem o_L_law_95 : InsB md_L_law 95 (.ifCond .lt 12) 3 98 (12) 107 := ⟨at_95, rfl, by decide, by decide⟩
theorem o_L_law_98 : InsA md_L_law 98 (.iload_n 3) 1 99 := ⟨at_98, rfl⟩
theorem o_L_law_99 : InsA md_L_law 99 (.iload_n 0) 1 100 := ⟨at_99, rfl⟩
theorem o_L_law_100 : InsB md_L_law 100 (.if_icmp .ge 7) 3 103 (7) 107 := ⟨at_100, rfl, by decide, by decide⟩
theorem o_L_law_103 : InsA md_L_law 103 (.iconst 1) 1 104 := ⟨at_103, rfl⟩
theorem o_L_law_104 : InsB md_L_law 104 (.goto 4) 3 107 (4) 108 := ⟨at_104, rfl, by decide, by decide⟩
theorem o_L_law_107 : InsA md_L_law 107 (.iconst 0) 1 108 := ⟨at_107, rfl⟩
theorem o_L_law_108 : InsA md_L_law 108 (.istore 9) 2 110 := ⟨at_108, rfl⟩
theorem o_L_law_110 : InsA md_L_law 110 (.aload 5) 2 112 := ⟨at_110, rfl⟩
theorem o_L_law_112 : InsA md_L_law 112 (.iload_n 1) 1 113 := ⟨at_112, rfl⟩
theorem o_L_law_113 : InsA md_L_law 113 (.iload_n 2) 1 114 := ⟨at_113, rfl⟩
theorem o_L_law_114 : InsA md_L_law 114 (.invokevirtual 16) 3 117 := ⟨at_114, rfl⟩
theorem o_L_law_117 : InsA md_L_law 117 (.iload 8) 2 119 := ⟨at_117, rfl⟩
theorem o_L_law_119 : InsB md_L_law 119 (.ifCond .eq 7) 3 122 (7) 126 := ⟨at_119, rfl, by decide, by decide⟩
theorem o_L_law_122 : InsA md_L_law 122 (.iconst 0) 1 123 := ⟨at_122, rfl⟩
theorem o_L_law_123 : InsB md_L_law 123 (.goto 5) 3 126 (5) 128 := ⟨at_123, rfl, by decide, by decide⟩
theorem o_L_law_126 : InsA md_L_law 126 (.bipush (-2)) 2 128 := ⟨at_126, rfl⟩
theorem o_L_law_128 : InsB md_L_law 128 (.if_icmp .eq 5) 3 131 (5) 133 := ⟨at_128, rfl, by decide, by decide⟩
theorem o_L_law_131 : InsA md_L_law 131 (.iconst 0) 1 132 := ⟨at_131, rfl⟩
theorem o_L_law_132 : InsA md_L_law 132 (.ireturn) 1 133 := ⟨at_132, rfl⟩
theorem o_L_law_133 : InsA md_L_law 133 (.aload 5) 2 135 := ⟨at_133, rfl⟩
theorem o_L_law_135 : InsA md_L_law 135 (.iload_n 3) 1 136 := ⟨at_135, rfl⟩
theorem o_L_law_136 : InsA md_L_law 136 (.iload 4) 2 138 := ⟨at_136, rfl⟩
theorem o_L_law_138 : InsA md_L_law 138 (.invokevirtual 16) 3 141 := ⟨at_138, rfl⟩
theorem o_L_law_141 : InsA md_L_law 141 (.iload 9) 2 143 := ⟨at_141, rfl⟩
theorem o_L_law_143 : InsB md_L_law 143 (.ifCond .eq 7) 3 146 (7) 150 := ⟨at_143, rfl, by decide, by decide⟩
theorem o_L_law_146 : InsA md_L_law 146 (.iconst 0) 1 147 := ⟨at_146, rfl⟩
theorem o_L_law_147 : InsB md_L_law 147 (.goto 5) 3 150 (5) 152 := ⟨at_147, rfl, by decide, by decide⟩
theorem o_L_law_150 : InsA md_L_law 150 (.bipush (-2)) 2 152 := ⟨at_150, rfl⟩
theorem o_L_law_152 : InsB md_L_law 152 (.if_icmp .eq 5) 3 155 (5) 157 := ⟨at_152, rfl, by decide, by decide⟩
theorem o_L_law_155 : InsA md_L_law 155 (.iconst 0) 1 156 := ⟨at_155, rfl⟩
theorem o_L_law_156 : InsA md_L_law 156 (.ireturn) 1 157 := ⟨at_156, rfl⟩
theorem o_L_law_157 : InsA md_L_law 157 (.iload 9) 2 159 := ⟨at_157, rfl⟩
theorem o_L_law_159 : InsB md_L_law 159 (.ifCond .eq 13) 3 162 (13) 172 := ⟨at_159, rfl, by decide, by decide⟩
theorem o_L_law_162 : InsA md_L_law 162 (.iload_n 3) 1 163 := ⟨at_162, rfl⟩
theorem o_L_law_163 : InsA md_L_law 163 (.iload_n 1) 1 164 := ⟨at_163, rfl⟩
theorem o_L_law_164 : InsB md_L_law 164 (.if_icmp .ne 8) 3 167 (8) 172 := ⟨at_164, rfl, by decide, by decide⟩
theorem o_L_law_167 : InsA md_L_law 167 (.iload 4) 2 169 := ⟨at_167, rfl⟩
theorem o_L_law_169 : InsB md_L_law 169 (.goto 13) 3 172 (13) 182 := ⟨at_169, rfl, by decide, by decide⟩
theorem o_L_law_172 : InsA md_L_law 172 (.iload 8) 2 174 := ⟨at_172, rfl⟩
theorem o_L_law_174 : InsB md_L_law 174 (.ifCond .eq 7) 3 177 (7) 181 := ⟨at_174, rfl, by decide, by decide⟩
theorem o_L_law_177 : InsA md_L_law 177 (.iload_n 2) 1 178 := ⟨at_177, rfl⟩
theorem o_L_law_178 : InsB md_L_law 178 (.goto 4) 3 181 (4) 182 := ⟨at_178, rfl, by decide, by decide⟩
theorem o_L_law_181 : InsA md_L_law 181 (.iconst 0) 1 182 := ⟨at_181, rfl⟩
theorem o_L_law_182 : InsA md_L_law 182 (.istore 10) 2 184 := ⟨at_182, rfl⟩
theorem o_L_law_184 : InsA md_L_law 184 (.iload 9) 2 186 := ⟨at_184, rfl⟩
theorem o_L_law_186 : InsB md_L_law 186 (.ifCond .eq 8) 3 189 (8) 194 := ⟨at_186, rfl, by decide, by decide⟩
theorem o_L_law_189 : InsA md_L_law 189 (.iload 4) 2 191 := ⟨at_189, rfl⟩
theorem o_L_law_191 : InsB md_L_law 191 (.goto 4) 3 194 (4) 195 := ⟨at_191, rfl, by decide, by decide⟩
theorem o_L_law_194 : InsA md_L_law 194 (.iconst 0) 1 195 := ⟨at_194, rfl⟩
theorem o_L_law_195 : InsA md_L_law 195 (.istore 11) 2 197 := ⟨at_195, rfl⟩
theorem o_L_law_197 : InsA md_L_law 197 (.aload 5) 2 199 := ⟨at_197, rfl⟩
theorem o_L_law_199 : InsA md_L_law 199 (.iload_n 1) 1 200 := ⟨at_199, rfl⟩
theorem o_L_law_200 : InsA md_L_law 200 (.invokevirtual 19) 3 203 := ⟨at_200, rfl⟩
theorem o_L_law_203 : InsA md_L_law 203 (.iload 10) 2 205 := ⟨at_203, rfl⟩
theorem o_L_law_205 : InsB md_L_law 205 (.if_icmp .eq 5) 3 208 (5) 210 := ⟨at_205, rfl, by decide, by decide⟩
theorem o_L_law_208 : InsA md_L_law 208 (.iconst 0) 1 209 := ⟨at_208, rfl⟩
theorem o_L_law_209 : InsA md_L_law 209 (.ireturn) 1 210 := ⟨at_209, rfl⟩
theorem o_L_law_210 : InsA md_L_law 210 (.aload 5) 2 212 := ⟨at_210, rfl⟩
theorem o_L_law_212 : InsA md_L_law 212 (.iload_n 3) 1 213 := ⟨at_212, rfl⟩
theorem o_L_law_213 : InsA md_L_law 213 (.invokevirtual 19) 3 216 := ⟨at_213, rfl⟩
theorem o_L_law_216 : InsA md_L_law 216 (.iload 11) 2 218 := ⟨at_216, rfl⟩
theorem o_L_law_218 : InsB md_L_law 218 (.if_icmp .eq 5) 3 221 (5) 223 := ⟨at_218, rfl, by decide, by decide⟩
theorem o_L_law_221 : InsA md_L_law 221 (.iconst 0) 1 222 := ⟨at_221, rfl⟩
theorem o_L_law_222 : InsA md_L_law 222 (.ireturn) 1 223 := ⟨at_222, rfl⟩
theorem o_L_law_223 : InsA md_L_law 223 (.aload 5) 2 225 := ⟨at_223, rfl⟩
theorem o_L_law_225 : InsA md_L_law 225 (.invokevirtual 23) 3 228 := ⟨at_225, rfl⟩
theorem o_L_law_228 : InsA md_L_law 228 (.iload 6) 2 230 := ⟨at_228, rfl⟩
theorem o_L_law_230 : InsB md_L_law 230 (.ifCond .eq 7) 3 233 (7) 237 := ⟨at_230, rfl, by decide, by decide⟩
theorem o_L_law_233 : InsA md_L_law 233 (.iload_n 0) 1 234 := ⟨at_233, rfl⟩
theorem o_L_law_234 : InsB md_L_law 234 (.goto 4) 3 237 (4) 238 := ⟨at_234, rfl, by decide, by decide⟩
theorem o_L_law_237 : InsA md_L_law 237 (.iconst 0) 1 238 := ⟨at_237, rfl⟩
theorem o_L_law_238 : InsB md_L_law 238 (.if_icmp .eq 5) 3 241 (5) 243 := ⟨at_238, rfl, by decide, by decide⟩
theorem o_L_law_241 : InsA md_L_law 241 (.iconst 0) 1 242 := ⟨at_241, rfl⟩
theorem o_L_law_242 : InsA md_L_law 242 (.ireturn) 1 243 := ⟨at_242, rfl⟩
theorem o_L_law_243 : InsA md_L_law 243 (.aload 5) 2 245 := ⟨at_243, rfl⟩
theorem o_L_law_245 : InsA md_L_law 245 (.invokevirtual 27) 3 248 := ⟨at_245, rfl⟩
theorem o_L_law_248 : InsB md_L_law 248 (.ifCond .eq 5) 3 251 (5) 253 := ⟨at_248, rfl, by decide, by decide⟩
theorem o_L_law_251 : InsA md_L_law 251 (.iconst 0) 1 252 := ⟨at_251, rfl⟩
theorem o_L_law_252 : InsA md_L_law 252 (.ireturn) 1 253 := ⟨at_252, rfl⟩
theorem o_L_law_253 : InsA md_L_law 253 (.iconst 1) 1 254 := ⟨at_253, rfl⟩
theorem o_L_law_254 : InsA md_L_law 254 (.ireturn) 1 255 := ⟨at_254, rfl⟩
set_option maxRecDepth 65536 in
set_option maxHeartbeats 4000000 in
theorem wp_clamp {l : Launch} {Z : State} {a0 : Array Value} (H : OK Z a0) (F : Nat → Int32) (G : Nat → Int64) (A : Nat → Int32 → Int32) (B : Nat → Int32 → Int64) (p1 : Int32) (p2 : Int32) (p3 : Int32) {Q : Option Value → WO → Prop} (h3 : ¬ p1 < p2 → ¬ p3 < p1 → Q (some (.int p1)) (10, F, G, A, B)) (h4 : ¬ p1 < p2 → p3 < p1 → Q (some (.int p3)) (10, F, G, A, B)) (h5 : p1 < p2 → Q (some (.int p2)) (10, F, G, A, B)) :
    Wk l Z (MoC Z cdC) md_clamp 0 [.val (.ref 0), .val (.int p1), .val (.int p2), .val (.int p3)] [] (10, F, G, A, B) 0 0 Q := by
  refine Wk.iloadN o_clamp_0 rfl ?_
  refine Wk.iloadN o_clamp_1 rfl ?_
  refine Wk.icmp_ge o_clamp_2 (fun q1 => ?_) (fun q1 => ?_)
  · refine Wk.iloadN o_clamp_7 rfl ?_
    refine Wk.iloadN o_clamp_8 rfl ?_
    refine Wk.icmp_le o_clamp_9 (fun q2 => ?_) (fun q2 => ?_)
    · refine Wk.iloadN o_clamp_14 rfl ?_
      exact Wk.ireturn mrC rfl o_clamp_15 rfl (by decide) (by decide) (h3 q1 q2)
    · refine Wk.iloadN o_clamp_12 rfl ?_
      exact Wk.ireturn mrC rfl o_clamp_13 rfl (by decide) (by decide) (h4 q1 q2)
  · refine Wk.iloadN o_clamp_5 rfl ?_
    exact Wk.ireturn mrC rfl o_clamp_6 rfl (by decide) (by decide) (h5 q1)

def f_clamp (p1 : Int32) (p2 : Int32) (p3 : Int32) : Int32 := (if p1 < p2 then p2 else (if p3 < p1 then p3 else p1))
theorem e_clamp (p1 : Int32) (p2 : Int32) (p3 : Int32) : f_clamp p1 p2 p3 = (if p1 < p2 then p2 else (if p3 < p1 then p3 else p1)) := Eq.trans rfl rfl
theorem run_clamp {l : Launch} {Z : State} {a0 : Array Value} (H : OK Z a0) (F : Nat → Int32) (G : Nat → Int64) (A : Nat → Int32 → Int32) (B : Nat → Int32 → Int64) (p1 : Int32) (p2 : Int32) (p3 : Int32) :
    Wk l Z (MoC Z cdC) md_clamp 0 [.val (.ref 0), .val (.int p1), .val (.int p2), .val (.int p3)] [] (10, F, G, A, B) 0 0 (fun v w' => v = some (.int (f_clamp p1 p2 p3)) ∧ w' = (10, F, G, A, B)) :=
  wp_clamp H F G A B p1 p2 p3 (fun q1 q2 => ⟨by simp only [e_clamp, if_neg q1, if_neg q2], rfl⟩) (fun q1 q2 => ⟨by simp only [e_clamp, if_neg q1, if_pos q2], rfl⟩) (fun q1 => ⟨by simp only [e_clamp, if_pos q1], rfl⟩)
set_option maxRecDepth 65536 in
set_option maxHeartbeats 4000000 in
theorem wp_init {l : Launch} {Z : State} {a0 : Array Value} (H : OK Z a0) (p1 : Int32) (p2 : Int32) {Q : Option Value → WO → Prop} (h1 : Q none (10, (ups (ups (ups (ups (ups (ups (ups (ups (fun _ => 0) 0 (f_clamp p1 (16 : Int32) (64 : Int32))) 1 (f_clamp p2 (4 : Int32) (32 : Int32))) 5 (0 : Int32)) 2 (0 : Int32)) 4 (0 : Int32)) 3 (0 : Int32)) 6 (0 : Int32)) 7 (0 : Int32)), (fun _ => 0), (fun _ _ => 0), (fun _ _ => 0))) :
    Wk l Z (MoC Z cdC) md_init 0 [.val (.ref 0), .val (.int p1), .val (.int p2)] [] (0, (fun _ => 0), (fun _ => 0), (fun _ _ => 0), (fun _ _ => 0)) 0 0 Q := by
  refine Wk.aloadN o_init_0 rfl ?_
  refine Wk.initO (H.w 6 rfl) (H.w 7 rfl) (H.w 8 rfl) o_init_1 rfl (by decide) (by decide) ?_
  refine Wk.aloadN o_init_4 rfl ?_
  refine Wk.iconst o_init_5 (z := (4 : Int32)) (by decide) ?_
  refine Wk.newA (coC H) (aty := .int) rfl (wa_int H) (mA_secStart) (wf_secStart H) (Or.inl (wy_secStart H)) o_init_6 o_init_8 rfl rfl (k' := 1) rfl (cu' := 1) rfl (su' := 4) rfl (by decide) (by decide) (by decide) ?_
  refine Wk.aloadN o_init_11 rfl ?_
  refine Wk.iconst o_init_12 (z := (4 : Int32)) (by decide) ?_
  refine Wk.newA (coC H) (aty := .int) rfl (wa_int H) (mA_secSize) (wf_secSize H) (Or.inl (wy_secSize H)) o_init_13 o_init_15 rfl rfl (k' := 2) rfl (cu' := 2) rfl (su' := 8) rfl (by decide) (by decide) (by decide) ?_
  refine Wk.aloadN o_init_18 rfl ?_
  refine Wk.bipush o_init_19 (z := (64 : Int32)) (by decide) ?_
  refine Wk.newA (coC H) (aty := .int) rfl (wa_int H) (mA_raw) (wf_raw H) (Or.inl (wy_raw H)) o_init_21 o_init_23 rfl rfl (k' := 3) rfl (cu' := 3) rfl (su' := 72) rfl (by decide) (by decide) (by decide) ?_
  refine Wk.aloadN o_init_26 rfl ?_
  refine Wk.bipush o_init_27 (z := (64 : Int32)) (by decide) ?_
  refine Wk.newA (coC H) (aty := .int) rfl (wa_int H) (mA_cur) (wf_cur H) (Or.inl (wy_cur H)) o_init_29 o_init_31 rfl rfl (k' := 4) rfl (cu' := 4) rfl (su' := 136) rfl (by decide) (by decide) (by decide) ?_
  refine Wk.aloadN o_init_34 rfl ?_
  refine Wk.bipush o_init_35 (z := (64 : Int32)) (by decide) ?_
  refine Wk.newA (coC H) (aty := .boolean) rfl (wa_boolean H) (mA_taken) (wf_taken H) (Or.inl (wy_taken H)) o_init_37 o_init_39 rfl rfl (k' := 5) rfl (cu' := 5) rfl (su' := 200) rfl (by decide) (by decide) (by decide) ?_
  refine Wk.aloadN o_init_42 rfl ?_
  refine Wk.bipush o_init_43 (z := (32 : Int32)) (by decide) ?_
  refine Wk.newA (coC H) (aty := .int) rfl (wa_int H) (mA_recKind) (wf_recKind H) (Or.inl (wy_recKind H)) o_init_45 o_init_47 rfl rfl (k' := 6) rfl (cu' := 6) rfl (su' := 232) rfl (by decide) (by decide) (by decide) ?_
  refine Wk.aloadN o_init_50 rfl ?_
  refine Wk.bipush o_init_51 (z := (32 : Int32)) (by decide) ?_
  refine Wk.newA (coC H) (aty := .int) rfl (wa_int H) (mA_recOff) (wf_recOff H) (Or.inl (wy_recOff H)) o_init_53 o_init_55 rfl rfl (k' := 7) rfl (cu' := 7) rfl (su' := 264) rfl (by decide) (by decide) (by decide) ?_
  refine Wk.aloadN o_init_58 rfl ?_
  refine Wk.bipush o_init_59 (z := (32 : Int32)) (by decide) ?_
  refine Wk.newA (coC H) (aty := .int) rfl (wa_int H) (mA_recTarget) (wf_recTarget H) (Or.inl (wy_recTarget H)) o_init_61 o_init_63 rfl rfl (k' := 8) rfl (cu' := 8) rfl (su' := 296) rfl (by decide) (by decide) (by decide) ?_
  refine Wk.aloadN o_init_66 rfl ?_
  refine Wk.bipush o_init_67 (z := (32 : Int32)) (by decide) ?_
  refine Wk.newA (coC H) (aty := .int) rfl (wa_int H) (mA_recLoOff) (wf_recLoOff H) (Or.inl (wy_recLoOff H)) o_init_69 o_init_71 rfl rfl (k' := 9) rfl (cu' := 9) rfl (su' := 328) rfl (by decide) (by decide) (by decide) ?_
  refine Wk.aloadN o_init_74 rfl ?_
  refine Wk.bipush o_init_75 (z := (8 : Int32)) (by decide) ?_
  refine Wk.newA (coC H) (aty := .int) rfl (wa_int H) (mA_regs) (wf_regs H) (Or.inl (wy_regs H)) o_init_77 o_init_79 rfl rfl (k' := 10) rfl (cu' := 10) rfl (su' := 336) rfl (by decide) (by decide) (by decide) ?_
  refine Wk.aloadN o_init_82 rfl ?_
  refine Wk.aloadN o_init_83 rfl ?_
  refine Wk.iloadN o_init_84 rfl ?_
  refine Wk.bipush o_init_85 (z := (16 : Int32)) (by decide) ?_
  refine Wk.bipush o_init_87 (z := (64 : Int32)) (by decide) ?_
  refine Wk.callF [.int p1, .int (16 : Int32), .int (64 : Int32)] [.ref 0] (H.w 31 rfl) (cv_clamp H) o_init_89 (run_clamp H (fun _ => 0) (fun _ => 0) (fun _ _ => 0) (fun _ _ => 0) p1 (16 : Int32) (64 : Int32)) (wt := 1) (cu' := 10) (su' := 336) (by decide) rfl rfl rfl rfl rfl rfl rfl ?_
  refine Wk.putI (coC H) (mI_cap) (wf_cap H) (Or.inl (wy_cap H)) o_init_92 ?_
  refine Wk.aloadN o_init_95 rfl ?_
  refine Wk.aloadN o_init_96 rfl ?_
  refine Wk.iloadN o_init_97 rfl ?_
  refine Wk.iconst o_init_98 (z := (4 : Int32)) (by decide) ?_
  refine Wk.bipush o_init_99 (z := (32 : Int32)) (by decide) ?_
  refine Wk.callF [.int p2, .int (4 : Int32), .int (32 : Int32)] [.ref 0] (H.w 31 rfl) (cv_clamp H) o_init_101 (run_clamp H (ups (fun _ => 0) 0 (f_clamp p1 (16 : Int32) (64 : Int32))) (fun _ => 0) (fun _ _ => 0) (fun _ _ => 0) p2 (4 : Int32) (32 : Int32)) (wt := 1) (cu' := 10) (su' := 336) (by decide) rfl rfl rfl rfl rfl rfl rfl ?_
  refine Wk.putI (coC H) (mI_maxRec) (wf_maxRec H) (Or.inl (wy_maxRec H)) o_init_104 ?_
  refine Wk.aloadN o_init_107 rfl ?_
  refine Wk.iconst o_init_108 (z := (0 : Int32)) (by decide) ?_
  refine Wk.putI (coC H) (mI_state) (wf_state H) (Or.inl (wy_state H)) o_init_109 ?_
  refine Wk.aloadN o_init_112 rfl ?_
  refine Wk.iconst o_init_113 (z := (0 : Int32)) (by decide) ?_
  refine Wk.putI (coC H) (mI_nSec) (wf_nSec H) (Or.inl (wy_nSec H)) o_init_114 ?_
  refine Wk.aloadN o_init_117 rfl ?_
  refine Wk.iconst o_init_118 (z := (0 : Int32)) (by decide) ?_
  refine Wk.putI (coC H) (mI_nRec) (wf_nRec H) (Or.inl (wy_nRec H)) o_init_119 ?_
  refine Wk.aloadN o_init_122 rfl ?_
  refine Wk.iconst o_init_123 (z := (0 : Int32)) (by decide) ?_
  refine Wk.putI (coC H) (mI_imgSize) (wf_imgSize H) (Or.inl (wy_imgSize H)) o_init_124 ?_
  refine Wk.aloadN o_init_127 rfl ?_
  refine Wk.iconst o_init_128 (z := (0 : Int32)) (by decide) ?_
  refine Wk.putI (coC H) (mI_baseAddr) (wf_baseAddr H) (Or.inl (wy_baseAddr H)) o_init_129 ?_
  refine Wk.aloadN o_init_132 rfl ?_
  refine Wk.iconst o_init_133 (z := (0 : Int32)) (by decide) ?_
  refine Wk.putI (coC H) (mI_pcReg) (wf_pcReg H) (Or.inl (wy_pcReg H)) o_init_134 ?_
  exact Wk.ret mrC rfl o_init_137 rfl (by decide) (by decide) h1

def F_init (p1 : Int32) (p2 : Int32) : Nat → Int32 := (ups (ups (ups (ups (ups (ups (ups (ups (fun _ => 0) 0 (f_clamp p1 (16 : Int32) (64 : Int32))) 1 (f_clamp p2 (4 : Int32) (32 : Int32))) 5 (0 : Int32)) 2 (0 : Int32)) 4 (0 : Int32)) 3 (0 : Int32)) 6 (0 : Int32)) 7 (0 : Int32))
theorem eF_init (p1 : Int32) (p2 : Int32) : F_init p1 p2 = (ups (ups (ups (ups (ups (ups (ups (ups (fun _ => 0) 0 (f_clamp p1 (16 : Int32) (64 : Int32))) 1 (f_clamp p2 (4 : Int32) (32 : Int32))) 5 (0 : Int32)) 2 (0 : Int32)) 4 (0 : Int32)) 3 (0 : Int32)) 6 (0 : Int32)) 7 (0 : Int32)) := Eq.trans rfl rfl
theorem F_init_0 (p1 : Int32) (p2 : Int32) : F_init p1 p2 0 = (f_clamp p1 (16 : Int32) (64 : Int32)) := by
  exact Eq.trans rfl rfl
theorem F_init_1 (p1 : Int32) (p2 : Int32) : F_init p1 p2 1 = (f_clamp p2 (4 : Int32) (32 : Int32)) := by
  exact Eq.trans rfl rfl
theorem F_init_2 (p1 : Int32) (p2 : Int32) : F_init p1 p2 2 = (0 : Int32) := by
  exact Eq.trans rfl rfl
theorem F_init_3 (p1 : Int32) (p2 : Int32) : F_init p1 p2 3 = (0 : Int32) := by
  exact Eq.trans rfl rfl
theorem F_init_4 (p1 : Int32) (p2 : Int32) : F_init p1 p2 4 = (0 : Int32) := by
  exact Eq.trans rfl rfl
theorem F_init_5 (p1 : Int32) (p2 : Int32) : F_init p1 p2 5 = (0 : Int32) := by
  exact Eq.trans rfl rfl
theorem F_init_6 (p1 : Int32) (p2 : Int32) : F_init p1 p2 6 = (0 : Int32) := by
  exact Eq.trans rfl rfl
theorem F_init_7 (p1 : Int32) (p2 : Int32) : F_init p1 p2 7 = (0 : Int32) := by
  exact Eq.trans rfl rfl
theorem run_init {l : Launch} {Z : State} {a0 : Array Value} (H : OK Z a0)  (p1 : Int32) (p2 : Int32) :
    Wk l Z (MoC Z cdC) md_init 0 [.val (.ref 0), .val (.int p1), .val (.int p2)] [] (0, (fun _ => 0), (fun _ => 0), (fun _ _ => 0), (fun _ _ => 0)) 0 0 (fun v w' => v = none ∧ w' = (10, (F_init p1 p2), (fun _ => 0), (fun _ _ => 0), (fun _ _ => 0))) :=
  wp_init H p1 p2 ⟨rfl, rfl⟩
set_option maxRecDepth 65536 in
set_option maxHeartbeats 4000000 in
theorem wp_validAlign {l : Launch} {Z : State} {a0 : Array Value} (H : OK Z a0) (F : Nat → Int32) (G : Nat → Int64) (A : Nat → Int32 → Int32) (B : Nat → Int32 → Int64) (p1 : Int32) {Q : Option Value → WO → Prop} (h11 : Q (some (.int (nar .boolean (if p1 = (1 : Int32) then (1 : Int32) else (if p1 = (2 : Int32) then (1 : Int32) else (if p1 = (4 : Int32) then (1 : Int32) else (if p1 = (8 : Int32) then (1 : Int32) else (if p1 = (16 : Int32) then (1 : Int32) else (0 : Int32))))))))) (10, F, G, A, B)) :
    Wk l Z (MoC Z cdC) md_validAlign 0 [.val (.ref 0), .val (.int p1)] [] (10, F, G, A, B) 0 0 Q := by
  refine Wk.iloadN o_validAlign_0 rfl ?_
  refine Wk.iconst o_validAlign_1 (z := (1 : Int32)) (by decide) ?_
  have J10 : Wk l Z (MoC Z cdC) md_validAlign 32 [.val (.ref 0), .val (.int p1)] [.int (if p1 = (1 : Int32) then (1 : Int32) else (if p1 = (2 : Int32) then (1 : Int32) else (if p1 = (4 : Int32) then (1 : Int32) else (if p1 = (8 : Int32) then (1 : Int32) else (if p1 = (16 : Int32) then (1 : Int32) else (0 : Int32))))))] (10, F, G, A, B) 0 0 Q := by
    exact Wk.zreturn mrC rfl o_validAlign_32 rfl (by decide) (by decide) (y := (nar .boolean (if p1 = (1 : Int32) then (1 : Int32) else (if p1 = (2 : Int32) then (1 : Int32) else (if p1 = (4 : Int32) then (1 : Int32) else (if p1 = (8 : Int32) then (1 : Int32) else (if p1 = (16 : Int32) then (1 : Int32) else (0 : Int32)))))))) rfl h11
  refine Wk.icmp_eq o_validAlign_2 (fun q1 => ?_) (fun q1 => ?_)
  · refine Wk.iconst o_validAlign_27 (z := (1 : Int32)) (by decide) ?_
    refine Wk.goto o_validAlign_28 ?_
    first | exact J10 | (simp only [if_pos q1] at J10 ⊢; exact J10)
  · refine Wk.iloadN o_validAlign_5 rfl ?_
    refine Wk.iconst o_validAlign_6 (z := (2 : Int32)) (by decide) ?_
    refine Wk.icmp_eq o_validAlign_7 (fun q2 => ?_) (fun q2 => ?_)
    · refine Wk.iconst o_validAlign_27 (z := (1 : Int32)) (by decide) ?_
      refine Wk.goto o_validAlign_28 ?_
      first | exact J10 | (simp only [if_neg q1, if_pos q2] at J10 ⊢; exact J10)
    · refine Wk.iloadN o_validAlign_10 rfl ?_
      refine Wk.iconst o_validAlign_11 (z := (4 : Int32)) (by decide) ?_
      refine Wk.icmp_eq o_validAlign_12 (fun q3 => ?_) (fun q3 => ?_)
      · refine Wk.iconst o_validAlign_27 (z := (1 : Int32)) (by decide) ?_
        refine Wk.goto o_validAlign_28 ?_
        first | exact J10 | (simp only [if_neg q1, if_neg q2, if_pos q3] at J10 ⊢; exact J10)
      · refine Wk.iloadN o_validAlign_15 rfl ?_
        refine Wk.bipush o_validAlign_16 (z := (8 : Int32)) (by decide) ?_
        refine Wk.icmp_eq o_validAlign_18 (fun q4 => ?_) (fun q4 => ?_)
        · refine Wk.iconst o_validAlign_27 (z := (1 : Int32)) (by decide) ?_
          refine Wk.goto o_validAlign_28 ?_
          first | exact J10 | (simp only [if_neg q1, if_neg q2, if_neg q3, if_pos q4] at J10 ⊢; exact J10)
        · refine Wk.iloadN o_validAlign_21 rfl ?_
          refine Wk.bipush o_validAlign_22 (z := (16 : Int32)) (by decide) ?_
          refine Wk.icmp_ne o_validAlign_24 (fun q5 => ?_) (fun q5 => ?_)
          · refine Wk.iconst o_validAlign_31 (z := (0 : Int32)) (by decide) ?_
            first | exact J10 | (simp only [if_neg q1, if_neg q2, if_neg q3, if_neg q4, if_neg q5] at J10 ⊢; exact J10)
          · refine Wk.iconst o_validAlign_27 (z := (1 : Int32)) (by decide) ?_
            refine Wk.goto o_validAlign_28 ?_
            first | exact J10 | (simp only [if_neg q1, if_neg q2, if_neg q3, if_neg q4, if_pos q5] at J10 ⊢; exact J10)

def f_validAlign (p1 : Int32) : Int32 := (nar .boolean (if p1 = (1 : Int32) then (1 : Int32) else (if p1 = (2 : Int32) then (1 : Int32) else (if p1 = (4 : Int32) then (1 : Int32) else (if p1 = (8 : Int32) then (1 : Int32) else (if p1 = (16 : Int32) then (1 : Int32) else (0 : Int32)))))))
theorem e_validAlign (p1 : Int32) : f_validAlign p1 = (nar .boolean (if p1 = (1 : Int32) then (1 : Int32) else (if p1 = (2 : Int32) then (1 : Int32) else (if p1 = (4 : Int32) then (1 : Int32) else (if p1 = (8 : Int32) then (1 : Int32) else (if p1 = (16 : Int32) then (1 : Int32) else (0 : Int32))))))) := Eq.trans rfl rfl
theorem bz_validAlign (p1 : Int32) : nar .boolean (f_validAlign p1) = f_validAlign p1 := by
  unfold f_validAlign
  (repeat' split) <;> first | rfl | exact nar_nar _
theorem run_validAlign {l : Launch} {Z : State} {a0 : Array Value} (H : OK Z a0) (F : Nat → Int32) (G : Nat → Int64) (A : Nat → Int32 → Int32) (B : Nat → Int32 → Int64) (p1 : Int32) :
    Wk l Z (MoC Z cdC) md_validAlign 0 [.val (.ref 0), .val (.int p1)] [] (10, F, G, A, B) 0 0 (fun v w' => v = some (.int (f_validAlign p1)) ∧ w' = (10, F, G, A, B)) :=
  wp_validAlign H F G A B p1 ⟨rfl, rfl⟩
set_option maxRecDepth 65536 in
set_option maxHeartbeats 4000000 in
theorem wp_clearWords {l : Launch} {Z : State} {a0 : Array Value} (H : OK Z a0) (F : Nat → Int32) (G : Nat → Int64) (A : Nat → Int32 → Int32) (B : Nat → Int32 → Int64) (p1 : Int32) (p2 : Int32) {Q : Option Value → WO → Prop} (h1 : Wk l Z (MoC Z cdC) md_clearWords 2 [.val (.ref 0), .unset, .val (.int p2), .val (.int p1)] [] (10, F, G, A, B) 0 0 Q) :
    Wk l Z (MoC Z cdC) md_clearWords 0 [.val (.ref 0), .val (.int p1), .val (.int p2), .unset] [] (10, F, G, A, B) 0 0 Q := by
  refine Wk.iloadN o_clearWords_0 rfl ?_
  refine Wk.istoreN o_clearWords_1 (Or.inl rfl) (L' := [.val (.ref 0), .val (.int p1), .val (.int p2), .val (.int p1)]) rfl ?_
  refine Wk.forget [false, true, false, false] (L' := [.val (.ref 0), .unset, .val (.int p2), .val (.int p1)]) rfl rfl ?_
  exact h1

set_option maxRecDepth 65536 in
set_option maxHeartbeats 4000000 in
theorem wp_clearWords_2 {l : Launch} {Z : State} {a0 : Array Value} (H : OK Z a0) (F : Nat → Int32) (G : Nat → Int64) (A : Nat → Int32 → Int32) (B : Nat → Int32 → Int64) (v2 : Int32) (v3 : Int32) {Q : Option Value → WO → Prop} (h2 : ¬ v3 < v2 → Q none (10, F, G, A, B)) (h4 : v3 < v2 → ¬ v3 < (64 : Int32) → Q none (10, F, G, A, B)) (h6 : v3 < v2 → v3 < (64 : Int32) → v3 < 0 → Wk l Z (MoC Z cdC) md_clearWords 2 [.val (.ref 0), .unset, .val (.int v2), .val (.int (v3 + (1 : Int32)))] [] (10, F, G, A, B) 0 0 Q) (h7 : v3 < v2 → v3 < (64 : Int32) → ¬ v3 < 0 → Wk l Z (MoC Z cdC) md_clearWords 2 [.val (.ref 0), .unset, .val (.int v2), .val (.int (v3 + (1 : Int32)))] [] (10, F, G, (ups (ups (ups A 2 (ups (A 2) v3 (0 : Int32))) 3 (ups (A 3) v3 (0 : Int32))) 4 (ups (A 4) v3 (0 : Int32))), B) 0 0 Q) :
    Wk l Z (MoC Z cdC) md_clearWords 2 [.val (.ref 0), .unset, .val (.int v2), .val (.int v3)] [] (10, F, G, A, B) 0 0 Q := by
  refine Wk.iloadN o_clearWords_2 rfl ?_
  refine Wk.iloadN o_clearWords_3 rfl ?_
  refine Wk.icmp_ge o_clearWords_4 (fun q1 => ?_) (fun q1 => ?_)
  · exact Wk.ret mrC rfl o_clearWords_44 rfl (by decide) (by decide) (h2 q1)
  · refine Wk.iloadN o_clearWords_7 rfl ?_
    refine Wk.bipush o_clearWords_8 (z := (64 : Int32)) (by decide) ?_
    refine Wk.icmp_ge o_clearWords_10 (fun q3 => ?_) (fun q3 => ?_)
    · exact Wk.ret mrC rfl o_clearWords_44 rfl (by decide) (by decide) (h4 q1 q3)
    · refine Wk.iloadN o_clearWords_13 rfl ?_
      refine Wk.if_lt o_clearWords_14 (fun q5 => ?_) (fun q5 => ?_)
      · refine Wk.iinc o_clearWords_38 rfl (z := (v3 + (1 : Int32))) rfl (L' := [.val (.ref 0), .unset, .val (.int v2), .val (.int (v3 + (1 : Int32)))]) rfl ?_
        refine Wk.goto o_clearWords_41 ?_
        exact (h6 q1 q3 q5)
      · refine Wk.aloadN o_clearWords_17 rfl ?_
        refine Wk.getA (mA_raw) (by decide) (i' := 3) rfl (wf_raw H) o_clearWords_18 ?_
        refine Wk.iloadN o_clearWords_21 rfl ?_
        refine Wk.iconst o_clearWords_22 (z := (0 : Int32)) (by decide) ?_
        refine Wk.iastore (coC H) (f := (A 2)) (mA_raw) rfl (by decide) (i' := 3) rfl q5 q3 o_clearWords_23 ?_
        refine Wk.aloadN o_clearWords_24 rfl ?_
        refine Wk.getA (mA_cur) (by decide) (i' := 4) rfl (wf_cur H) o_clearWords_25 ?_
        refine Wk.iloadN o_clearWords_28 rfl ?_
        refine Wk.iconst o_clearWords_29 (z := (0 : Int32)) (by decide) ?_
        refine Wk.iastore (coC H) (f := (A 3)) (mA_cur) rfl (by decide) (i' := 4) rfl q5 q3 o_clearWords_30 ?_
        refine Wk.aloadN o_clearWords_31 rfl ?_
        refine Wk.getA (mA_taken) (by decide) (i' := 5) rfl (wf_taken H) o_clearWords_32 ?_
        refine Wk.iloadN o_clearWords_35 rfl ?_
        refine Wk.iconst o_clearWords_36 (z := (0 : Int32)) (by decide) ?_
        refine Wk.bastore (coC H) (f := (A 4)) (v' := (0 : Int32)) (by decide) (mA_taken) rfl (by decide) (i' := 5) rfl q5 q3 o_clearWords_37 ?_
        refine Wk.iinc o_clearWords_38 rfl (z := (v3 + (1 : Int32))) rfl (L' := [.val (.ref 0), .unset, .val (.int v2), .val (.int (v3 + (1 : Int32)))]) rfl ?_
        refine Wk.goto o_clearWords_41 ?_
        exact (h7 q1 q3 q5)

def A_clearWords (A : Nat → Int32 → Int32) (p1 p2 : Int32) : Nat → Int32 → Int32 := fun j x => if (j = 2 ∨ j = 3 ∨ j = 4) ∧ ¬ x < p1 ∧ x < p2 ∧ ¬ x < 0 ∧ x < 64 then 0 else A j x
theorem eA_clearWords (A : Nat → Int32 → Int32) (p1 p2 : Int32) : A_clearWords A p1 p2 = fun j x => if (j = 2 ∨ j = 3 ∨ j = 4) ∧ ¬ x < p1 ∧ x < p2 ∧ ¬ x < 0 ∧ x < 64 then 0 else A j x := Eq.trans rfl rfl
theorem cw_end (A : Nat → Int32 → Int32) (p1 p2 : Int32) (h : ¬ p1 < p2 ∨ ¬ p1 < 64) : A_clearWords A p1 p2 = A := by
  rw [eA_clearWords]; funext j x; exact if_neg (by grind)
theorem cw_neg (A : Nat → Int32 → Int32) (p1 p2 : Int32) (h : p1 < 0) : A_clearWords A (p1 + 1) p2 = A_clearWords A p1 p2 := by
  rw [eA_clearWords, eA_clearWords]; funext j x; congr 1; apply propext; grind
theorem cw_step (A : Nat → Int32 → Int32) (p1 p2 : Int32) (h : p1 < p2) (h1 : p1 < 64) (h2 : ¬ p1 < 0) :
    A_clearWords (ups (ups (ups A 2 (ups (A 2) p1 0)) 3 (ups (A 3) p1 0)) 4 (ups (A 4) p1 0)) (p1 + 1) p2 = A_clearWords A p1 p2 := by
  rw [eA_clearWords, eA_clearWords]; funext j x
  by_cases e : x = p1
  · subst e
    have L1 : ¬ ((j = 2 ∨ j = 3 ∨ j = 4) ∧ ¬ x < x + 1 ∧ x < p2 ∧ ¬ x < 0 ∧ x < 64) := by grind
    rw [if_neg L1]
    by_cases e1 : j = 2 ∨ j = 3 ∨ j = 4
    · have L2 : (j = 2 ∨ j = 3 ∨ j = 4) ∧ ¬ x < x ∧ x < p2 ∧ ¬ x < 0 ∧ x < 64 := by grind
      rw [if_pos L2]
      rcases e1 with rfl | rfl | rfl <;> simp [ups]
    · have L2 : ¬ ((j = 2 ∨ j = 3 ∨ j = 4) ∧ ¬ x < x ∧ x < p2 ∧ ¬ x < 0 ∧ x < 64) := by grind
      rw [if_neg L2]
      simp only [not_or] at e1
      simp [ups, e1.1, e1.2.1, e1.2.2]
  · have e0 : (ups (ups (ups A 2 (ups (A 2) p1 0)) 3 (ups (A 3) p1 0)) 4 (ups (A 4) p1 0)) j x = A j x := by
      simp only [ups, e, if_false]; repeat' split
      all_goals (first | rfl | (simp_all; done) | (subst_vars; exact ups_ne _ _ e) | (simp_all; exact ups_ne _ _ e))
    rw [e0]; congr 1; apply propext; grind
theorem loop_clearWords {l : Launch} {Z : State} {a0 : Array Value} (H : OK Z a0) (F : Nat → Int32) (G : Nat → Int64) (B : Nat → Int32 → Int64) (p2 : Int32) : ∀ (n : Nat) (i : Int32) (A : Nat → Int32 → Int32), (p2.toInt - i.toInt).toNat = n →
    Wk l Z (MoC Z cdC) md_clearWords 2 [.val (.ref 0), .unset, .val (.int p2), .val (.int i)] [] (10, F, G, A, B) 0 0 (fun v w' => v = none ∧ w' = (10, F, G, (A_clearWords A i p2), B)) := by
  intro n
  induction n with
  | zero =>
    intro i A hn
    have hi : ¬ i < p2 := fun q => by have := lt_i.mp q; omega
    exact wp_clearWords_2 H F G A B p2 i (fun q => ⟨rfl, by rw [cw_end A i p2 (Or.inl q)]⟩) (fun q => absurd q hi) (fun q => absurd q hi) (fun q => absurd q hi)
  | succ n ih =>
    intro i A hn
    have hi : i < p2 := lt_i.mpr (by omega)
    have hn' : (p2.toInt - (i + 1).toInt).toNat = n := by rw [succ_toInt hi]; omega
    refine wp_clearWords_2 H F G A B p2 i (fun q => absurd hi q) (fun _ q => ⟨rfl, by rw [cw_end A i p2 (Or.inr q)]⟩) (fun _ _ q => ?_) (fun _ q1 q => ?_)
    · rw [← cw_neg A i p2 q]; exact ih _ _ hn'
    · rw [← cw_step A i p2 hi q1 q]; exact ih _ _ hn'
theorem run_clearWords {l : Launch} {Z : State} {a0 : Array Value} (H : OK Z a0) (F : Nat → Int32) (G : Nat → Int64) (A : Nat → Int32 → Int32) (B : Nat → Int32 → Int64) (p1 p2 : Int32) :
    Wk l Z (MoC Z cdC) md_clearWords 0 [.val (.ref 0), .val (.int p1), .val (.int p2), .unset] [] (10, F, G, A, B) 0 0 (fun v w' => v = none ∧ w' = (10, F, G, (A_clearWords A p1 p2), B)) :=
  wp_clearWords H F G A B p1 p2 (loop_clearWords H F G B p2 _ p1 A rfl)
set_option maxRecDepth 65536 in
set_option maxHeartbeats 4000000 in
theorem wp_addSection {l : Launch} {Z : State} {a0 : Array Value} (H : OK Z a0) (F : Nat → Int32) (G : Nat → Int64) (A : Nat → Int32 → Int32) (B : Nat → Int32 → Int64) (p1 : Int32) (p2 : Int32) {Q : Option Value → WO → Prop} (h4 : (F 5) = 0 → (F 2) < (4 : Int32) → p1 < (1 : Int32) → Q (some (.int (-2 : Int32))) (10, F, G, A, B)) (s7 : (F 5) = 0 → (F 2) < (4 : Int32) → ¬ p1 < (1 : Int32) → ¬ (f_validAlign p2) = 0 → ¬ ((F 0) - ((((F 3) + p2) - (1 : Int32)) &&& ((p2 - (1 : Int32)) ^^^ (-1 : Int32)))) < p1 → ¬ (F 2) < 0) (h8 : (F 5) = 0 → (F 2) < (4 : Int32) → ¬ p1 < (1 : Int32) → ¬ (f_validAlign p2) = 0 → ¬ ((F 0) - ((((F 3) + p2) - (1 : Int32)) &&& ((p2 - (1 : Int32)) ^^^ (-1 : Int32)))) < p1 → Q (some (.int (F 2))) (10, (ups (ups F 2 ((F 2) + (1 : Int32))) 3 (((((F 3) + p2) - (1 : Int32)) &&& ((p2 - (1 : Int32)) ^^^ (-1 : Int32))) + p1)), G, (A_clearWords (ups (ups A 0 (ups (A 0) (F 2) ((((F 3) + p2) - (1 : Int32)) &&& ((p2 - (1 : Int32)) ^^^ (-1 : Int32))))) 1 (ups (A 1) (F 2) p1)) (F 3) (((((F 3) + p2) - (1 : Int32)) &&& ((p2 - (1 : Int32)) ^^^ (-1 : Int32))) + p1)), B)) (h9 : (F 5) = 0 → (F 2) < (4 : Int32) → ¬ p1 < (1 : Int32) → ¬ (f_validAlign p2) = 0 → ((F 0) - ((((F 3) + p2) - (1 : Int32)) &&& ((p2 - (1 : Int32)) ^^^ (-1 : Int32)))) < p1 → Q (some (.int (-3 : Int32))) (10, F, G, A, B)) (h10 : (F 5) = 0 → (F 2) < (4 : Int32) → ¬ p1 < (1 : Int32) → (f_validAlign p2) = 0 → Q (some (.int (-2 : Int32))) (10, F, G, A, B)) (h11 : (F 5) = 0 → ¬ (F 2) < (4 : Int32) → Q (some (.int (-3 : Int32))) (10, F, G, A, B)) (h12 : ¬ (F 5) = 0 → Q (some (.int (-1 : Int32))) (10, F, G, A, B)) :
    Wk l Z (MoC Z cdC) md_addSection 0 [.val (.ref 0), .val (.int p1), .val (.int p2), .unset, .unset] [] (10, F, G, A, B) 0 0 Q := by
  refine Wk.aloadN o_addSection_0 rfl ?_
  refine Wk.getI (mI_state) (wf_state H) o_addSection_1 (x := (F 5)) rfl ?_
  refine Wk.if_eq o_addSection_4 (fun q1 => ?_) (fun q1 => ?_)
  · refine Wk.aloadN o_addSection_9 rfl ?_
    refine Wk.getI (mI_nSec) (wf_nSec H) o_addSection_10 (x := (F 2)) rfl ?_
    refine Wk.iconst o_addSection_13 (z := (4 : Int32)) (by decide) ?_
    refine Wk.icmp_lt o_addSection_14 (fun q2 => ?_) (fun q2 => ?_)
    · refine Wk.iloadN o_addSection_20 rfl ?_
      refine Wk.iconst o_addSection_21 (z := (1 : Int32)) (by decide) ?_
      refine Wk.icmp_lt o_addSection_22 (fun q3 => ?_) (fun q3 => ?_)
      · refine Wk.bipush o_addSection_33 (z := (-2 : Int32)) (by decide) ?_
        exact Wk.ireturn mrC rfl o_addSection_35 rfl (by decide) (by decide) (h4 q1 q2 q3)
      · refine Wk.aloadN o_addSection_25 rfl ?_
        refine Wk.iloadN o_addSection_26 rfl ?_
        refine Wk.callF [.int p2] [] (H.w 80 rfl) (cv_validAlign H) o_addSection_27 (run_validAlign H F G A B p2) (wt := 0) (cu' := 0) (su' := 0) (by decide) rfl rfl rfl rfl rfl rfl rfl ?_
        refine Wk.if_ne o_addSection_30 (fun q5 => ?_) (fun q5 => ?_)
        · refine Wk.aloadN o_addSection_36 rfl ?_
          refine Wk.getI (mI_imgSize) (wf_imgSize H) o_addSection_37 (x := (F 3)) rfl ?_
          refine Wk.iloadN o_addSection_40 rfl ?_
          refine Wk.iadd o_addSection_41 ?_
          refine Wk.iconst o_addSection_42 (z := (1 : Int32)) (by decide) ?_
          refine Wk.isub o_addSection_43 ?_
          refine Wk.iloadN o_addSection_44 rfl ?_
          refine Wk.iconst o_addSection_45 (z := (1 : Int32)) (by decide) ?_
          refine Wk.isub o_addSection_46 ?_
          refine Wk.iconst o_addSection_47 (z := (-1 : Int32)) (by decide) ?_
          refine Wk.ixor o_addSection_48 ?_
          refine Wk.iand o_addSection_49 ?_
          refine Wk.istoreN o_addSection_50 (Or.inl rfl) (L' := [.val (.ref 0), .val (.int p1), .val (.int p2), .val (.int ((((F 3) + p2) - (1 : Int32)) &&& ((p2 - (1 : Int32)) ^^^ (-1 : Int32)))), .unset]) rfl ?_
          refine Wk.iloadN o_addSection_51 rfl ?_
          refine Wk.aloadN o_addSection_52 rfl ?_
          refine Wk.getI (mI_cap) (wf_cap H) o_addSection_53 (x := (F 0)) rfl ?_
          refine Wk.iloadN o_addSection_56 rfl ?_
          refine Wk.isub o_addSection_57 ?_
          refine Wk.icmp_le o_addSection_58 (fun q6 => ?_) (fun q6 => ?_)
          · refine Wk.aloadN o_addSection_64 rfl ?_
            refine Wk.getI (mI_nSec) (wf_nSec H) o_addSection_65 (x := (F 2)) rfl ?_
            refine Wk.istore o_addSection_68 (Or.inl rfl) (L' := [.val (.ref 0), .val (.int p1), .val (.int p2), .val (.int ((((F 3) + p2) - (1 : Int32)) &&& ((p2 - (1 : Int32)) ^^^ (-1 : Int32)))), .val (.int (F 2))]) rfl ?_
            refine Wk.aloadN o_addSection_70 rfl ?_
            refine Wk.getA (mA_secStart) (by decide) (i' := 1) rfl (wf_secStart H) o_addSection_71 ?_
            refine Wk.iload o_addSection_74 rfl ?_
            refine Wk.iloadN o_addSection_76 rfl ?_
            refine Wk.iastore (coC H) (f := (A 0)) (mA_secStart) rfl (by decide) (i' := 1) rfl (s7 q1 q2 q3 q5 q6) q2 o_addSection_77 ?_
            refine Wk.aloadN o_addSection_78 rfl ?_
            refine Wk.getA (mA_secSize) (by decide) (i' := 2) rfl (wf_secSize H) o_addSection_79 ?_
            refine Wk.iload o_addSection_82 rfl ?_
            refine Wk.iloadN o_addSection_84 rfl ?_
            refine Wk.iastore (coC H) (f := (A 1)) (mA_secSize) rfl (by decide) (i' := 2) rfl (s7 q1 q2 q3 q5 q6) q2 o_addSection_85 ?_
            refine Wk.aloadN o_addSection_86 rfl ?_
            refine Wk.aloadN o_addSection_87 rfl ?_
            refine Wk.getI (mI_nSec) (wf_nSec H) o_addSection_88 (x := (F 2)) rfl ?_
            refine Wk.iconst o_addSection_91 (z := (1 : Int32)) (by decide) ?_
            refine Wk.iadd o_addSection_92 ?_
            refine Wk.putI (coC H) (mI_nSec) (wf_nSec H) (Or.inl (wy_nSec H)) o_addSection_93 ?_
            refine Wk.aloadN o_addSection_96 rfl ?_
            refine Wk.aloadN o_addSection_97 rfl ?_
            refine Wk.getI (mI_imgSize) (wf_imgSize H) o_addSection_98 (x := (F 3)) rfl ?_
            refine Wk.iloadN o_addSection_101 rfl ?_
            refine Wk.iloadN o_addSection_102 rfl ?_
            refine Wk.iadd o_addSection_103 ?_
            refine Wk.callU [.int (F 3), .int (((((F 3) + p2) - (1 : Int32)) &&& ((p2 - (1 : Int32)) ^^^ (-1 : Int32))) + p1)] [] (H.w 84 rfl) (cv_clearWords H) o_addSection_104 (run_clearWords H (ups F 2 ((F 2) + (1 : Int32))) G (ups (ups A 0 (ups (A 0) (F 2) ((((F 3) + p2) - (1 : Int32)) &&& ((p2 - (1 : Int32)) ^^^ (-1 : Int32))))) 1 (ups (A 1) (F 2) p1)) B (F 3) (((((F 3) + p2) - (1 : Int32)) &&& ((p2 - (1 : Int32)) ^^^ (-1 : Int32))) + p1)) (wt := 0) (cu' := 0) (su' := 0) (by decide) rfl rfl rfl rfl rfl rfl rfl ?_
            refine Wk.aloadN o_addSection_107 rfl ?_
            refine Wk.iloadN o_addSection_108 rfl ?_
            refine Wk.iloadN o_addSection_109 rfl ?_
            refine Wk.iadd o_addSection_110 ?_
            refine Wk.putI (coC H) (mI_imgSize) (wf_imgSize H) (Or.inl (wy_imgSize H)) o_addSection_111 ?_
            refine Wk.iload o_addSection_114 rfl ?_
            exact Wk.ireturn mrC rfl o_addSection_116 rfl (by decide) (by decide) (h8 q1 q2 q3 q5 q6)
          · refine Wk.bipush o_addSection_61 (z := (-3 : Int32)) (by decide) ?_
            exact Wk.ireturn mrC rfl o_addSection_63 rfl (by decide) (by decide) (h9 q1 q2 q3 q5 q6)
        · refine Wk.bipush o_addSection_33 (z := (-2 : Int32)) (by decide) ?_
          exact Wk.ireturn mrC rfl o_addSection_35 rfl (by decide) (by decide) (h10 q1 q2 q3 q5)
    · refine Wk.bipush o_addSection_17 (z := (-3 : Int32)) (by decide) ?_
      exact Wk.ireturn mrC rfl o_addSection_19 rfl (by decide) (by decide) (h11 q1 q2)
  · refine Wk.iconst o_addSection_7 (z := (-1 : Int32)) (by decide) ?_
    exact Wk.ireturn mrC rfl o_addSection_8 rfl (by decide) (by decide) (h12 q1)

def f_addSection (F : Nat → Int32) (p1 : Int32) (p2 : Int32) : Int32 := (if (F 5) = 0 then (if (F 2) < (4 : Int32) then (if p1 < (1 : Int32) then (-2 : Int32) else (if (f_validAlign p2) = 0 then (-2 : Int32) else (if ((F 0) - ((((F 3) + p2) - (1 : Int32)) &&& ((p2 - (1 : Int32)) ^^^ (-1 : Int32)))) < p1 then (-3 : Int32) else (F 2)))) else (-3 : Int32)) else (-1 : Int32))
theorem e_addSection (F : Nat → Int32) (p1 : Int32) (p2 : Int32) : f_addSection F p1 p2 = (if (F 5) = 0 then (if (F 2) < (4 : Int32) then (if p1 < (1 : Int32) then (-2 : Int32) else (if (f_validAlign p2) = 0 then (-2 : Int32) else (if ((F 0) - ((((F 3) + p2) - (1 : Int32)) &&& ((p2 - (1 : Int32)) ^^^ (-1 : Int32)))) < p1 then (-3 : Int32) else (F 2)))) else (-3 : Int32)) else (-1 : Int32)) := Eq.trans rfl rfl
def F_addSection (F : Nat → Int32) (p1 : Int32) (p2 : Int32) : Nat → Int32 := (if (F 5) = 0 then (if (F 2) < (4 : Int32) then (if p1 < (1 : Int32) then F else (if (f_validAlign p2) = 0 then F else (if ((F 0) - ((((F 3) + p2) - (1 : Int32)) &&& ((p2 - (1 : Int32)) ^^^ (-1 : Int32)))) < p1 then F else (ups (ups F 2 ((F 2) + (1 : Int32))) 3 (((((F 3) + p2) - (1 : Int32)) &&& ((p2 - (1 : Int32)) ^^^ (-1 : Int32))) + p1))))) else F) else F)
theorem eF_addSection (F : Nat → Int32) (p1 : Int32) (p2 : Int32) : F_addSection F p1 p2 = (if (F 5) = 0 then (if (F 2) < (4 : Int32) then (if p1 < (1 : Int32) then F else (if (f_validAlign p2) = 0 then F else (if ((F 0) - ((((F 3) + p2) - (1 : Int32)) &&& ((p2 - (1 : Int32)) ^^^ (-1 : Int32)))) < p1 then F else (ups (ups F 2 ((F 2) + (1 : Int32))) 3 (((((F 3) + p2) - (1 : Int32)) &&& ((p2 - (1 : Int32)) ^^^ (-1 : Int32))) + p1))))) else F) else F) := Eq.trans rfl rfl
def A_addSection (F : Nat → Int32) (A : Nat → Int32 → Int32) (p1 : Int32) (p2 : Int32) : Nat → Int32 → Int32 := (if (F 5) = 0 then (if (F 2) < (4 : Int32) then (if p1 < (1 : Int32) then A else (if (f_validAlign p2) = 0 then A else (if ((F 0) - ((((F 3) + p2) - (1 : Int32)) &&& ((p2 - (1 : Int32)) ^^^ (-1 : Int32)))) < p1 then A else (A_clearWords (ups (ups A 0 (ups (A 0) (F 2) ((((F 3) + p2) - (1 : Int32)) &&& ((p2 - (1 : Int32)) ^^^ (-1 : Int32))))) 1 (ups (A 1) (F 2) p1)) (F 3) (((((F 3) + p2) - (1 : Int32)) &&& ((p2 - (1 : Int32)) ^^^ (-1 : Int32))) + p1))))) else A) else A)
theorem eA_addSection (F : Nat → Int32) (A : Nat → Int32 → Int32) (p1 : Int32) (p2 : Int32) : A_addSection F A p1 p2 = (if (F 5) = 0 then (if (F 2) < (4 : Int32) then (if p1 < (1 : Int32) then A else (if (f_validAlign p2) = 0 then A else (if ((F 0) - ((((F 3) + p2) - (1 : Int32)) &&& ((p2 - (1 : Int32)) ^^^ (-1 : Int32)))) < p1 then A else (A_clearWords (ups (ups A 0 (ups (A 0) (F 2) ((((F 3) + p2) - (1 : Int32)) &&& ((p2 - (1 : Int32)) ^^^ (-1 : Int32))))) 1 (ups (A 1) (F 2) p1)) (F 3) (((((F 3) + p2) - (1 : Int32)) &&& ((p2 - (1 : Int32)) ^^^ (-1 : Int32))) + p1))))) else A) else A) := Eq.trans rfl rfl
theorem F_addSection_0 (F : Nat → Int32) (p1 : Int32) (p2 : Int32) : F_addSection F p1 p2 0 = (F 0) := by
  rw [eF_addSection]
  by_cases q1 : (F 5) = 0
  · try simp only [if_pos q1]
    by_cases q2 : (F 2) < (4 : Int32)
    · try simp only [if_pos q2]
      by_cases q3 : p1 < (1 : Int32)
      · try simp only [if_pos q3]
        all_goals rfl
      · try simp only [if_neg q3]
        by_cases q4 : (f_validAlign p2) = 0
        · try simp only [if_pos q4]
          all_goals rfl
        · try simp only [if_neg q4]
          by_cases q5 : ((F 0) - ((((F 3) + p2) - (1 : Int32)) &&& ((p2 - (1 : Int32)) ^^^ (-1 : Int32)))) < p1
          · try simp only [if_pos q5]
            all_goals rfl
          · try simp only [if_neg q5]
            all_goals rfl
    · try simp only [if_neg q2]
      all_goals rfl
  · try simp only [if_neg q1]
    all_goals rfl
theorem F_addSection_1 (F : Nat → Int32) (p1 : Int32) (p2 : Int32) : F_addSection F p1 p2 1 = (F 1) := by
  rw [eF_addSection]
  by_cases q1 : (F 5) = 0
  · try simp only [if_pos q1]
    by_cases q2 : (F 2) < (4 : Int32)
    · try simp only [if_pos q2]
      by_cases q3 : p1 < (1 : Int32)
      · try simp only [if_pos q3]
        all_goals rfl
      · try simp only [if_neg q3]
        by_cases q4 : (f_validAlign p2) = 0
        · try simp only [if_pos q4]
          all_goals rfl
        · try simp only [if_neg q4]
          by_cases q5 : ((F 0) - ((((F 3) + p2) - (1 : Int32)) &&& ((p2 - (1 : Int32)) ^^^ (-1 : Int32)))) < p1
          · try simp only [if_pos q5]
            all_goals rfl
          · try simp only [if_neg q5]
            all_goals rfl
    · try simp only [if_neg q2]
      all_goals rfl
  · try simp only [if_neg q1]
    all_goals rfl
theorem F_addSection_2 (F : Nat → Int32) (p1 : Int32) (p2 : Int32) : F_addSection F p1 p2 2 = (if (F 5) = 0 then (if (F 2) < (4 : Int32) then (if p1 < (1 : Int32) then (F 2) else (if (f_validAlign p2) = 0 then (F 2) else (if ((F 0) - ((((F 3) + p2) - (1 : Int32)) &&& ((p2 - (1 : Int32)) ^^^ (-1 : Int32)))) < p1 then (F 2) else ((F 2) + (1 : Int32))))) else (F 2)) else (F 2)) := by
  rw [eF_addSection]
  by_cases q1 : (F 5) = 0
  · try simp only [if_pos q1]
    by_cases q2 : (F 2) < (4 : Int32)
    · try simp only [if_pos q2]
      by_cases q3 : p1 < (1 : Int32)
      · try simp only [if_pos q3]
        all_goals rfl
      · try simp only [if_neg q3]
        by_cases q4 : (f_validAlign p2) = 0
        · try simp only [if_pos q4]
          all_goals rfl
        · try simp only [if_neg q4]
          by_cases q5 : ((F 0) - ((((F 3) + p2) - (1 : Int32)) &&& ((p2 - (1 : Int32)) ^^^ (-1 : Int32)))) < p1
          · try simp only [if_pos q5]
            all_goals rfl
          · try simp only [if_neg q5]
            all_goals rfl
    · try simp only [if_neg q2]
      all_goals rfl
  · try simp only [if_neg q1]
    all_goals rfl
theorem F_addSection_3 (F : Nat → Int32) (p1 : Int32) (p2 : Int32) : F_addSection F p1 p2 3 = (if (F 5) = 0 then (if (F 2) < (4 : Int32) then (if p1 < (1 : Int32) then (F 3) else (if (f_validAlign p2) = 0 then (F 3) else (if ((F 0) - ((((F 3) + p2) - (1 : Int32)) &&& ((p2 - (1 : Int32)) ^^^ (-1 : Int32)))) < p1 then (F 3) else (((((F 3) + p2) - (1 : Int32)) &&& ((p2 - (1 : Int32)) ^^^ (-1 : Int32))) + p1)))) else (F 3)) else (F 3)) := by
  rw [eF_addSection]
  by_cases q1 : (F 5) = 0
  · try simp only [if_pos q1]
    by_cases q2 : (F 2) < (4 : Int32)
    · try simp only [if_pos q2]
      by_cases q3 : p1 < (1 : Int32)
      · try simp only [if_pos q3]
        all_goals rfl
      · try simp only [if_neg q3]
        by_cases q4 : (f_validAlign p2) = 0
        · try simp only [if_pos q4]
          all_goals rfl
        · try simp only [if_neg q4]
          by_cases q5 : ((F 0) - ((((F 3) + p2) - (1 : Int32)) &&& ((p2 - (1 : Int32)) ^^^ (-1 : Int32)))) < p1
          · try simp only [if_pos q5]
            all_goals rfl
          · try simp only [if_neg q5]
            all_goals rfl
    · try simp only [if_neg q2]
      all_goals rfl
  · try simp only [if_neg q1]
    all_goals rfl
theorem F_addSection_4 (F : Nat → Int32) (p1 : Int32) (p2 : Int32) : F_addSection F p1 p2 4 = (F 4) := by
  rw [eF_addSection]
  by_cases q1 : (F 5) = 0
  · try simp only [if_pos q1]
    by_cases q2 : (F 2) < (4 : Int32)
    · try simp only [if_pos q2]
      by_cases q3 : p1 < (1 : Int32)
      · try simp only [if_pos q3]
        all_goals rfl
      · try simp only [if_neg q3]
        by_cases q4 : (f_validAlign p2) = 0
        · try simp only [if_pos q4]
          all_goals rfl
        · try simp only [if_neg q4]
          by_cases q5 : ((F 0) - ((((F 3) + p2) - (1 : Int32)) &&& ((p2 - (1 : Int32)) ^^^ (-1 : Int32)))) < p1
          · try simp only [if_pos q5]
            all_goals rfl
          · try simp only [if_neg q5]
            all_goals rfl
    · try simp only [if_neg q2]
      all_goals rfl
  · try simp only [if_neg q1]
    all_goals rfl
theorem F_addSection_5 (F : Nat → Int32) (p1 : Int32) (p2 : Int32) : F_addSection F p1 p2 5 = (F 5) := by
  rw [eF_addSection]
  by_cases q1 : (F 5) = 0
  · try simp only [if_pos q1]
    by_cases q2 : (F 2) < (4 : Int32)
    · try simp only [if_pos q2]
      by_cases q3 : p1 < (1 : Int32)
      · try simp only [if_pos q3]
        all_goals rfl
      · try simp only [if_neg q3]
        by_cases q4 : (f_validAlign p2) = 0
        · try simp only [if_pos q4]
          all_goals rfl
        · try simp only [if_neg q4]
          by_cases q5 : ((F 0) - ((((F 3) + p2) - (1 : Int32)) &&& ((p2 - (1 : Int32)) ^^^ (-1 : Int32)))) < p1
          · try simp only [if_pos q5]
            all_goals rfl
          · try simp only [if_neg q5]
            all_goals rfl
    · try simp only [if_neg q2]
      all_goals rfl
  · try simp only [if_neg q1]
    all_goals rfl
theorem F_addSection_6 (F : Nat → Int32) (p1 : Int32) (p2 : Int32) : F_addSection F p1 p2 6 = (F 6) := by
  rw [eF_addSection]
  by_cases q1 : (F 5) = 0
  · try simp only [if_pos q1]
    by_cases q2 : (F 2) < (4 : Int32)
    · try simp only [if_pos q2]
      by_cases q3 : p1 < (1 : Int32)
      · try simp only [if_pos q3]
        all_goals rfl
      · try simp only [if_neg q3]
        by_cases q4 : (f_validAlign p2) = 0
        · try simp only [if_pos q4]
          all_goals rfl
        · try simp only [if_neg q4]
          by_cases q5 : ((F 0) - ((((F 3) + p2) - (1 : Int32)) &&& ((p2 - (1 : Int32)) ^^^ (-1 : Int32)))) < p1
          · try simp only [if_pos q5]
            all_goals rfl
          · try simp only [if_neg q5]
            all_goals rfl
    · try simp only [if_neg q2]
      all_goals rfl
  · try simp only [if_neg q1]
    all_goals rfl
theorem F_addSection_7 (F : Nat → Int32) (p1 : Int32) (p2 : Int32) : F_addSection F p1 p2 7 = (F 7) := by
  rw [eF_addSection]
  by_cases q1 : (F 5) = 0
  · try simp only [if_pos q1]
    by_cases q2 : (F 2) < (4 : Int32)
    · try simp only [if_pos q2]
      by_cases q3 : p1 < (1 : Int32)
      · try simp only [if_pos q3]
        all_goals rfl
      · try simp only [if_neg q3]
        by_cases q4 : (f_validAlign p2) = 0
        · try simp only [if_pos q4]
          all_goals rfl
        · try simp only [if_neg q4]
          by_cases q5 : ((F 0) - ((((F 3) + p2) - (1 : Int32)) &&& ((p2 - (1 : Int32)) ^^^ (-1 : Int32)))) < p1
          · try simp only [if_pos q5]
            all_goals rfl
          · try simp only [if_neg q5]
            all_goals rfl
    · try simp only [if_neg q2]
      all_goals rfl
  · try simp only [if_neg q1]
    all_goals rfl
theorem run_addSection {l : Launch} {Z : State} {a0 : Array Value} (H : OK Z a0) (F : Nat → Int32) (G : Nat → Int64) (A : Nat → Int32 → Int32) (B : Nat → Int32 → Int64) (p1 : Int32) (p2 : Int32) (e1 : ¬ (F 2) < 0) :
    Wk l Z (MoC Z cdC) md_addSection 0 [.val (.ref 0), .val (.int p1), .val (.int p2), .unset, .unset] [] (10, F, G, A, B) 0 0 (fun v w' => v = some (.int (f_addSection F p1 p2)) ∧ w' = (10, (F_addSection F p1 p2), G, (A_addSection F A p1 p2), B)) :=
  wp_addSection H F G A B p1 p2 (fun q1 q2 q3 => ⟨by simp only [e_addSection, if_pos q1, if_pos q2, if_pos q3], by simp only [eF_addSection, eA_addSection, if_pos q1, if_pos q2, if_pos q3]⟩) (by intros; assumption) (fun q1 q2 q3 q5 q6 => ⟨by simp only [e_addSection, if_pos q1, if_pos q2, if_neg q3, if_neg q5, if_neg q6], by simp only [eF_addSection, eA_addSection, if_pos q1, if_pos q2, if_neg q3, if_neg q5, if_neg q6]⟩) (fun q1 q2 q3 q5 q6 => ⟨by simp only [e_addSection, if_pos q1, if_pos q2, if_neg q3, if_neg q5, if_pos q6], by simp only [eF_addSection, eA_addSection, if_pos q1, if_pos q2, if_neg q3, if_neg q5, if_pos q6]⟩) (fun q1 q2 q3 q5 => ⟨by simp only [e_addSection, if_pos q1, if_pos q2, if_neg q3, if_pos q5], by simp only [eF_addSection, eA_addSection, if_pos q1, if_pos q2, if_neg q3, if_pos q5]⟩) (fun q1 q2 => ⟨by simp only [e_addSection, if_pos q1, if_neg q2], by simp only [eF_addSection, eA_addSection, if_pos q1, if_neg q2]⟩) (fun q1 => ⟨by simp only [e_addSection, if_neg q1], by simp only [eF_addSection, eA_addSection, if_neg q1]⟩)
set_option maxRecDepth 65536 in
set_option maxHeartbeats 4000000 in
theorem wp_validPos {l : Launch} {Z : State} {a0 : Array Value} (H : OK Z a0) (F : Nat → Int32) (G : Nat → Int64) (A : Nat → Int32 → Int32) (B : Nat → Int32 → Int64) (p1 : Int32) {Q : Option Value → WO → Prop} (s3 : ¬ p1 < 0 → (p1 >>> ((8 : Int32) &&& 31)) < (F 2) → ¬ (p1 >>> ((8 : Int32) &&& 31)) < 0) (s4 : ¬ p1 < 0 → (p1 >>> ((8 : Int32) &&& 31)) < (F 2) → (p1 >>> ((8 : Int32) &&& 31)) < (4 : Int32)) (h7 : ¬ p1 < 0 → (p1 >>> ((8 : Int32) &&& 31)) < (F 2) → Q (some (.int (nar .boolean (if (p1 &&& (255 : Int32)) < ((A 1) (p1 >>> ((8 : Int32) &&& 31))) then (1 : Int32) else (0 : Int32))))) (10, F, G, A, B)) (h8 : ¬ p1 < 0 → ¬ (p1 >>> ((8 : Int32) &&& 31)) < (F 2) → Q (some (.int (0 : Int32))) (10, F, G, A, B)) (h9 : p1 < 0 → Q (some (.int (0 : Int32))) (10, F, G, A, B)) :
    Wk l Z (MoC Z cdC) md_validPos 0 [.val (.ref 0), .val (.int p1), .unset] [] (10, F, G, A, B) 0 0 Q := by
  refine Wk.iloadN o_validPos_0 rfl ?_
  refine Wk.if_ge o_validPos_1 (fun q1 => ?_) (fun q1 => ?_)
  · refine Wk.iloadN o_validPos_6 rfl ?_
    refine Wk.bipush o_validPos_7 (z := (8 : Int32)) (by decide) ?_
    refine Wk.ishr o_validPos_9 ?_
    refine Wk.istoreN o_validPos_10 (Or.inl rfl) (L' := [.val (.ref 0), .val (.int p1), .val (.int (p1 >>> ((8 : Int32) &&& 31)))]) rfl ?_
    refine Wk.iloadN o_validPos_11 rfl ?_
    refine Wk.aloadN o_validPos_12 rfl ?_
    refine Wk.getI (mI_nSec) (wf_nSec H) o_validPos_13 (x := (F 2)) rfl ?_
    refine Wk.icmp_lt o_validPos_16 (fun q2 => ?_) (fun q2 => ?_)
    · refine Wk.iloadN o_validPos_21 rfl ?_
      refine Wk.sipush o_validPos_22 (z := (255 : Int32)) (by decide) ?_
      refine Wk.iand o_validPos_25 ?_
      refine Wk.aloadN o_validPos_26 rfl ?_
      refine Wk.getA (mA_secSize) (by decide) (i' := 2) rfl (wf_secSize H) o_validPos_27 ?_
      refine Wk.iloadN o_validPos_30 rfl ?_
      refine Wk.iaload (mA_secSize) (by decide) (i' := 2) rfl (s3 q1 q2) (s4 q1 q2) o_validPos_31 (y := ((A 1) (p1 >>> ((8 : Int32) &&& 31)))) rfl ?_
      have J6 : Wk l Z (MoC Z cdC) md_validPos 40 [.val (.ref 0), .val (.int p1), .val (.int (p1 >>> ((8 : Int32) &&& 31)))] [.int (if (p1 &&& (255 : Int32)) < ((A 1) (p1 >>> ((8 : Int32) &&& 31))) then (1 : Int32) else (0 : Int32))] (10, F, G, A, B) 0 0 Q := by
        exact Wk.zreturn mrC rfl o_validPos_40 rfl (by decide) (by decide) (y := (nar .boolean (if (p1 &&& (255 : Int32)) < ((A 1) (p1 >>> ((8 : Int32) &&& 31))) then (1 : Int32) else (0 : Int32)))) rfl (h7 q1 q2)
      refine Wk.icmp_ge o_validPos_32 (fun q5 => ?_) (fun q5 => ?_)
      · refine Wk.iconst o_validPos_39 (z := (0 : Int32)) (by decide) ?_
        first | exact J6 | (simp only [if_neg q5] at J6 ⊢; exact J6)
      · refine Wk.iconst o_validPos_35 (z := (1 : Int32)) (by decide) ?_
        refine Wk.goto o_validPos_36 ?_
        first | exact J6 | (simp only [if_pos q5] at J6 ⊢; exact J6)
    · refine Wk.iconst o_validPos_19 (z := (0 : Int32)) (by decide) ?_
      exact Wk.zreturn mrC rfl o_validPos_20 rfl (by decide) (by decide) (y := (0 : Int32)) (by decide) (h8 q1 q2)
  · refine Wk.iconst o_validPos_4 (z := (0 : Int32)) (by decide) ?_
    exact Wk.zreturn mrC rfl o_validPos_5 rfl (by decide) (by decide) (y := (0 : Int32)) (by decide) (h9 q1)

def f_validPos (F : Nat → Int32) (A : Nat → Int32 → Int32) (p1 : Int32) : Int32 := (if p1 < 0 then (0 : Int32) else (if (p1 >>> ((8 : Int32) &&& 31)) < (F 2) then (nar .boolean (if (p1 &&& (255 : Int32)) < ((A 1) (p1 >>> ((8 : Int32) &&& 31))) then (1 : Int32) else (0 : Int32))) else (0 : Int32)))
theorem e_validPos (F : Nat → Int32) (A : Nat → Int32 → Int32) (p1 : Int32) : f_validPos F A p1 = (if p1 < 0 then (0 : Int32) else (if (p1 >>> ((8 : Int32) &&& 31)) < (F 2) then (nar .boolean (if (p1 &&& (255 : Int32)) < ((A 1) (p1 >>> ((8 : Int32) &&& 31))) then (1 : Int32) else (0 : Int32))) else (0 : Int32))) := Eq.trans rfl rfl
theorem bz_validPos (F : Nat → Int32) (A : Nat → Int32 → Int32) (p1 : Int32) : nar .boolean (f_validPos F A p1) = f_validPos F A p1 := by
  unfold f_validPos
  (repeat' split) <;> first | rfl | exact nar_nar _
theorem run_validPos {l : Launch} {Z : State} {a0 : Array Value} (H : OK Z a0) (F : Nat → Int32) (G : Nat → Int64) (A : Nat → Int32 → Int32) (B : Nat → Int32 → Int64) (p1 : Int32) (s3 : ¬ p1 < 0 → (p1 >>> ((8 : Int32) &&& 31)) < (F 2) → ¬ (p1 >>> ((8 : Int32) &&& 31)) < 0) (s4 : ¬ p1 < 0 → (p1 >>> ((8 : Int32) &&& 31)) < (F 2) → (p1 >>> ((8 : Int32) &&& 31)) < (4 : Int32)) :
    Wk l Z (MoC Z cdC) md_validPos 0 [.val (.ref 0), .val (.int p1), .unset] [] (10, F, G, A, B) 0 0 (fun v w' => v = some (.int (f_validPos F A p1)) ∧ w' = (10, F, G, A, B)) :=
  wp_validPos H F G A B p1 s3 s4 (fun q1 q2 => ⟨by simp only [e_validPos, if_neg q1, if_pos q2], rfl⟩) (fun q1 q2 => ⟨by simp only [e_validPos, if_neg q1, if_neg q2], rfl⟩) (fun q1 => ⟨by simp only [e_validPos, if_pos q1], rfl⟩)
set_option maxRecDepth 65536 in
set_option maxHeartbeats 4000000 in
theorem wp_offsetOf {l : Launch} {Z : State} {a0 : Array Value} (H : OK Z a0) (F : Nat → Int32) (G : Nat → Int64) (A : Nat → Int32 → Int32) (B : Nat → Int32 → Int64) (p1 : Int32) {Q : Option Value → WO → Prop} (s1 : ¬ (p1 >>> ((8 : Int32) &&& 31)) < 0) (s2 : (p1 >>> ((8 : Int32) &&& 31)) < (4 : Int32)) (h3 : Q (some (.int (((A 0) (p1 >>> ((8 : Int32) &&& 31))) + (p1 &&& (255 : Int32))))) (10, F, G, A, B)) :
    Wk l Z (MoC Z cdC) md_offsetOf 0 [.val (.ref 0), .val (.int p1)] [] (10, F, G, A, B) 0 0 Q := by
  refine Wk.aloadN o_offsetOf_0 rfl ?_
  refine Wk.getA (mA_secStart) (by decide) (i' := 1) rfl (wf_secStart H) o_offsetOf_1 ?_
  refine Wk.iloadN o_offsetOf_4 rfl ?_
  refine Wk.bipush o_offsetOf_5 (z := (8 : Int32)) (by decide) ?_
  refine Wk.ishr o_offsetOf_7 ?_
  refine Wk.iaload (mA_secStart) (by decide) (i' := 1) rfl s1 s2 o_offsetOf_8 (y := ((A 0) (p1 >>> ((8 : Int32) &&& 31)))) rfl ?_
  refine Wk.iloadN o_offsetOf_9 rfl ?_
  refine Wk.sipush o_offsetOf_10 (z := (255 : Int32)) (by decide) ?_
  refine Wk.iand o_offsetOf_13 ?_
  refine Wk.iadd o_offsetOf_14 ?_
  exact Wk.ireturn mrC rfl o_offsetOf_15 rfl (by decide) (by decide) h3

def f_offsetOf (A : Nat → Int32 → Int32) (p1 : Int32) : Int32 := (((A 0) (p1 >>> ((8 : Int32) &&& 31))) + (p1 &&& (255 : Int32)))
theorem e_offsetOf (A : Nat → Int32 → Int32) (p1 : Int32) : f_offsetOf A p1 = (((A 0) (p1 >>> ((8 : Int32) &&& 31))) + (p1 &&& (255 : Int32))) := Eq.trans rfl rfl
theorem run_offsetOf {l : Launch} {Z : State} {a0 : Array Value} (H : OK Z a0) (F : Nat → Int32) (G : Nat → Int64) (A : Nat → Int32 → Int32) (B : Nat → Int32 → Int64) (p1 : Int32) (s1 : ¬ (p1 >>> ((8 : Int32) &&& 31)) < 0) (s2 : (p1 >>> ((8 : Int32) &&& 31)) < (4 : Int32)) :
    Wk l Z (MoC Z cdC) md_offsetOf 0 [.val (.ref 0), .val (.int p1)] [] (10, F, G, A, B) 0 0 (fun v w' => v = some (.int (f_offsetOf A p1)) ∧ w' = (10, F, G, A, B)) :=
  wp_offsetOf H F G A B p1 s1 s2 ⟨rfl, rfl⟩
set_option maxRecDepth 65536 in
set_option maxHeartbeats 4000000 in
theorem wp_setWord {l : Launch} {Z : State} {a0 : Array Value} (H : OK Z a0) (F : Nat → Int32) (G : Nat → Int64) (A : Nat → Int32 → Int32) (B : Nat → Int32 → Int64) (p1 : Int32) (p2 : Int32) {Q : Option Value → WO → Prop} (s2 : (F 5) = 0 → ¬ p1 < 0 → (p1 >>> ((8 : Int32) &&& 31)) < (F 2) → ¬ (p1 >>> ((8 : Int32) &&& 31)) < 0) (s3 : (F 5) = 0 → ¬ p1 < 0 → (p1 >>> ((8 : Int32) &&& 31)) < (F 2) → (p1 >>> ((8 : Int32) &&& 31)) < (4 : Int32)) (s5 : (F 5) = 0 → ¬ (f_validPos F A p1) = 0 → ¬ (p1 >>> ((8 : Int32) &&& 31)) < 0) (s6 : (F 5) = 0 → ¬ (f_validPos F A p1) = 0 → (p1 >>> ((8 : Int32) &&& 31)) < (4 : Int32)) (s7 : (F 5) = 0 → ¬ (f_validPos F A p1) = 0 → ¬ (f_offsetOf A p1) < 0) (s8 : (F 5) = 0 → ¬ (f_validPos F A p1) = 0 → (f_offsetOf A p1) < (64 : Int32)) (h9 : (F 5) = 0 → ¬ (f_validPos F A p1) = 0 → Q (some (.int (0 : Int32))) (10, F, G, (ups A 2 (ups (A 2) (f_offsetOf A p1) p2)), B)) (h10 : (F 5) = 0 → (f_validPos F A p1) = 0 → Q (some (.int (-2 : Int32))) (10, F, G, A, B)) (h11 : ¬ (F 5) = 0 → Q (some (.int (-1 : Int32))) (10, F, G, A, B)) :
    Wk l Z (MoC Z cdC) md_setWord 0 [.val (.ref 0), .val (.int p1), .val (.int p2), .unset] [] (10, F, G, A, B) 0 0 Q := by
  refine Wk.aloadN o_setWord_0 rfl ?_
  refine Wk.getI (mI_state) (wf_state H) o_setWord_1 (x := (F 5)) rfl ?_
  refine Wk.if_eq o_setWord_4 (fun q1 => ?_) (fun q1 => ?_)
  · refine Wk.aloadN o_setWord_9 rfl ?_
    refine Wk.iloadN o_setWord_10 rfl ?_
    refine Wk.callF [.int p1] [] (H.w 61 rfl) (cv_validPos H) o_setWord_11 (run_validPos H F G A B p1 (s2 q1) (s3 q1)) (wt := 0) (cu' := 0) (su' := 0) (by decide) rfl rfl rfl rfl rfl rfl rfl ?_
    refine Wk.if_ne o_setWord_14 (fun q4 => ?_) (fun q4 => ?_)
    · refine Wk.aloadN o_setWord_20 rfl ?_
      refine Wk.iloadN o_setWord_21 rfl ?_
      refine Wk.callF [.int p1] [] (H.w 88 rfl) (cv_offsetOf H) o_setWord_22 (run_offsetOf H F G A B p1 (s5 q1 q4) (s6 q1 q4)) (wt := 0) (cu' := 0) (su' := 0) (by decide) rfl rfl rfl rfl rfl rfl rfl ?_
      refine Wk.istoreN o_setWord_25 (Or.inl rfl) (L' := [.val (.ref 0), .val (.int p1), .val (.int p2), .val (.int (f_offsetOf A p1))]) rfl ?_
      refine Wk.aloadN o_setWord_26 rfl ?_
      refine Wk.getA (mA_raw) (by decide) (i' := 3) rfl (wf_raw H) o_setWord_27 ?_
      refine Wk.iloadN o_setWord_30 rfl ?_
      refine Wk.iloadN o_setWord_31 rfl ?_
      refine Wk.iastore (coC H) (f := (A 2)) (mA_raw) rfl (by decide) (i' := 3) rfl (s7 q1 q4) (s8 q1 q4) o_setWord_32 ?_
      refine Wk.iconst o_setWord_33 (z := (0 : Int32)) (by decide) ?_
      exact Wk.ireturn mrC rfl o_setWord_34 rfl (by decide) (by decide) (h9 q1 q4)
    · refine Wk.bipush o_setWord_17 (z := (-2 : Int32)) (by decide) ?_
      exact Wk.ireturn mrC rfl o_setWord_19 rfl (by decide) (by decide) (h10 q1 q4)
  · refine Wk.iconst o_setWord_7 (z := (-1 : Int32)) (by decide) ?_
    exact Wk.ireturn mrC rfl o_setWord_8 rfl (by decide) (by decide) (h11 q1)

def f_setWord (F : Nat → Int32) (A : Nat → Int32 → Int32) (p1 : Int32) (p2 : Int32) : Int32 := (if (F 5) = 0 then (if (f_validPos F A p1) = 0 then (-2 : Int32) else (0 : Int32)) else (-1 : Int32))
theorem e_setWord (F : Nat → Int32) (A : Nat → Int32 → Int32) (p1 : Int32) (p2 : Int32) : f_setWord F A p1 p2 = (if (F 5) = 0 then (if (f_validPos F A p1) = 0 then (-2 : Int32) else (0 : Int32)) else (-1 : Int32)) := Eq.trans rfl rfl
def A_setWord (F : Nat → Int32) (A : Nat → Int32 → Int32) (p1 : Int32) (p2 : Int32) : Nat → Int32 → Int32 := (if (F 5) = 0 then (if (f_validPos F A p1) = 0 then A else (ups A 2 (ups (A 2) (f_offsetOf A p1) p2))) else A)
theorem eA_setWord (F : Nat → Int32) (A : Nat → Int32 → Int32) (p1 : Int32) (p2 : Int32) : A_setWord F A p1 p2 = (if (F 5) = 0 then (if (f_validPos F A p1) = 0 then A else (ups A 2 (ups (A 2) (f_offsetOf A p1) p2))) else A) := Eq.trans rfl rfl
theorem run_setWord {l : Launch} {Z : State} {a0 : Array Value} (H : OK Z a0) (F : Nat → Int32) (G : Nat → Int64) (A : Nat → Int32 → Int32) (B : Nat → Int32 → Int64) (p1 : Int32) (p2 : Int32) (s2 : (F 5) = 0 → ¬ p1 < 0 → (p1 >>> ((8 : Int32) &&& 31)) < (F 2) → ¬ (p1 >>> ((8 : Int32) &&& 31)) < 0) (s3 : (F 5) = 0 → ¬ p1 < 0 → (p1 >>> ((8 : Int32) &&& 31)) < (F 2) → (p1 >>> ((8 : Int32) &&& 31)) < (4 : Int32)) (s5 : (F 5) = 0 → ¬ (f_validPos F A p1) = 0 → ¬ (p1 >>> ((8 : Int32) &&& 31)) < 0) (s6 : (F 5) = 0 → ¬ (f_validPos F A p1) = 0 → (p1 >>> ((8 : Int32) &&& 31)) < (4 : Int32)) (s7 : (F 5) = 0 → ¬ (f_validPos F A p1) = 0 → ¬ (f_offsetOf A p1) < 0) (s8 : (F 5) = 0 → ¬ (f_validPos F A p1) = 0 → (f_offsetOf A p1) < (64 : Int32)) :
    Wk l Z (MoC Z cdC) md_setWord 0 [.val (.ref 0), .val (.int p1), .val (.int p2), .unset] [] (10, F, G, A, B) 0 0 (fun v w' => v = some (.int (f_setWord F A p1 p2)) ∧ w' = (10, F, G, (A_setWord F A p1 p2), B)) :=
  wp_setWord H F G A B p1 p2 s2 s3 s5 s6 s7 s8 (fun q1 q4 => ⟨by simp only [e_setWord, if_pos q1, if_neg q4], by simp only [eA_setWord, if_pos q1, if_neg q4]⟩) (fun q1 q4 => ⟨by simp only [e_setWord, if_pos q1, if_pos q4], by simp only [eA_setWord, if_pos q1, if_pos q4]⟩) (fun q1 => ⟨by simp only [e_setWord, if_neg q1], by simp only [eA_setWord, if_neg q1]⟩)
set_option maxRecDepth 65536 in
set_option maxHeartbeats 4000000 in
theorem wp_peek {l : Launch} {Z : State} {a0 : Array Value} (H : OK Z a0) (F : Nat → Int32) (G : Nat → Int64) (A : Nat → Int32 → Int32) (B : Nat → Int32 → Int64) (p1 : Int32) {Q : Option Value → WO → Prop} (h2 : p1 < 0 → Q (some (.int (0 : Int32))) (10, F, G, A, B)) (h4 : ¬ p1 < 0 → ¬ p1 < (F 3) → Q (some (.int (0 : Int32))) (10, F, G, A, B)) (h7 : ¬ p1 < 0 → p1 < (F 3) → p1 < (64 : Int32) → ¬ (F 5) = 0 → Q (some (.int ((A 3) p1))) (10, F, G, A, B)) (h8 : ¬ p1 < 0 → p1 < (F 3) → p1 < (64 : Int32) → (F 5) = 0 → Q (some (.int ((A 2) p1))) (10, F, G, A, B)) (h9 : ¬ p1 < 0 → p1 < (F 3) → ¬ p1 < (64 : Int32) → Q (some (.int (0 : Int32))) (10, F, G, A, B)) :
    Wk l Z (MoC Z cdC) md_peek 0 [.val (.ref 0), .val (.int p1)] [] (10, F, G, A, B) 0 0 Q := by
  refine Wk.iloadN o_peek_0 rfl ?_
  refine Wk.if_lt o_peek_1 (fun q1 => ?_) (fun q1 => ?_)
  · refine Wk.iconst o_peek_18 (z := (0 : Int32)) (by decide) ?_
    exact Wk.ireturn mrC rfl o_peek_19 rfl (by decide) (by decide) (h2 q1)
  · refine Wk.iloadN o_peek_4 rfl ?_
    refine Wk.aloadN o_peek_5 rfl ?_
    refine Wk.getI (mI_imgSize) (wf_imgSize H) o_peek_6 (x := (F 3)) rfl ?_
    refine Wk.icmp_ge o_peek_9 (fun q3 => ?_) (fun q3 => ?_)
    · refine Wk.iconst o_peek_18 (z := (0 : Int32)) (by decide) ?_
      exact Wk.ireturn mrC rfl o_peek_19 rfl (by decide) (by decide) (h4 q1 q3)
    · refine Wk.iloadN o_peek_12 rfl ?_
      refine Wk.bipush o_peek_13 (z := (64 : Int32)) (by decide) ?_
      refine Wk.icmp_lt o_peek_15 (fun q5 => ?_) (fun q5 => ?_)
      · refine Wk.aloadN o_peek_20 rfl ?_
        refine Wk.getI (mI_state) (wf_state H) o_peek_21 (x := (F 5)) rfl ?_
        refine Wk.if_ne o_peek_24 (fun q6 => ?_) (fun q6 => ?_)
        · refine Wk.aloadN o_peek_34 rfl ?_
          refine Wk.getA (mA_cur) (by decide) (i' := 4) rfl (wf_cur H) o_peek_35 ?_
          refine Wk.iloadN o_peek_38 rfl ?_
          refine Wk.iaload (mA_cur) (by decide) (i' := 4) rfl q1 q5 o_peek_39 (y := ((A 3) p1)) rfl ?_
          exact Wk.ireturn mrC rfl o_peek_40 rfl (by decide) (by decide) (h7 q1 q3 q5 q6)
        · refine Wk.aloadN o_peek_27 rfl ?_
          refine Wk.getA (mA_raw) (by decide) (i' := 3) rfl (wf_raw H) o_peek_28 ?_
          refine Wk.iloadN o_peek_31 rfl ?_
          refine Wk.iaload (mA_raw) (by decide) (i' := 3) rfl q1 q5 o_peek_32 (y := ((A 2) p1)) rfl ?_
          exact Wk.ireturn mrC rfl o_peek_33 rfl (by decide) (by decide) (h8 q1 q3 q5 q6)
      · refine Wk.iconst o_peek_18 (z := (0 : Int32)) (by decide) ?_
        exact Wk.ireturn mrC rfl o_peek_19 rfl (by decide) (by decide) (h9 q1 q3 q5)

def f_peek (F : Nat → Int32) (A : Nat → Int32 → Int32) (p1 : Int32) : Int32 := (if p1 < 0 then (0 : Int32) else (if p1 < (F 3) then (if p1 < (64 : Int32) then (if (F 5) = 0 then ((A 2) p1) else ((A 3) p1)) else (0 : Int32)) else (0 : Int32)))
theorem e_peek (F : Nat → Int32) (A : Nat → Int32 → Int32) (p1 : Int32) : f_peek F A p1 = (if p1 < 0 then (0 : Int32) else (if p1 < (F 3) then (if p1 < (64 : Int32) then (if (F 5) = 0 then ((A 2) p1) else ((A 3) p1)) else (0 : Int32)) else (0 : Int32))) := Eq.trans rfl rfl
theorem run_peek {l : Launch} {Z : State} {a0 : Array Value} (H : OK Z a0) (F : Nat → Int32) (G : Nat → Int64) (A : Nat → Int32 → Int32) (B : Nat → Int32 → Int64) (p1 : Int32) :
    Wk l Z (MoC Z cdC) md_peek 0 [.val (.ref 0), .val (.int p1)] [] (10, F, G, A, B) 0 0 (fun v w' => v = some (.int (f_peek F A p1)) ∧ w' = (10, F, G, A, B)) :=
  wp_peek H F G A B p1 (fun q1 => ⟨by simp only [e_peek, if_pos q1], rfl⟩) (fun q1 q3 => ⟨by simp only [e_peek, if_neg q1, if_neg q3], rfl⟩) (fun q1 q3 q5 q6 => ⟨by simp only [e_peek, if_neg q1, if_pos q3, if_pos q5, if_neg q6], rfl⟩) (fun q1 q3 q5 q6 => ⟨by simp only [e_peek, if_neg q1, if_pos q3, if_pos q5, if_pos q6], rfl⟩) (fun q1 q3 q5 => ⟨by simp only [e_peek, if_neg q1, if_pos q3, if_neg q5], rfl⟩)
set_option maxRecDepth 65536 in
set_option maxHeartbeats 4000000 in
theorem wp_imageSize {l : Launch} {Z : State} {a0 : Array Value} (H : OK Z a0) (F : Nat → Int32) (G : Nat → Int64) (A : Nat → Int32 → Int32) (B : Nat → Int32 → Int64) {Q : Option Value → WO → Prop} (h1 : Q (some (.int (F 3))) (10, F, G, A, B)) :
    Wk l Z (MoC Z cdC) md_imageSize 0 [.val (.ref 0)] [] (10, F, G, A, B) 0 0 Q := by
  refine Wk.aloadN o_imageSize_0 rfl ?_
  refine Wk.getI (mI_imgSize) (wf_imgSize H) o_imageSize_1 (x := (F 3)) rfl ?_
  exact Wk.ireturn mrC rfl o_imageSize_4 rfl (by decide) (by decide) h1

def f_imageSize (F : Nat → Int32) : Int32 := (F 3)
theorem e_imageSize (F : Nat → Int32) : f_imageSize F = (F 3) := Eq.trans rfl rfl
theorem run_imageSize {l : Launch} {Z : State} {a0 : Array Value} (H : OK Z a0) (F : Nat → Int32) (G : Nat → Int64) (A : Nat → Int32 → Int32) (B : Nat → Int32 → Int64) :
    Wk l Z (MoC Z cdC) md_imageSize 0 [.val (.ref 0)] [] (10, F, G, A, B) 0 0 (fun v w' => v = some (.int (f_imageSize F)) ∧ w' = (10, F, G, A, B)) :=
  wp_imageSize H F G A B ⟨rfl, rfl⟩
set_option maxRecDepth 65536 in
set_option maxHeartbeats 4000000 in
theorem wp_status {l : Launch} {Z : State} {a0 : Array Value} (H : OK Z a0) (F : Nat → Int32) (G : Nat → Int64) (A : Nat → Int32 → Int32) (B : Nat → Int32 → Int64) {Q : Option Value → WO → Prop} (h1 : Q (some (.int (F 5))) (10, F, G, A, B)) :
    Wk l Z (MoC Z cdC) md_status 0 [.val (.ref 0)] [] (10, F, G, A, B) 0 0 Q := by
  refine Wk.aloadN o_status_0 rfl ?_
  refine Wk.getI (mI_state) (wf_state H) o_status_1 (x := (F 5)) rfl ?_
  exact Wk.ireturn mrC rfl o_status_4 rfl (by decide) (by decide) h1

def f_status (F : Nat → Int32) : Int32 := (F 5)
theorem e_status (F : Nat → Int32) : f_status F = (F 5) := Eq.trans rfl rfl
theorem run_status {l : Launch} {Z : State} {a0 : Array Value} (H : OK Z a0) (F : Nat → Int32) (G : Nat → Int64) (A : Nat → Int32 → Int32) (B : Nat → Int32 → Int64) :
    Wk l Z (MoC Z cdC) md_status 0 [.val (.ref 0)] [] (10, F, G, A, B) 0 0 (fun v w' => v = some (.int (f_status F)) ∧ w' = (10, F, G, A, B)) :=
  wp_status H F G A B ⟨rfl, rfl⟩
set_option maxRecDepth 65536 in
set_option maxHeartbeats 4000000 in
theorem wp_L_law {l : Launch} {Z : State} {a0 : Array Value} (H : OK Z a0) (sl : Int32) (sv : Int32 → Int32) (p1 : Int32) (p2 : Int32) (p3 : Int32) (p4 : Int32) (p5 : Int32) {Q : Option Value → WL → Prop} (s9 : ¬ ((F_init (64 : Int32) (4 : Int32)) 2) < 0) (h11 : (f_addSection (F_init (64 : Int32) (4 : Int32)) p1 (1 : Int32)) = (if p1 < (1 : Int32) then (-2 : Int32) else (if (64 : Int32) < p1 then (-3 : Int32) else (0 : Int32)))) (s24 : ((F_addSection (F_init (64 : Int32) (4 : Int32)) p1 (1 : Int32)) 5) = 0 → ¬ p2 < 0 → (p2 >>> ((8 : Int32) &&& 31)) < ((F_addSection (F_init (64 : Int32) (4 : Int32)) p1 (1 : Int32)) 2) → ¬ (p2 >>> ((8 : Int32) &&& 31)) < 0) (s25 : ((F_addSection (F_init (64 : Int32) (4 : Int32)) p1 (1 : Int32)) 5) = 0 → ¬ p2 < 0 → (p2 >>> ((8 : Int32) &&& 31)) < ((F_addSection (F_init (64 : Int32) (4 : Int32)) p1 (1 : Int32)) 2) → (p2 >>> ((8 : Int32) &&& 31)) < (4 : Int32)) (s26 : ((F_addSection (F_init (64 : Int32) (4 : Int32)) p1 (1 : Int32)) 5) = 0 → ¬ (f_validPos (F_addSection (F_init (64 : Int32) (4 : Int32)) p1 (1 : Int32)) (A_addSection (F_init (64 : Int32) (4 : Int32)) (fun _ _ => 0) p1 (1 : Int32)) p2) = 0 → ¬ (p2 >>> ((8 : Int32) &&& 31)) < 0) (s27 : ((F_addSection (F_init (64 : Int32) (4 : Int32)) p1 (1 : Int32)) 5) = 0 → ¬ (f_validPos (F_addSection (F_init (64 : Int32) (4 : Int32)) p1 (1 : Int32)) (A_addSection (F_init (64 : Int32) (4 : Int32)) (fun _ _ => 0) p1 (1 : Int32)) p2) = 0 → (p2 >>> ((8 : Int32) &&& 31)) < (4 : Int32)) (s28 : ((F_addSection (F_init (64 : Int32) (4 : Int32)) p1 (1 : Int32)) 5) = 0 → ¬ (f_validPos (F_addSection (F_init (64 : Int32) (4 : Int32)) p1 (1 : Int32)) (A_addSection (F_init (64 : Int32) (4 : Int32)) (fun _ _ => 0) p1 (1 : Int32)) p2) = 0 → ¬ (f_offsetOf (A_addSection (F_init (64 : Int32) (4 : Int32)) (fun _ _ => 0) p1 (1 : Int32)) p2) < 0) (s29 : ((F_addSection (F_init (64 : Int32) (4 : Int32)) p1 (1 : Int32)) 5) = 0 → ¬ (f_validPos (F_addSection (F_init (64 : Int32) (4 : Int32)) p1 (1 : Int32)) (A_addSection (F_init (64 : Int32) (4 : Int32)) (fun _ _ => 0) p1 (1 : Int32)) p2) = 0 → (f_offsetOf (A_addSection (F_init (64 : Int32) (4 : Int32)) (fun _ _ => 0) p1 (1 : Int32)) p2) < (64 : Int32)) (h33 : (f_setWord (F_addSection (F_init (64 : Int32) (4 : Int32)) p1 (1 : Int32)) (A_addSection (F_init (64 : Int32) (4 : Int32)) (fun _ _ => 0) p1 (1 : Int32)) p2 p3) = (if (if (if p1 < (1 : Int32) then (0 : Int32) else (if (64 : Int32) < p1 then (0 : Int32) else (1 : Int32))) = 0 then (0 : Int32) else (if p2 < 0 then (0 : Int32) else (if p2 < p1 then (1 : Int32) else (0 : Int32)))) = 0 then (-2 : Int32) else (0 : Int32))) (s34 : ((F_addSection (F_init (64 : Int32) (4 : Int32)) p1 (1 : Int32)) 5) = 0 → ¬ p4 < 0 → (p4 >>> ((8 : Int32) &&& 31)) < ((F_addSection (F_init (64 : Int32) (4 : Int32)) p1 (1 : Int32)) 2) → ¬ (p4 >>> ((8 : Int32) &&& 31)) < 0) (s35 : ((F_addSection (F_init (64 : Int32) (4 : Int32)) p1 (1 : Int32)) 5) = 0 → ¬ p4 < 0 → (p4 >>> ((8 : Int32) &&& 31)) < ((F_addSection (F_init (64 : Int32) (4 : Int32)) p1 (1 : Int32)) 2) → (p4 >>> ((8 : Int32) &&& 31)) < (4 : Int32)) (s36 : ((F_addSection (F_init (64 : Int32) (4 : Int32)) p1 (1 : Int32)) 5) = 0 → ¬ (f_validPos (F_addSection (F_init (64 : Int32) (4 : Int32)) p1 (1 : Int32)) (A_setWord (F_addSection (F_init (64 : Int32) (4 : Int32)) p1 (1 : Int32)) (A_addSection (F_init (64 : Int32) (4 : Int32)) (fun _ _ => 0) p1 (1 : Int32)) p2 p3) p4) = 0 → ¬ (p4 >>> ((8 : Int32) &&& 31)) < 0) (s37 : ((F_addSection (F_init (64 : Int32) (4 : Int32)) p1 (1 : Int32)) 5) = 0 → ¬ (f_validPos (F_addSection (F_init (64 : Int32) (4 : Int32)) p1 (1 : Int32)) (A_setWord (F_addSection (F_init (64 : Int32) (4 : Int32)) p1 (1 : Int32)) (A_addSection (F_init (64 : Int32) (4 : Int32)) (fun _ _ => 0) p1 (1 : Int32)) p2 p3) p4) = 0 → (p4 >>> ((8 : Int32) &&& 31)) < (4 : Int32)) (s38 : ((F_addSection (F_init (64 : Int32) (4 : Int32)) p1 (1 : Int32)) 5) = 0 → ¬ (f_validPos (F_addSection (F_init (64 : Int32) (4 : Int32)) p1 (1 : Int32)) (A_setWord (F_addSection (F_init (64 : Int32) (4 : Int32)) p1 (1 : Int32)) (A_addSection (F_init (64 : Int32) (4 : Int32)) (fun _ _ => 0) p1 (1 : Int32)) p2 p3) p4) = 0 → ¬ (f_offsetOf (A_setWord (F_addSection (F_init (64 : Int32) (4 : Int32)) p1 (1 : Int32)) (A_addSection (F_init (64 : Int32) (4 : Int32)) (fun _ _ => 0) p1 (1 : Int32)) p2 p3) p4) < 0) (s39 : ((F_addSection (F_init (64 : Int32) (4 : Int32)) p1 (1 : Int32)) 5) = 0 → ¬ (f_validPos (F_addSection (F_init (64 : Int32) (4 : Int32)) p1 (1 : Int32)) (A_setWord (F_addSection (F_init (64 : Int32) (4 : Int32)) p1 (1 : Int32)) (A_addSection (F_init (64 : Int32) (4 : Int32)) (fun _ _ => 0) p1 (1 : Int32)) p2 p3) p4) = 0 → (f_offsetOf (A_setWord (F_addSection (F_init (64 : Int32) (4 : Int32)) p1 (1 : Int32)) (A_addSection (F_init (64 : Int32) (4 : Int32)) (fun _ _ => 0) p1 (1 : Int32)) p2 p3) p4) < (64 : Int32)) (h43 : (f_setWord (F_addSection (F_init (64 : Int32) (4 : Int32)) p1 (1 : Int32)) (A_setWord (F_addSection (F_init (64 : Int32) (4 : Int32)) p1 (1 : Int32)) (A_addSection (F_init (64 : Int32) (4 : Int32)) (fun _ _ => 0) p1 (1 : Int32)) p2 p3) p4 p5) = (if (if (if p1 < (1 : Int32) then (0 : Int32) else (if (64 : Int32) < p1 then (0 : Int32) else (1 : Int32))) = 0 then (0 : Int32) else (if p4 < 0 then (0 : Int32) else (if p4 < p1 then (1 : Int32) else (0 : Int32)))) = 0 then (-2 : Int32) else (0 : Int32))) (h55 : (f_peek (F_addSection (F_init (64 : Int32) (4 : Int32)) p1 (1 : Int32)) (A_setWord (F_addSection (F_init (64 : Int32) (4 : Int32)) p1 (1 : Int32)) (A_setWord (F_addSection (F_init (64 : Int32) (4 : Int32)) p1 (1 : Int32)) (A_addSection (F_init (64 : Int32) (4 : Int32)) (fun _ _ => 0) p1 (1 : Int32)) p2 p3) p4 p5) p2) = (if (if (if p1 < (1 : Int32) then (0 : Int32) else (if (64 : Int32) < p1 then (0 : Int32) else (1 : Int32))) = 0 then (0 : Int32) else (if p4 < 0 then (0 : Int32) else (if p4 < p1 then (1 : Int32) else (0 : Int32)))) = 0 then (if (if (if p1 < (1 : Int32) then (0 : Int32) else (if (64 : Int32) < p1 then (0 : Int32) else (1 : Int32))) = 0 then (0 : Int32) else (if p2 < 0 then (0 : Int32) else (if p2 < p1 then (1 : Int32) else (0 : Int32)))) = 0 then (0 : Int32) else p3) else (if p4 = p2 then p5 else (if (if (if p1 < (1 : Int32) then (0 : Int32) else (if (64 : Int32) < p1 then (0 : Int32) else (1 : Int32))) = 0 then (0 : Int32) else (if p2 < 0 then (0 : Int32) else (if p2 < p1 then (1 : Int32) else (0 : Int32)))) = 0 then (0 : Int32) else p3)))) (h57 : (f_peek (F_addSection (F_init (64 : Int32) (4 : Int32)) p1 (1 : Int32)) (A_setWord (F_addSection (F_init (64 : Int32) (4 : Int32)) p1 (1 : Int32)) (A_setWord (F_addSection (F_init (64 : Int32) (4 : Int32)) p1 (1 : Int32)) (A_addSection (F_init (64 : Int32) (4 : Int32)) (fun _ _ => 0) p1 (1 : Int32)) p2 p3) p4 p5) p4) = (if (if (if p1 < (1 : Int32) then (0 : Int32) else (if (64 : Int32) < p1 then (0 : Int32) else (1 : Int32))) = 0 then (0 : Int32) else (if p4 < 0 then (0 : Int32) else (if p4 < p1 then (1 : Int32) else (0 : Int32)))) = 0 then (0 : Int32) else p5)) (h61 : (f_imageSize (F_addSection (F_init (64 : Int32) (4 : Int32)) p1 (1 : Int32))) = (if (if p1 < (1 : Int32) then (0 : Int32) else (if (64 : Int32) < p1 then (0 : Int32) else (1 : Int32))) = 0 then (0 : Int32) else p1)) (h63 : (f_status (F_addSection (F_init (64 : Int32) (4 : Int32)) p1 (1 : Int32))) = 0) (h64 : Q (some (.int (1 : Int32))) (sl, sv, [(10, (F_addSection (F_init (64 : Int32) (4 : Int32)) p1 (1 : Int32)), (fun _ => 0), (A_setWord (F_addSection (F_init (64 : Int32) (4 : Int32)) p1 (1 : Int32)) (A_setWord (F_addSection (F_init (64 : Int32) (4 : Int32)) p1 (1 : Int32)) (A_addSection (F_init (64 : Int32) (4 : Int32)) (fun _ _ => 0) p1 (1 : Int32)) p2 p3) p4 p5), (fun _ _ => 0))])) :
    Wk l Z (MoL Z cdC "RebaseLoaderL2" false) md_L_law 0 [.val (.int p1), .val (.int p2), .val (.int p3), .val (.int p4), .val (.int p5), .unset, .unset, .unset, .unset, .unset, .unset, .unset] [] (sl, sv, []) 0 0 Q := by
  refine Wk.newL (coC H) (kk := 18) (H.w 0 rfl) (H.w 1 rfl) (wz_C H) o_L_law_0 trivial (i' := 1) rfl (ws' := [(0, (fun _ => 0), (fun _ => 0), (fun _ _ => 0), (fun _ _ => 0))]) rfl (cu' := 1) rfl (su' := 18) rfl (by decide) (by decide) ?_
  refine Wk.dup o_L_law_3 rfl ?_
  refine Wk.bipush o_L_law_4 (z := (64 : Int32)) (by decide) ?_
  refine Wk.iconst o_L_law_6 (z := (4 : Int32)) (by decide) ?_
  refine Wk.ctorLU (coC H) [.int (64 : Int32), .int (4 : Int32)] 0 [.ref 1] (i' := 1) (H.w 3 rfl) (cv_init H) o_L_law_7 (run_init H (64 : Int32) (4 : Int32)) (wt := 1) (cu' := 11) (su' := 354) (by decide) trivial rfl rfl rfl rfl rfl rfl rfl rfl rfl rfl (ws' := [(10, (F_init (64 : Int32) (4 : Int32)), (fun _ => 0), (fun _ _ => 0), (fun _ _ => 0))]) rfl ?_
  refine Wk.astore o_L_law_10 (Or.inl rfl) (L' := [.val (.int p1), .val (.int p2), .val (.int p3), .val (.int p4), .val (.int p5), .val (.ref 1), .unset, .unset, .unset, .unset, .unset, .unset]) rfl ?_
  refine Wk.iloadN o_L_law_12 rfl ?_
  refine Wk.iconst o_L_law_13 (z := (1 : Int32)) (by decide) ?_
  have J4 : Wk l Z (MoL Z cdC "RebaseLoaderL2" false) md_L_law 28 [.val (.int p1), .val (.int p2), .val (.int p3), .val (.int p4), .val (.int p5), .val (.ref 1), .unset, .unset, .unset, .unset, .unset, .unset] [.int (if p1 < (1 : Int32) then (0 : Int32) else (if (64 : Int32) < p1 then (0 : Int32) else (1 : Int32)))] (sl, sv, [(10, (F_init (64 : Int32) (4 : Int32)), (fun _ => 0), (fun _ _ => 0), (fun _ _ => 0))]) 11 354 Q := by
    refine Wk.istore o_L_law_28 (Or.inl rfl) (L' := [.val (.int p1), .val (.int p2), .val (.int p3), .val (.int p4), .val (.int p5), .val (.ref 1), .val (.int (if p1 < (1 : Int32) then (0 : Int32) else (if (64 : Int32) < p1 then (0 : Int32) else (1 : Int32)))), .unset, .unset, .unset, .unset, .unset]) rfl ?_
    refine Wk.iloadN o_L_law_30 rfl ?_
    refine Wk.iconst o_L_law_31 (z := (1 : Int32)) (by decide) ?_
    have J8 : Wk l Z (MoL Z cdC "RebaseLoaderL2" false) md_L_law 52 [.val (.int p1), .val (.int p2), .val (.int p3), .val (.int p4), .val (.int p5), .val (.ref 1), .val (.int (if p1 < (1 : Int32) then (0 : Int32) else (if (64 : Int32) < p1 then (0 : Int32) else (1 : Int32)))), .unset, .unset, .unset, .unset, .unset] [.int (if p1 < (1 : Int32) then (-2 : Int32) else (if (64 : Int32) < p1 then (-3 : Int32) else (0 : Int32)))] (sl, sv, [(10, (F_init (64 : Int32) (4 : Int32)), (fun _ => 0), (fun _ _ => 0), (fun _ _ => 0))]) 11 354 Q := by
      refine Wk.istore o_L_law_52 (Or.inl rfl) (L' := [.val (.int p1), .val (.int p2), .val (.int p3), .val (.int p4), .val (.int p5), .val (.ref 1), .val (.int (if p1 < (1 : Int32) then (0 : Int32) else (if (64 : Int32) < p1 then (0 : Int32) else (1 : Int32)))), .val (.int (if p1 < (1 : Int32) then (-2 : Int32) else (if (64 : Int32) < p1 then (-3 : Int32) else (0 : Int32)))), .unset, .unset, .unset, .unset]) rfl ?_
      refine Wk.aload o_L_law_54 rfl ?_
      refine Wk.iloadN o_L_law_56 rfl ?_
      refine Wk.iconst o_L_law_57 (z := (1 : Int32)) (by decide) ?_
      refine Wk.callLF (coC H) [.int p1, .int (1 : Int32)] 0 [] (i' := 1) (H.w 51 rfl) (cv_addSection H) o_L_law_58 (run_addSection H (F_init (64 : Int32) (4 : Int32)) (fun _ => 0) (fun _ _ => 0) (fun _ _ => 0) p1 (1 : Int32) s9) (wt := 0) (cu' := 11) (su' := 354) (by decide) trivial rfl rfl rfl rfl rfl rfl rfl rfl rfl rfl (ws' := [(10, (F_addSection (F_init (64 : Int32) (4 : Int32)) p1 (1 : Int32)), (fun _ => 0), (A_addSection (F_init (64 : Int32) (4 : Int32)) (fun _ _ => 0) p1 (1 : Int32)), (fun _ _ => 0))]) rfl ?_
      refine Wk.iload o_L_law_61 rfl ?_
      refine Wk.icmp_eq o_L_law_63 (fun q10 => ?_) (fun q => absurd h11 q)
      refine Wk.iload o_L_law_68 rfl ?_
      have J17 : Wk l Z (MoL Z cdC "RebaseLoaderL2" false) md_L_law 87 [.val (.int p1), .val (.int p2), .val (.int p3), .val (.int p4), .val (.int p5), .val (.ref 1), .val (.int (if p1 < (1 : Int32) then (0 : Int32) else (if (64 : Int32) < p1 then (0 : Int32) else (1 : Int32)))), .val (.int (if p1 < (1 : Int32) then (-2 : Int32) else (if (64 : Int32) < p1 then (-3 : Int32) else (0 : Int32)))), .unset, .unset, .unset, .unset] [.int (if (if p1 < (1 : Int32) then (0 : Int32) else (if (64 : Int32) < p1 then (0 : Int32) else (1 : Int32))) = 0 then (0 : Int32) else (if p2 < 0 then (0 : Int32) else (if p2 < p1 then (1 : Int32) else (0 : Int32))))] (sl, sv, [(10, (F_addSection (F_init (64 : Int32) (4 : Int32)) p1 (1 : Int32)), (fun _ => 0), (A_addSection (F_init (64 : Int32) (4 : Int32)) (fun _ _ => 0) p1 (1 : Int32)), (fun _ _ => 0))]) 11 354 Q := by
        refine Wk.istore o_L_law_87 (Or.inl rfl) (L' := [.val (.int p1), .val (.int p2), .val (.int p3), .val (.int p4), .val (.int p5), .val (.ref 1), .val (.int (if p1 < (1 : Int32) then (0 : Int32) else (if (64 : Int32) < p1 then (0 : Int32) else (1 : Int32)))), .val (.int (if p1 < (1 : Int32) then (-2 : Int32) else (if (64 : Int32) < p1 then (-3 : Int32) else (0 : Int32)))), .val (.int (if (if p1 < (1 : Int32) then (0 : Int32) else (if (64 : Int32) < p1 then (0 : Int32) else (1 : Int32))) = 0 then (0 : Int32) else (if p2 < 0 then (0 : Int32) else (if p2 < p1 then (1 : Int32) else (0 : Int32))))), .unset, .unset, .unset]) rfl ?_
        refine Wk.iload o_L_law_89 rfl ?_
        have J23 : Wk l Z (MoL Z cdC "RebaseLoaderL2" false) md_L_law 108 [.val (.int p1), .val (.int p2), .val (.int p3), .val (.int p4), .val (.int p5), .val (.ref 1), .val (.int (if p1 < (1 : Int32) then (0 : Int32) else (if (64 : Int32) < p1 then (0 : Int32) else (1 : Int32)))), .val (.int (if p1 < (1 : Int32) then (-2 : Int32) else (if (64 : Int32) < p1 then (-3 : Int32) else (0 : Int32)))), .val (.int (if (if p1 < (1 : Int32) then (0 : Int32) else (if (64 : Int32) < p1 then (0 : Int32) else (1 : Int32))) = 0 then (0 : Int32) else (if p2 < 0 then (0 : Int32) else (if p2 < p1 then (1 : Int32) else (0 : Int32))))), .unset, .unset, .unset] [.int (if (if p1 < (1 : Int32) then (0 : Int32) else (if (64 : Int32) < p1 then (0 : Int32) else (1 : Int32))) = 0 then (0 : Int32) else (if p4 < 0 then (0 : Int32) else (if p4 < p1 then (1 : Int32) else (0 : Int32))))] (sl, sv, [(10, (F_addSection (F_init (64 : Int32) (4 : Int32)) p1 (1 : Int32)), (fun _ => 0), (A_addSection (F_init (64 : Int32) (4 : Int32)) (fun _ _ => 0) p1 (1 : Int32)), (fun _ _ => 0))]) 11 354 Q := by
          refine Wk.istore o_L_law_108 (Or.inl rfl) (L' := [.val (.int p1), .val (.int p2), .val (.int p3), .val (.int p4), .val (.int p5), .val (.ref 1), .val (.int (if p1 < (1 : Int32) then (0 : Int32) else (if (64 : Int32) < p1 then (0 : Int32) else (1 : Int32)))), .val (.int (if p1 < (1 : Int32) then (-2 : Int32) else (if (64 : Int32) < p1 then (-3 : Int32) else (0 : Int32)))), .val (.int (if (if p1 < (1 : Int32) then (0 : Int32) else (if (64 : Int32) < p1 then (0 : Int32) else (1 : Int32))) = 0 then (0 : Int32) else (if p2 < 0 then (0 : Int32) else (if p2 < p1 then (1 : Int32) else (0 : Int32))))), .val (.int (if (if p1 < (1 : Int32) then (0 : Int32) else (if (64 : Int32) < p1 then (0 : Int32) else (1 : Int32))) = 0 then (0 : Int32) else (if p4 < 0 then (0 : Int32) else (if p4 < p1 then (1 : Int32) else (0 : Int32))))), .unset, .unset]) rfl ?_
          refine Wk.aload o_L_law_110 rfl ?_
          refine Wk.iloadN o_L_law_112 rfl ?_
          refine Wk.iloadN o_L_law_113 rfl ?_
          refine Wk.callLF (coC H) [.int p2, .int p3] 0 [] (i' := 1) (H.w 56 rfl) (cv_setWord H) o_L_law_114 (run_setWord H (F_addSection (F_init (64 : Int32) (4 : Int32)) p1 (1 : Int32)) (fun _ => 0) (A_addSection (F_init (64 : Int32) (4 : Int32)) (fun _ _ => 0) p1 (1 : Int32)) (fun _ _ => 0) p2 p3 s24 s25 s26 s27 s28 s29) (wt := 0) (cu' := 11) (su' := 354) (by decide) trivial rfl rfl rfl rfl rfl rfl rfl rfl rfl rfl (ws' := [(10, (F_addSection (F_init (64 : Int32) (4 : Int32)) p1 (1 : Int32)), (fun _ => 0), (A_setWord (F_addSection (F_init (64 : Int32) (4 : Int32)) p1 (1 : Int32)) (A_addSection (F_init (64 : Int32) (4 : Int32)) (fun _ _ => 0) p1 (1 : Int32)) p2 p3), (fun _ _ => 0))]) rfl ?_
          refine Wk.iload o_L_law_117 rfl ?_
          have J31 : Wk l Z (MoL Z cdC "RebaseLoaderL2" false) md_L_law 128 [.val (.int p1), .val (.int p2), .val (.int p3), .val (.int p4), .val (.int p5), .val (.ref 1), .val (.int (if p1 < (1 : Int32) then (0 : Int32) else (if (64 : Int32) < p1 then (0 : Int32) else (1 : Int32)))), .val (.int (if p1 < (1 : Int32) then (-2 : Int32) else (if (64 : Int32) < p1 then (-3 : Int32) else (0 : Int32)))), .val (.int (if (if p1 < (1 : Int32) then (0 : Int32) else (if (64 : Int32) < p1 then (0 : Int32) else (1 : Int32))) = 0 then (0 : Int32) else (if p2 < 0 then (0 : Int32) else (if p2 < p1 then (1 : Int32) else (0 : Int32))))), .val (.int (if (if p1 < (1 : Int32) then (0 : Int32) else (if (64 : Int32) < p1 then (0 : Int32) else (1 : Int32))) = 0 then (0 : Int32) else (if p4 < 0 then (0 : Int32) else (if p4 < p1 then (1 : Int32) else (0 : Int32))))), .unset, .unset] [.int (if (if (if p1 < (1 : Int32) then (0 : Int32) else (if (64 : Int32) < p1 then (0 : Int32) else (1 : Int32))) = 0 then (0 : Int32) else (if p2 < 0 then (0 : Int32) else (if p2 < p1 then (1 : Int32) else (0 : Int32)))) = 0 then (-2 : Int32) else (0 : Int32)), .int (f_setWord (F_addSection (F_init (64 : Int32) (4 : Int32)) p1 (1 : Int32)) (A_addSection (F_init (64 : Int32) (4 : Int32)) (fun _ _ => 0) p1 (1 : Int32)) p2 p3)] (sl, sv, [(10, (F_addSection (F_init (64 : Int32) (4 : Int32)) p1 (1 : Int32)), (fun _ => 0), (A_setWord (F_addSection (F_init (64 : Int32) (4 : Int32)) p1 (1 : Int32)) (A_addSection (F_init (64 : Int32) (4 : Int32)) (fun _ _ => 0) p1 (1 : Int32)) p2 p3), (fun _ _ => 0))]) 11 354 Q := by
            refine Wk.icmp_eq o_L_law_128 (fun q32 => ?_) (fun q => absurd h33 q)
            refine Wk.aload o_L_law_133 rfl ?_
            refine Wk.iloadN o_L_law_135 rfl ?_
            refine Wk.iload o_L_law_136 rfl ?_
            refine Wk.callLF (coC H) [.int p4, .int p5] 0 [] (i' := 1) (H.w 56 rfl) (cv_setWord H) o_L_law_138 (run_setWord H (F_addSection (F_init (64 : Int32) (4 : Int32)) p1 (1 : Int32)) (fun _ => 0) (A_setWord (F_addSection (F_init (64 : Int32) (4 : Int32)) p1 (1 : Int32)) (A_addSection (F_init (64 : Int32) (4 : Int32)) (fun _ _ => 0) p1 (1 : Int32)) p2 p3) (fun _ _ => 0) p4 p5 s34 s35 s36 s37 s38 s39) (wt := 0) (cu' := 11) (su' := 354) (by decide) trivial rfl rfl rfl rfl rfl rfl rfl rfl rfl rfl (ws' := [(10, (F_addSection (F_init (64 : Int32) (4 : Int32)) p1 (1 : Int32)), (fun _ => 0), (A_setWord (F_addSection (F_init (64 : Int32) (4 : Int32)) p1 (1 : Int32)) (A_setWord (F_addSection (F_init (64 : Int32) (4 : Int32)) p1 (1 : Int32)) (A_addSection (F_init (64 : Int32) (4 : Int32)) (fun _ _ => 0) p1 (1 : Int32)) p2 p3) p4 p5), (fun _ _ => 0))]) rfl ?_
            refine Wk.iload o_L_law_141 rfl ?_
            have J41 : Wk l Z (MoL Z cdC "RebaseLoaderL2" false) md_L_law 152 [.val (.int p1), .val (.int p2), .val (.int p3), .val (.int p4), .val (.int p5), .val (.ref 1), .val (.int (if p1 < (1 : Int32) then (0 : Int32) else (if (64 : Int32) < p1 then (0 : Int32) else (1 : Int32)))), .val (.int (if p1 < (1 : Int32) then (-2 : Int32) else (if (64 : Int32) < p1 then (-3 : Int32) else (0 : Int32)))), .val (.int (if (if p1 < (1 : Int32) then (0 : Int32) else (if (64 : Int32) < p1 then (0 : Int32) else (1 : Int32))) = 0 then (0 : Int32) else (if p2 < 0 then (0 : Int32) else (if p2 < p1 then (1 : Int32) else (0 : Int32))))), .val (.int (if (if p1 < (1 : Int32) then (0 : Int32) else (if (64 : Int32) < p1 then (0 : Int32) else (1 : Int32))) = 0 then (0 : Int32) else (if p4 < 0 then (0 : Int32) else (if p4 < p1 then (1 : Int32) else (0 : Int32))))), .unset, .unset] [.int (if (if (if p1 < (1 : Int32) then (0 : Int32) else (if (64 : Int32) < p1 then (0 : Int32) else (1 : Int32))) = 0 then (0 : Int32) else (if p4 < 0 then (0 : Int32) else (if p4 < p1 then (1 : Int32) else (0 : Int32)))) = 0 then (-2 : Int32) else (0 : Int32)), .int (f_setWord (F_addSection (F_init (64 : Int32) (4 : Int32)) p1 (1 : Int32)) (A_setWord (F_addSection (F_init (64 : Int32) (4 : Int32)) p1 (1 : Int32)) (A_addSection (F_init (64 : Int32) (4 : Int32)) (fun _ _ => 0) p1 (1 : Int32)) p2 p3) p4 p5)] (sl, sv, [(10, (F_addSection (F_init (64 : Int32) (4 : Int32)) p1 (1 : Int32)), (fun _ => 0), (A_setWord (F_addSection (F_init (64 : Int32) (4 : Int32)) p1 (1 : Int32)) (A_setWord (F_addSection (F_init (64 : Int32) (4 : Int32)) p1 (1 : Int32)) (A_addSection (F_init (64 : Int32) (4 : Int32)) (fun _ _ => 0) p1 (1 : Int32)) p2 p3) p4 p5), (fun _ _ => 0))]) 11 354 Q := by
              refine Wk.icmp_eq o_L_law_152 (fun q42 => ?_) (fun q => absurd h43 q)
              refine Wk.iload o_L_law_157 rfl ?_
              have J51 : Wk l Z (MoL Z cdC "RebaseLoaderL2" false) md_L_law 182 [.val (.int p1), .val (.int p2), .val (.int p3), .val (.int p4), .val (.int p5), .val (.ref 1), .val (.int (if p1 < (1 : Int32) then (0 : Int32) else (if (64 : Int32) < p1 then (0 : Int32) else (1 : Int32)))), .val (.int (if p1 < (1 : Int32) then (-2 : Int32) else (if (64 : Int32) < p1 then (-3 : Int32) else (0 : Int32)))), .val (.int (if (if p1 < (1 : Int32) then (0 : Int32) else (if (64 : Int32) < p1 then (0 : Int32) else (1 : Int32))) = 0 then (0 : Int32) else (if p2 < 0 then (0 : Int32) else (if p2 < p1 then (1 : Int32) else (0 : Int32))))), .val (.int (if (if p1 < (1 : Int32) then (0 : Int32) else (if (64 : Int32) < p1 then (0 : Int32) else (1 : Int32))) = 0 then (0 : Int32) else (if p4 < 0 then (0 : Int32) else (if p4 < p1 then (1 : Int32) else (0 : Int32))))), .unset, .unset] [.int (if (if (if p1 < (1 : Int32) then (0 : Int32) else (if (64 : Int32) < p1 then (0 : Int32) else (1 : Int32))) = 0 then (0 : Int32) else (if p4 < 0 then (0 : Int32) else (if p4 < p1 then (1 : Int32) else (0 : Int32)))) = 0 then (if (if (if p1 < (1 : Int32) then (0 : Int32) else (if (64 : Int32) < p1 then (0 : Int32) else (1 : Int32))) = 0 then (0 : Int32) else (if p2 < 0 then (0 : Int32) else (if p2 < p1 then (1 : Int32) else (0 : Int32)))) = 0 then (0 : Int32) else p3) else (if p4 = p2 then p5 else (if (if (if p1 < (1 : Int32) then (0 : Int32) else (if (64 : Int32) < p1 then (0 : Int32) else (1 : Int32))) = 0 then (0 : Int32) else (if p2 < 0 then (0 : Int32) else (if p2 < p1 then (1 : Int32) else (0 : Int32)))) = 0 then (0 : Int32) else p3)))] (sl, sv, [(10, (F_addSection (F_init (64 : Int32) (4 : Int32)) p1 (1 : Int32)), (fun _ => 0), (A_setWord (F_addSection (F_init (64 : Int32) (4 : Int32)) p1 (1 : Int32)) (A_setWord (F_addSection (F_init (64 : Int32) (4 : Int32)) p1 (1 : Int32)) (A_addSection (F_init (64 : Int32) (4 : Int32)) (fun _ _ => 0) p1 (1 : Int32)) p2 p3) p4 p5), (fun _ _ => 0))]) 11 354 Q := by
                refine Wk.istore o_L_law_182 (Or.inl rfl) (L' := [.val (.int p1), .val (.int p2), .val (.int p3), .val (.int p4), .val (.int p5), .val (.ref 1), .val (.int (if p1 < (1 : Int32) then (0 : Int32) else (if (64 : Int32) < p1 then (0 : Int32) else (1 : Int32)))), .val (.int (if p1 < (1 : Int32) then (-2 : Int32) else (if (64 : Int32) < p1 then (-3 : Int32) else (0 : Int32)))), .val (.int (if (if p1 < (1 : Int32) then (0 : Int32) else (if (64 : Int32) < p1 then (0 : Int32) else (1 : Int32))) = 0 then (0 : Int32) else (if p2 < 0 then (0 : Int32) else (if p2 < p1 then (1 : Int32) else (0 : Int32))))), .val (.int (if (if p1 < (1 : Int32) then (0 : Int32) else (if (64 : Int32) < p1 then (0 : Int32) else (1 : Int32))) = 0 then (0 : Int32) else (if p4 < 0 then (0 : Int32) else (if p4 < p1 then (1 : Int32) else (0 : Int32))))), .val (.int (if (if (if p1 < (1 : Int32) then (0 : Int32) else (if (64 : Int32) < p1 then (0 : Int32) else (1 : Int32))) = 0 then (0 : Int32) else (if p4 < 0 then (0 : Int32) else (if p4 < p1 then (1 : Int32) else (0 : Int32)))) = 0 then (if (if (if p1 < (1 : Int32) then (0 : Int32) else (if (64 : Int32) < p1 then (0 : Int32) else (1 : Int32))) = 0 then (0 : Int32) else (if p2 < 0 then (0 : Int32) else (if p2 < p1 then (1 : Int32) else (0 : Int32)))) = 0 then (0 : Int32) else p3) else (if p4 = p2 then p5 else (if (if (if p1 < (1 : Int32) then (0 : Int32) else (if (64 : Int32) < p1 then (0 : Int32) else (1 : Int32))) = 0 then (0 : Int32) else (if p2 < 0 then (0 : Int32) else (if p2 < p1 then (1 : Int32) else (0 : Int32)))) = 0 then (0 : Int32) else p3)))), .unset]) rfl ?_
                refine Wk.iload o_L_law_184 rfl ?_
                have J53 : Wk l Z (MoL Z cdC "RebaseLoaderL2" false) md_L_law 195 [.val (.int p1), .val (.int p2), .val (.int p3), .val (.int p4), .val (.int p5), .val (.ref 1), .val (.int (if p1 < (1 : Int32) then (0 : Int32) else (if (64 : Int32) < p1 then (0 : Int32) else (1 : Int32)))), .val (.int (if p1 < (1 : Int32) then (-2 : Int32) else (if (64 : Int32) < p1 then (-3 : Int32) else (0 : Int32)))), .val (.int (if (if p1 < (1 : Int32) then (0 : Int32) else (if (64 : Int32) < p1 then (0 : Int32) else (1 : Int32))) = 0 then (0 : Int32) else (if p2 < 0 then (0 : Int32) else (if p2 < p1 then (1 : Int32) else (0 : Int32))))), .val (.int (if (if p1 < (1 : Int32) then (0 : Int32) else (if (64 : Int32) < p1 then (0 : Int32) else (1 : Int32))) = 0 then (0 : Int32) else (if p4 < 0 then (0 : Int32) else (if p4 < p1 then (1 : Int32) else (0 : Int32))))), .val (.int (if (if (if p1 < (1 : Int32) then (0 : Int32) else (if (64 : Int32) < p1 then (0 : Int32) else (1 : Int32))) = 0 then (0 : Int32) else (if p4 < 0 then (0 : Int32) else (if p4 < p1 then (1 : Int32) else (0 : Int32)))) = 0 then (if (if (if p1 < (1 : Int32) then (0 : Int32) else (if (64 : Int32) < p1 then (0 : Int32) else (1 : Int32))) = 0 then (0 : Int32) else (if p2 < 0 then (0 : Int32) else (if p2 < p1 then (1 : Int32) else (0 : Int32)))) = 0 then (0 : Int32) else p3) else (if p4 = p2 then p5 else (if (if (if p1 < (1 : Int32) then (0 : Int32) else (if (64 : Int32) < p1 then (0 : Int32) else (1 : Int32))) = 0 then (0 : Int32) else (if p2 < 0 then (0 : Int32) else (if p2 < p1 then (1 : Int32) else (0 : Int32)))) = 0 then (0 : Int32) else p3)))), .unset] [.int (if (if (if p1 < (1 : Int32) then (0 : Int32) else (if (64 : Int32) < p1 then (0 : Int32) else (1 : Int32))) = 0 then (0 : Int32) else (if p4 < 0 then (0 : Int32) else (if p4 < p1 then (1 : Int32) else (0 : Int32)))) = 0 then (0 : Int32) else p5)] (sl, sv, [(10, (F_addSection (F_init (64 : Int32) (4 : Int32)) p1 (1 : Int32)), (fun _ => 0), (A_setWord (F_addSection (F_init (64 : Int32) (4 : Int32)) p1 (1 : Int32)) (A_setWord (F_addSection (F_init (64 : Int32) (4 : Int32)) p1 (1 : Int32)) (A_addSection (F_init (64 : Int32) (4 : Int32)) (fun _ _ => 0) p1 (1 : Int32)) p2 p3) p4 p5), (fun _ _ => 0))]) 11 354 Q := by
                  refine Wk.istore o_L_law_195 (Or.inl rfl) (L' := [.val (.int p1), .val (.int p2), .val (.int p3), .val (.int p4), .val (.int p5), .val (.ref 1), .val (.int (if p1 < (1 : Int32) then (0 : Int32) else (if (64 : Int32) < p1 then (0 : Int32) else (1 : Int32)))), .val (.int (if p1 < (1 : Int32) then (-2 : Int32) else (if (64 : Int32) < p1 then (-3 : Int32) else (0 : Int32)))), .val (.int (if (if p1 < (1 : Int32) then (0 : Int32) else (if (64 : Int32) < p1 then (0 : Int32) else (1 : Int32))) = 0 then (0 : Int32) else (if p2 < 0 then (0 : Int32) else (if p2 < p1 then (1 : Int32) else (0 : Int32))))), .val (.int (if (if p1 < (1 : Int32) then (0 : Int32) else (if (64 : Int32) < p1 then (0 : Int32) else (1 : Int32))) = 0 then (0 : Int32) else (if p4 < 0 then (0 : Int32) else (if p4 < p1 then (1 : Int32) else (0 : Int32))))), .val (.int (if (if (if p1 < (1 : Int32) then (0 : Int32) else (if (64 : Int32) < p1 then (0 : Int32) else (1 : Int32))) = 0 then (0 : Int32) else (if p4 < 0 then (0 : Int32) else (if p4 < p1 then (1 : Int32) else (0 : Int32)))) = 0 then (if (if (if p1 < (1 : Int32) then (0 : Int32) else (if (64 : Int32) < p1 then (0 : Int32) else (1 : Int32))) = 0 then (0 : Int32) else (if p2 < 0 then (0 : Int32) else (if p2 < p1 then (1 : Int32) else (0 : Int32)))) = 0 then (0 : Int32) else p3) else (if p4 = p2 then p5 else (if (if (if p1 < (1 : Int32) then (0 : Int32) else (if (64 : Int32) < p1 then (0 : Int32) else (1 : Int32))) = 0 then (0 : Int32) else (if p2 < 0 then (0 : Int32) else (if p2 < p1 then (1 : Int32) else (0 : Int32)))) = 0 then (0 : Int32) else p3)))), .val (.int (if (if (if p1 < (1 : Int32) then (0 : Int32) else (if (64 : Int32) < p1 then (0 : Int32) else (1 : Int32))) = 0 then (0 : Int32) else (if p4 < 0 then (0 : Int32) else (if p4 < p1 then (1 : Int32) else (0 : Int32)))) = 0 then (0 : Int32) else p5))]) rfl ?_
                  refine Wk.aload o_L_law_197 rfl ?_
                  refine Wk.iloadN o_L_law_199 rfl ?_
                  refine Wk.callLF (coC H) [.int p2] 0 [] (i' := 1) (H.w 65 rfl) (cv_peek H) o_L_law_200 (run_peek H (F_addSection (F_init (64 : Int32) (4 : Int32)) p1 (1 : Int32)) (fun _ => 0) (A_setWord (F_addSection (F_init (64 : Int32) (4 : Int32)) p1 (1 : Int32)) (A_setWord (F_addSection (F_init (64 : Int32) (4 : Int32)) p1 (1 : Int32)) (A_addSection (F_init (64 : Int32) (4 : Int32)) (fun _ _ => 0) p1 (1 : Int32)) p2 p3) p4 p5) (fun _ _ => 0) p2) (wt := 0) (cu' := 11) (su' := 354) (by decide) trivial rfl rfl rfl rfl rfl rfl rfl rfl rfl rfl (ws' := [(10, (F_addSection (F_init (64 : Int32) (4 : Int32)) p1 (1 : Int32)), (fun _ => 0), (A_setWord (F_addSection (F_init (64 : Int32) (4 : Int32)) p1 (1 : Int32)) (A_setWord (F_addSection (F_init (64 : Int32) (4 : Int32)) p1 (1 : Int32)) (A_addSection (F_init (64 : Int32) (4 : Int32)) (fun _ _ => 0) p1 (1 : Int32)) p2 p3) p4 p5), (fun _ _ => 0))]) rfl ?_
                  refine Wk.iload o_L_law_203 rfl ?_
                  refine Wk.icmp_eq o_L_law_205 (fun q54 => ?_) (fun q => absurd h55 q)
                  refine Wk.aload o_L_law_210 rfl ?_
                  refine Wk.iloadN o_L_law_212 rfl ?_
                  refine Wk.callLF (coC H) [.int p4] 0 [] (i' := 1) (H.w 65 rfl) (cv_peek H) o_L_law_213 (run_peek H (F_addSection (F_init (64 : Int32) (4 : Int32)) p1 (1 : Int32)) (fun _ => 0) (A_setWord (F_addSection (F_init (64 : Int32) (4 : Int32)) p1 (1 : Int32)) (A_setWord (F_addSection (F_init (64 : Int32) (4 : Int32)) p1 (1 : Int32)) (A_addSection (F_init (64 : Int32) (4 : Int32)) (fun _ _ => 0) p1 (1 : Int32)) p2 p3) p4 p5) (fun _ _ => 0) p4) (wt := 0) (cu' := 11) (su' := 354) (by decide) trivial rfl rfl rfl rfl rfl rfl rfl rfl rfl rfl (ws' := [(10, (F_addSection (F_init (64 : Int32) (4 : Int32)) p1 (1 : Int32)), (fun _ => 0), (A_setWord (F_addSection (F_init (64 : Int32) (4 : Int32)) p1 (1 : Int32)) (A_setWord (F_addSection (F_init (64 : Int32) (4 : Int32)) p1 (1 : Int32)) (A_addSection (F_init (64 : Int32) (4 : Int32)) (fun _ _ => 0) p1 (1 : Int32)) p2 p3) p4 p5), (fun _ _ => 0))]) rfl ?_
                  refine Wk.iload o_L_law_216 rfl ?_
                  refine Wk.icmp_eq o_L_law_218 (fun q56 => ?_) (fun q => absurd h57 q)
                  refine Wk.aload o_L_law_223 rfl ?_
                  refine Wk.callLF (coC H) [] 0 [] (i' := 1) (H.w 70 rfl) (cv_imageSize H) o_L_law_225 (run_imageSize H (F_addSection (F_init (64 : Int32) (4 : Int32)) p1 (1 : Int32)) (fun _ => 0) (A_setWord (F_addSection (F_init (64 : Int32) (4 : Int32)) p1 (1 : Int32)) (A_setWord (F_addSection (F_init (64 : Int32) (4 : Int32)) p1 (1 : Int32)) (A_addSection (F_init (64 : Int32) (4 : Int32)) (fun _ _ => 0) p1 (1 : Int32)) p2 p3) p4 p5) (fun _ _ => 0)) (wt := 0) (cu' := 11) (su' := 354) (by decide) trivial rfl rfl rfl rfl rfl rfl rfl rfl rfl rfl (ws' := [(10, (F_addSection (F_init (64 : Int32) (4 : Int32)) p1 (1 : Int32)), (fun _ => 0), (A_setWord (F_addSection (F_init (64 : Int32) (4 : Int32)) p1 (1 : Int32)) (A_setWord (F_addSection (F_init (64 : Int32) (4 : Int32)) p1 (1 : Int32)) (A_addSection (F_init (64 : Int32) (4 : Int32)) (fun _ _ => 0) p1 (1 : Int32)) p2 p3) p4 p5), (fun _ _ => 0))]) rfl ?_
                  refine Wk.iload o_L_law_228 rfl ?_
                  have J59 : Wk l Z (MoL Z cdC "RebaseLoaderL2" false) md_L_law 238 [.val (.int p1), .val (.int p2), .val (.int p3), .val (.int p4), .val (.int p5), .val (.ref 1), .val (.int (if p1 < (1 : Int32) then (0 : Int32) else (if (64 : Int32) < p1 then (0 : Int32) else (1 : Int32)))), .val (.int (if p1 < (1 : Int32) then (-2 : Int32) else (if (64 : Int32) < p1 then (-3 : Int32) else (0 : Int32)))), .val (.int (if (if p1 < (1 : Int32) then (0 : Int32) else (if (64 : Int32) < p1 then (0 : Int32) else (1 : Int32))) = 0 then (0 : Int32) else (if p2 < 0 then (0 : Int32) else (if p2 < p1 then (1 : Int32) else (0 : Int32))))), .val (.int (if (if p1 < (1 : Int32) then (0 : Int32) else (if (64 : Int32) < p1 then (0 : Int32) else (1 : Int32))) = 0 then (0 : Int32) else (if p4 < 0 then (0 : Int32) else (if p4 < p1 then (1 : Int32) else (0 : Int32))))), .val (.int (if (if (if p1 < (1 : Int32) then (0 : Int32) else (if (64 : Int32) < p1 then (0 : Int32) else (1 : Int32))) = 0 then (0 : Int32) else (if p4 < 0 then (0 : Int32) else (if p4 < p1 then (1 : Int32) else (0 : Int32)))) = 0 then (if (if (if p1 < (1 : Int32) then (0 : Int32) else (if (64 : Int32) < p1 then (0 : Int32) else (1 : Int32))) = 0 then (0 : Int32) else (if p2 < 0 then (0 : Int32) else (if p2 < p1 then (1 : Int32) else (0 : Int32)))) = 0 then (0 : Int32) else p3) else (if p4 = p2 then p5 else (if (if (if p1 < (1 : Int32) then (0 : Int32) else (if (64 : Int32) < p1 then (0 : Int32) else (1 : Int32))) = 0 then (0 : Int32) else (if p2 < 0 then (0 : Int32) else (if p2 < p1 then (1 : Int32) else (0 : Int32)))) = 0 then (0 : Int32) else p3)))), .val (.int (if (if (if p1 < (1 : Int32) then (0 : Int32) else (if (64 : Int32) < p1 then (0 : Int32) else (1 : Int32))) = 0 then (0 : Int32) else (if p4 < 0 then (0 : Int32) else (if p4 < p1 then (1 : Int32) else (0 : Int32)))) = 0 then (0 : Int32) else p5))] [.int (if (if p1 < (1 : Int32) then (0 : Int32) else (if (64 : Int32) < p1 then (0 : Int32) else (1 : Int32))) = 0 then (0 : Int32) else p1), .int (f_imageSize (F_addSection (F_init (64 : Int32) (4 : Int32)) p1 (1 : Int32)))] (sl, sv, [(10, (F_addSection (F_init (64 : Int32) (4 : Int32)) p1 (1 : Int32)), (fun _ => 0), (A_setWord (F_addSection (F_init (64 : Int32) (4 : Int32)) p1 (1 : Int32)) (A_setWord (F_addSection (F_init (64 : Int32) (4 : Int32)) p1 (1 : Int32)) (A_addSection (F_init (64 : Int32) (4 : Int32)) (fun _ _ => 0) p1 (1 : Int32)) p2 p3) p4 p5), (fun _ _ => 0))]) 11 354 Q := by
                    refine Wk.icmp_eq o_L_law_238 (fun q60 => ?_) (fun q => absurd h61 q)
                    refine Wk.aload o_L_law_243 rfl ?_
                    refine Wk.callLF (coC H) [] 0 [] (i' := 1) (H.w 75 rfl) (cv_status H) o_L_law_245 (run_status H (F_addSection (F_init (64 : Int32) (4 : Int32)) p1 (1 : Int32)) (fun _ => 0) (A_setWord (F_addSection (F_init (64 : Int32) (4 : Int32)) p1 (1 : Int32)) (A_setWord (F_addSection (F_init (64 : Int32) (4 : Int32)) p1 (1 : Int32)) (A_addSection (F_init (64 : Int32) (4 : Int32)) (fun _ _ => 0) p1 (1 : Int32)) p2 p3) p4 p5) (fun _ _ => 0)) (wt := 0) (cu' := 11) (su' := 354) (by decide) trivial rfl rfl rfl rfl rfl rfl rfl rfl rfl rfl (ws' := [(10, (F_addSection (F_init (64 : Int32) (4 : Int32)) p1 (1 : Int32)), (fun _ => 0), (A_setWord (F_addSection (F_init (64 : Int32) (4 : Int32)) p1 (1 : Int32)) (A_setWord (F_addSection (F_init (64 : Int32) (4 : Int32)) p1 (1 : Int32)) (A_addSection (F_init (64 : Int32) (4 : Int32)) (fun _ _ => 0) p1 (1 : Int32)) p2 p3) p4 p5), (fun _ _ => 0))]) rfl ?_
                    refine Wk.if_eq o_L_law_248 (fun q62 => ?_) (fun q => absurd h63 q)
                    refine Wk.iconst o_L_law_253 (z := (1 : Int32)) (by decide) ?_
                    exact Wk.zreturn mrL rfl o_L_law_254 rfl (by decide) (by decide) (y := (1 : Int32)) (by decide) h64
                  refine Wk.if_eq o_L_law_230 (fun q58 => ?_) (fun q58 => ?_)
                  · refine Wk.iconst o_L_law_237 (z := (0 : Int32)) (by decide) ?_
                    first | exact J59 | (simp only [if_pos q58] at J59 ⊢; exact J59)
                  · refine Wk.iloadN o_L_law_233 rfl ?_
                    refine Wk.goto o_L_law_234 ?_
                    first | exact J59 | (simp only [if_neg q58] at J59 ⊢; exact J59)
                refine Wk.if_eq o_L_law_186 (fun q52 => ?_) (fun q52 => ?_)
                · refine Wk.iconst o_L_law_194 (z := (0 : Int32)) (by decide) ?_
                  first | exact J53 | (simp only [if_pos q52] at J53 ⊢; exact J53)
                · refine Wk.iload o_L_law_189 rfl ?_
                  refine Wk.goto o_L_law_191 ?_
                  first | exact J53 | (simp only [if_neg q52] at J53 ⊢; exact J53)
              refine Wk.if_eq o_L_law_159 (fun q44 => ?_) (fun q44 => ?_)
              · refine Wk.iload o_L_law_172 rfl ?_
                refine Wk.if_eq o_L_law_174 (fun q45 => ?_) (fun q45 => ?_)
                · refine Wk.iconst o_L_law_181 (z := (0 : Int32)) (by decide) ?_
                  first | exact J51 | (simp only [if_pos q44, if_pos q45] at J51 ⊢; exact J51)
                · refine Wk.iloadN o_L_law_177 rfl ?_
                  refine Wk.goto o_L_law_178 ?_
                  first | exact J51 | (simp only [if_pos q44, if_neg q45] at J51 ⊢; exact J51)
              · refine Wk.iloadN o_L_law_162 rfl ?_
                refine Wk.iloadN o_L_law_163 rfl ?_
                refine Wk.icmp_ne o_L_law_164 (fun q47 => ?_) (fun q47 => ?_)
                · refine Wk.iload o_L_law_172 rfl ?_
                  refine Wk.if_eq o_L_law_174 (fun q48 => ?_) (fun q48 => ?_)
                  · refine Wk.iconst o_L_law_181 (z := (0 : Int32)) (by decide) ?_
                    first | exact J51 | (simp only [if_neg q44, if_neg q47, if_pos q48] at J51 ⊢; exact J51)
                  · refine Wk.iloadN o_L_law_177 rfl ?_
                    refine Wk.goto o_L_law_178 ?_
                    first | exact J51 | (simp only [if_neg q44, if_neg q47, if_neg q48] at J51 ⊢; exact J51)
                · refine Wk.iload o_L_law_167 rfl ?_
                  refine Wk.goto o_L_law_169 ?_
                  first | exact J51 | (simp only [if_neg q44, if_pos q47] at J51 ⊢; exact J51)
            refine Wk.if_eq o_L_law_143 (fun q40 => ?_) (fun q40 => ?_)
            · refine Wk.bipush o_L_law_150 (z := (-2 : Int32)) (by decide) ?_
              first | exact J41 | (simp only [if_pos q40] at J41 ⊢; exact J41)
            · refine Wk.iconst o_L_law_146 (z := (0 : Int32)) (by decide) ?_
              refine Wk.goto o_L_law_147 ?_
              first | exact J41 | (simp only [if_neg q40] at J41 ⊢; exact J41)
          refine Wk.if_eq o_L_law_119 (fun q30 => ?_) (fun q30 => ?_)
          · refine Wk.bipush o_L_law_126 (z := (-2 : Int32)) (by decide) ?_
            first | exact J31 | (simp only [if_pos q30] at J31 ⊢; exact J31)
          · refine Wk.iconst o_L_law_122 (z := (0 : Int32)) (by decide) ?_
            refine Wk.goto o_L_law_123 ?_
            first | exact J31 | (simp only [if_neg q30] at J31 ⊢; exact J31)
        refine Wk.if_eq o_L_law_91 (fun q18 => ?_) (fun q18 => ?_)
        · refine Wk.iconst o_L_law_107 (z := (0 : Int32)) (by decide) ?_
          first | exact J23 | (simp only [if_pos q18] at J23 ⊢; exact J23)
        · refine Wk.iloadN o_L_law_94 rfl ?_
          refine Wk.if_lt o_L_law_95 (fun q19 => ?_) (fun q19 => ?_)
          · refine Wk.iconst o_L_law_107 (z := (0 : Int32)) (by decide) ?_
            first | exact J23 | (simp only [if_neg q18, if_pos q19] at J23 ⊢; exact J23)
          · refine Wk.iloadN o_L_law_98 rfl ?_
            refine Wk.iloadN o_L_law_99 rfl ?_
            refine Wk.icmp_ge o_L_law_100 (fun q20 => ?_) (fun q20 => ?_)
            · refine Wk.iconst o_L_law_107 (z := (0 : Int32)) (by decide) ?_
              first | exact J23 | (simp only [if_neg q18, if_neg q19, if_neg q20] at J23 ⊢; exact J23)
            · refine Wk.iconst o_L_law_103 (z := (1 : Int32)) (by decide) ?_
              refine Wk.goto o_L_law_104 ?_
              first | exact J23 | (simp only [if_neg q18, if_neg q19, if_pos q20] at J23 ⊢; exact J23)
      refine Wk.if_eq o_L_law_70 (fun q12 => ?_) (fun q12 => ?_)
      · refine Wk.iconst o_L_law_86 (z := (0 : Int32)) (by decide) ?_
        first | exact J17 | (simp only [if_pos q12] at J17 ⊢; exact J17)
      · refine Wk.iloadN o_L_law_73 rfl ?_
        refine Wk.if_lt o_L_law_74 (fun q13 => ?_) (fun q13 => ?_)
        · refine Wk.iconst o_L_law_86 (z := (0 : Int32)) (by decide) ?_
          first | exact J17 | (simp only [if_neg q12, if_pos q13] at J17 ⊢; exact J17)
        · refine Wk.iloadN o_L_law_77 rfl ?_
          refine Wk.iloadN o_L_law_78 rfl ?_
          refine Wk.icmp_ge o_L_law_79 (fun q14 => ?_) (fun q14 => ?_)
          · refine Wk.iconst o_L_law_86 (z := (0 : Int32)) (by decide) ?_
            first | exact J17 | (simp only [if_neg q12, if_neg q13, if_neg q14] at J17 ⊢; exact J17)
          · refine Wk.iconst o_L_law_82 (z := (1 : Int32)) (by decide) ?_
            refine Wk.goto o_L_law_83 ?_
            first | exact J17 | (simp only [if_neg q12, if_neg q13, if_pos q14] at J17 ⊢; exact J17)
    refine Wk.icmp_ge o_L_law_32 (fun q5 => ?_) (fun q5 => ?_)
    · refine Wk.iloadN o_L_law_40 rfl ?_
      refine Wk.bipush o_L_law_41 (z := (64 : Int32)) (by decide) ?_
      refine Wk.icmp_le o_L_law_43 (fun q6 => ?_) (fun q6 => ?_)
      · refine Wk.iconst o_L_law_51 (z := (0 : Int32)) (by decide) ?_
        first | exact J8 | (simp only [if_neg q5, if_neg q6] at J8 ⊢; exact J8)
      · refine Wk.bipush o_L_law_46 (z := (-3 : Int32)) (by decide) ?_
        refine Wk.goto o_L_law_48 ?_
        first | exact J8 | (simp only [if_neg q5, if_pos q6] at J8 ⊢; exact J8)
    · refine Wk.bipush o_L_law_35 (z := (-2 : Int32)) (by decide) ?_
      refine Wk.goto o_L_law_37 ?_
      first | exact J8 | (simp only [if_pos q5] at J8 ⊢; exact J8)
  refine Wk.icmp_lt o_L_law_14 (fun q1 => ?_) (fun q1 => ?_)
  · refine Wk.iconst o_L_law_27 (z := (0 : Int32)) (by decide) ?_
    first | exact J4 | (simp only [if_pos q1] at J4 ⊢; exact J4)
  · refine Wk.iloadN o_L_law_17 rfl ?_
    refine Wk.bipush o_L_law_18 (z := (64 : Int32)) (by decide) ?_
    refine Wk.icmp_gt o_L_law_20 (fun q2 => ?_) (fun q2 => ?_)
    · refine Wk.iconst o_L_law_27 (z := (0 : Int32)) (by decide) ?_
      first | exact J4 | (simp only [if_neg q1, if_pos q2] at J4 ⊢; exact J4)
    · refine Wk.iconst o_L_law_23 (z := (1 : Int32)) (by decide) ?_
      refine Wk.goto o_L_law_24 ?_
      first | exact J4 | (simp only [if_neg q1, if_neg q2] at J4 ⊢; exact J4)
theorem sar8 (p : Int32) : (p >>> ((8 : Int32) &&& 31)).toInt = p.toInt / 256 :=
  sar_toInt p ((8 : Int32) &&& 31) 8 (by decide) (by decide)
theorem and255 (p : Int32) : (p &&& 255).toInt = p.toInt % 256 :=
  and_mask p 255 8 (by decide) (by decide)
theorem t0 : (0 : Int32).toInt = 0 := by decide
theorem t1 : (1 : Int32).toInt = 1 := by decide
theorem t256 : (256 : Int32).toInt = 256 := by decide
theorem sar_nn (p : Int32) (h : ¬ p < 0) : ¬ (p >>> ((8 : Int32) &&& 31)) < 0 := by
  rw [lt_i, t0] at *; rw [sar8]; omega
theorem sar_z (p : Int32) (h : ¬ p < 0) (h2 : p < 256) : p >>> ((8 : Int32) &&& 31) = 0 := by
  rw [lt_i, t0] at h; rw [lt_i, t256] at h2
  exact Int32.toInt_inj.mp (by rw [sar8, t0]; omega)
theorem sar_1 (p : Int32) (h : ¬ p < 0) (h2 : (p >>> ((8 : Int32) &&& 31)) < 1) : p < 256 := by
  rw [lt_i, t0] at h; rw [lt_i, t1, sar8] at h2; rw [lt_i, t256]; omega
theorem and_z (p : Int32) (h : ¬ p < 0) (h2 : p < 256) : p &&& 255 = p := by
  rw [lt_i, t0] at h; rw [lt_i, t256] at h2
  exact Int32.toInt_inj.mp (by rw [and255]; omega)
def Hs (p1 : Int32) (F : Nat → Int32) (A : Nat → Int32 → Int32) : Prop :=
  F 5 = 0 ∧ ((p1 < 1 ∨ 64 < p1) ∧ F 2 = 0 ∧ F 3 = 0 ∨ (¬ p1 < 1 ∧ ¬ 64 < p1) ∧ F 2 = 1 ∧ F 3 = p1 ∧ A 0 0 = 0 ∧ A 1 0 = p1)
theorem clamp64 : f_clamp 64 16 64 = 64 := by rw [e_clamp]; decide
theorem va1 : ¬ f_validAlign 1 = 0 := by rw [e_validAlign]; simp [nar1]
theorem st0 : ((((0 : Int32) + 1) - 1) &&& (((1 : Int32) - 1) ^^^ (-1))) = 0 := by decide
theorem hs0 (p1 : Int32) : Hs p1 (F_addSection (F_init 64 4) p1 1) (A_addSection (F_init 64 4) (fun _ _ => 0) p1 1) := by
  have q5 := F_init_5 64 4
  have q2 : F_init 64 4 2 < 4 := by rw [F_init_2]; decide
  refine ⟨(F_addSection_5 _ _ _).trans q5, ?_⟩
  rw [F_addSection_2, F_addSection_3, eA_addSection, if_pos q5, if_pos q5, if_pos q5, if_pos q2, if_pos q2, if_pos q2, F_init_0, F_init_2, F_init_3, clamp64, st0]
  by_cases a : p1 < 1
  · left; simp [a]
  · by_cases b : 64 < p1
    · left
      have c : (64 : Int32) - 0 < p1 := by simpa using b
      simp [a, va1, b]
    · right
      simp [a, b, va1, eA_clearWords, ups]
theorem vp (p1 : Int32) (F : Nat → Int32) (A : Nat → Int32 → Int32) (h : Hs p1 F A) (p : Int32) :
    f_validPos F A p = if p1 < 1 then 0 else if 64 < p1 then 0 else if p < 0 then 0 else if p < p1 then 1 else 0 := by
  rw [e_validPos]
  obtain ⟨h5, ⟨h, h2, h3⟩ | ⟨⟨ha, hb⟩, h2, h3, h0, h1⟩⟩ := h
  · have e : (if p1 < 1 then (0 : Int32) else if 64 < p1 then 0 else if p < 0 then 0 else if p < p1 then 1 else 0) = 0 := by
      rcases h with h | h <;> simp [h]
    rw [e, h2]
    by_cases a : p < 0
    · rw [if_pos a]
    · rw [if_neg a, if_neg (sar_nn p a)]
  · rw [if_neg ha, if_neg hb, h2]
    by_cases a : p < 0
    · rw [if_pos a, if_pos a]
    · rw [if_neg a, if_neg a]
      by_cases b : p < 256
      · rw [sar_z p a b, and_z p a b, h1, if_pos (by decide)]
        split
        · exact nar1
        · exact nar0
      · rw [if_neg (fun hh => b (sar_1 p a hh)), if_neg (by grind)]
theorem vok (p1 : Int32) (F : Nat → Int32) (A : Nat → Int32 → Int32) (h : Hs p1 F A) (p : Int32) (hv : ¬ f_validPos F A p = 0) :
    ¬ p1 < 1 ∧ ¬ 64 < p1 ∧ ¬ p < 0 ∧ p < p1 ∧ p < 256 := by
  rw [vp p1 F A h] at hv
  by_cases a : p1 < 1
  · simp [a] at hv
  · by_cases b : 64 < p1
    · simp [a, b] at hv
    · by_cases c : p < 0
      · simp [a, b, c] at hv
      · by_cases d : p < p1
        · exact ⟨a, b, c, d, by grind⟩
        · simp [a, b, c, d] at hv
theorem off (p1 : Int32) (F : Nat → Int32) (A : Nat → Int32 → Int32) (h : Hs p1 F A) (p : Int32) (hv : ¬ f_validPos F A p = 0) : f_offsetOf A p = p := by
  obtain ⟨a, b, c, d, e⟩ := vok p1 F A h p hv
  obtain ⟨h5, ⟨h, h2, h3⟩ | ⟨⟨ha, hb⟩, h2, h3, h0, h1⟩⟩ := h
  · rcases h with h | h
    · exact absurd h a
    · exact absurd h b
  · rw [e_offsetOf, sar_z p c e, and_z p c e, h0]; simp
theorem hsw (p1 : Int32) (F : Nat → Int32) (A : Nat → Int32 → Int32) (h : Hs p1 F A) (p v : Int32) : Hs p1 F (A_setWord F A p v) := by
  have e : ∀ j, j ≠ 2 → A_setWord F A p v j = A j := by
    intro j hj
    rw [eA_setWord]; (repeat' split) <;> first | rfl | exact ups_ne _ _ hj
  unfold Hs at *
  rw [e 0 (by decide), e 1 (by decide)]; exact h
theorem raw (p1 : Int32) (F : Nat → Int32) (A : Nat → Int32 → Int32) (h : Hs p1 F A) (p v q : Int32) :
    A_setWord F A p v 2 q = if f_validPos F A p = 0 then A 2 q else if q = p then v else A 2 q := by
  rw [eA_setWord, if_pos h.1]
  by_cases a : f_validPos F A p = 0
  · rw [if_pos a, if_pos a]
  · rw [if_neg a, if_neg a, off p1 F A h p a, ups_at]; rfl
theorem raw0 (p1 q : Int32) : A_addSection (F_init 64 4) (fun _ _ => 0) p1 1 2 q = 0 := by
  rw [eA_addSection]
  (repeat' split) <;> first | rfl | (rw [eA_clearWords]; simp [ups])
theorem swv (p1 : Int32) (F : Nat → Int32) (A : Nat → Int32 → Int32) (h : Hs p1 F A) (p v : Int32) :
    f_setWord F A p v = if f_validPos F A p = 0 then -2 else 0 := by
  rw [e_setWord, if_pos h.1]
theorem s1 (p1 : Int32) (F : Nat → Int32) (A : Nat → Int32 → Int32) (h : Hs p1 F A) (p : Int32) (c : ¬ p < 0) (d : p >>> ((8 : Int32) &&& 31) < F 2) : p >>> ((8 : Int32) &&& 31) < 4 := by
  obtain ⟨h5, ⟨h, h2, h3⟩ | ⟨⟨ha, hb⟩, h2, h3, h0, h1⟩⟩ := h <;> rw [h2] at d <;> grind
theorem pk (p1 : Int32) (F : Nat → Int32) (A : Nat → Int32 → Int32) (h : Hs p1 F A) (p : Int32) :
    f_peek F A p = if f_validPos F A p = 0 then 0 else A 2 p := by
  by_cases a : f_validPos F A p = 0
  · rw [if_pos a, e_peek]
    rw [vp p1 F A h] at a
    obtain ⟨h5, ⟨h, h2, h3⟩ | ⟨⟨ha, hb⟩, h2, h3, h0, h1⟩⟩ := h
    · rw [h3]
      by_cases c : p < 0
      · rw [if_pos c]
      · rw [if_neg c, if_neg c]
    · rw [h3]
      rw [if_neg ha, if_neg hb] at a
      by_cases c : p < 0
      · rw [if_pos c]
      · rw [if_neg c] at a ⊢
        by_cases d : p < p1
        · rw [if_pos d] at a; exact absurd a (by decide)
        · rw [if_neg d]
  · rw [if_neg a]
    obtain ⟨xa, xb, xc, xd, xe⟩ := vok p1 F A h p a
    obtain ⟨h5, ⟨h, h2, h3⟩ | ⟨⟨ha, hb⟩, h2, h3, h0, h1⟩⟩ := h
    · rcases h with h | h
      · exact absurd h xa
      · exact absurd h xb
    · rw [e_peek, if_neg xc, h3, if_pos xd, if_pos (by grind), if_pos h5]
set_option maxRecDepth 65536 in
set_option maxHeartbeats 4000000 in
theorem own_s9 (p1 : Int32) (p2 : Int32) (p3 : Int32) (p4 : Int32) (p5 : Int32) : ¬ ((F_init (64 : Int32) (4 : Int32)) 2) < 0 := by
  rw [F_init_2]; decide
set_option maxRecDepth 65536 in
set_option maxHeartbeats 4000000 in
theorem own_h11 (p1 : Int32) (p2 : Int32) (p3 : Int32) (p4 : Int32) (p5 : Int32) : (f_addSection (F_init (64 : Int32) (4 : Int32)) p1 (1 : Int32)) = (if p1 < (1 : Int32) then (-2 : Int32) else (if (64 : Int32) < p1 then (-3 : Int32) else (0 : Int32))) := by
  rw [e_addSection, if_pos (F_init_5 64 4), if_pos (by rw [F_init_2]; decide), F_init_0, F_init_2, F_init_3, clamp64, st0]
  by_cases a : p1 < 1 <;> by_cases b : 64 < p1 <;> simp [a, b, va1]
set_option maxRecDepth 65536 in
set_option maxHeartbeats 4000000 in
theorem own_s24 (p1 : Int32) (p2 : Int32) (p3 : Int32) (p4 : Int32) (p5 : Int32) : ((F_addSection (F_init (64 : Int32) (4 : Int32)) p1 (1 : Int32)) 5) = 0 → ¬ p2 < 0 → (p2 >>> ((8 : Int32) &&& 31)) < ((F_addSection (F_init (64 : Int32) (4 : Int32)) p1 (1 : Int32)) 2) → ¬ (p2 >>> ((8 : Int32) &&& 31)) < 0 := by
  intro _ c _; exact sar_nn p2 c
set_option maxRecDepth 65536 in
set_option maxHeartbeats 4000000 in
theorem own_s25 (p1 : Int32) (p2 : Int32) (p3 : Int32) (p4 : Int32) (p5 : Int32) : ((F_addSection (F_init (64 : Int32) (4 : Int32)) p1 (1 : Int32)) 5) = 0 → ¬ p2 < 0 → (p2 >>> ((8 : Int32) &&& 31)) < ((F_addSection (F_init (64 : Int32) (4 : Int32)) p1 (1 : Int32)) 2) → (p2 >>> ((8 : Int32) &&& 31)) < (4 : Int32) := by
  intro _ c d; exact s1 p1 _ _ (hs0 p1) p2 c d
set_option maxRecDepth 65536 in
set_option maxHeartbeats 4000000 in
theorem own_s26 (p1 : Int32) (p2 : Int32) (p3 : Int32) (p4 : Int32) (p5 : Int32) : ((F_addSection (F_init (64 : Int32) (4 : Int32)) p1 (1 : Int32)) 5) = 0 → ¬ (f_validPos (F_addSection (F_init (64 : Int32) (4 : Int32)) p1 (1 : Int32)) (A_addSection (F_init (64 : Int32) (4 : Int32)) (fun _ _ => 0) p1 (1 : Int32)) p2) = 0 → ¬ (p2 >>> ((8 : Int32) &&& 31)) < 0 := by
  intro _ v; exact sar_nn p2 (vok p1 _ _ (hs0 p1) p2 v).2.2.1
set_option maxRecDepth 65536 in
set_option maxHeartbeats 4000000 in
theorem own_s27 (p1 : Int32) (p2 : Int32) (p3 : Int32) (p4 : Int32) (p5 : Int32) : ((F_addSection (F_init (64 : Int32) (4 : Int32)) p1 (1 : Int32)) 5) = 0 → ¬ (f_validPos (F_addSection (F_init (64 : Int32) (4 : Int32)) p1 (1 : Int32)) (A_addSection (F_init (64 : Int32) (4 : Int32)) (fun _ _ => 0) p1 (1 : Int32)) p2) = 0 → (p2 >>> ((8 : Int32) &&& 31)) < (4 : Int32) := by
  intro _ v; have w := vok p1 _ _ (hs0 p1) p2 v; rw [sar_z p2 w.2.2.1 w.2.2.2.2]; decide
set_option maxRecDepth 65536 in
set_option maxHeartbeats 4000000 in
theorem own_s28 (p1 : Int32) (p2 : Int32) (p3 : Int32) (p4 : Int32) (p5 : Int32) : ((F_addSection (F_init (64 : Int32) (4 : Int32)) p1 (1 : Int32)) 5) = 0 → ¬ (f_validPos (F_addSection (F_init (64 : Int32) (4 : Int32)) p1 (1 : Int32)) (A_addSection (F_init (64 : Int32) (4 : Int32)) (fun _ _ => 0) p1 (1 : Int32)) p2) = 0 → ¬ (f_offsetOf (A_addSection (F_init (64 : Int32) (4 : Int32)) (fun _ _ => 0) p1 (1 : Int32)) p2) < 0 := by
  intro _ v; rw [off p1 _ _ (hs0 p1) p2 v]; exact (vok p1 _ _ (hs0 p1) p2 v).2.2.1
set_option maxRecDepth 65536 in
set_option maxHeartbeats 4000000 in
theorem own_s29 (p1 : Int32) (p2 : Int32) (p3 : Int32) (p4 : Int32) (p5 : Int32) : ((F_addSection (F_init (64 : Int32) (4 : Int32)) p1 (1 : Int32)) 5) = 0 → ¬ (f_validPos (F_addSection (F_init (64 : Int32) (4 : Int32)) p1 (1 : Int32)) (A_addSection (F_init (64 : Int32) (4 : Int32)) (fun _ _ => 0) p1 (1 : Int32)) p2) = 0 → (f_offsetOf (A_addSection (F_init (64 : Int32) (4 : Int32)) (fun _ _ => 0) p1 (1 : Int32)) p2) < (64 : Int32) := by
  intro _ v; rw [off p1 _ _ (hs0 p1) p2 v]; have w := vok p1 _ _ (hs0 p1) p2 v; grind
set_option maxRecDepth 65536 in
set_option maxHeartbeats 4000000 in
theorem own_h33 (p1 : Int32) (p2 : Int32) (p3 : Int32) (p4 : Int32) (p5 : Int32) : (f_setWord (F_addSection (F_init (64 : Int32) (4 : Int32)) p1 (1 : Int32)) (A_addSection (F_init (64 : Int32) (4 : Int32)) (fun _ _ => 0) p1 (1 : Int32)) p2 p3) = (if (if (if p1 < (1 : Int32) then (0 : Int32) else (if (64 : Int32) < p1 then (0 : Int32) else (1 : Int32))) = 0 then (0 : Int32) else (if p2 < 0 then (0 : Int32) else (if p2 < p1 then (1 : Int32) else (0 : Int32)))) = 0 then (-2 : Int32) else (0 : Int32)) := by
  rw [swv p1 _ _ (hs0 p1), vp p1 _ _ (hs0 p1)]
  by_cases a : p1 < 1 <;> by_cases b : 64 < p1 <;> simp [a, b]
set_option maxRecDepth 65536 in
set_option maxHeartbeats 4000000 in
theorem own_s34 (p1 : Int32) (p2 : Int32) (p3 : Int32) (p4 : Int32) (p5 : Int32) : ((F_addSection (F_init (64 : Int32) (4 : Int32)) p1 (1 : Int32)) 5) = 0 → ¬ p4 < 0 → (p4 >>> ((8 : Int32) &&& 31)) < ((F_addSection (F_init (64 : Int32) (4 : Int32)) p1 (1 : Int32)) 2) → ¬ (p4 >>> ((8 : Int32) &&& 31)) < 0 := by
  intro _ c _; exact sar_nn p4 c
set_option maxRecDepth 65536 in
set_option maxHeartbeats 4000000 in
theorem own_s35 (p1 : Int32) (p2 : Int32) (p3 : Int32) (p4 : Int32) (p5 : Int32) : ((F_addSection (F_init (64 : Int32) (4 : Int32)) p1 (1 : Int32)) 5) = 0 → ¬ p4 < 0 → (p4 >>> ((8 : Int32) &&& 31)) < ((F_addSection (F_init (64 : Int32) (4 : Int32)) p1 (1 : Int32)) 2) → (p4 >>> ((8 : Int32) &&& 31)) < (4 : Int32) := by
  intro _ c d; exact s1 p1 _ _ (hsw p1 _ _ (hs0 p1) p2 p3) p4 c d
set_option maxRecDepth 65536 in
set_option maxHeartbeats 4000000 in
theorem own_s36 (p1 : Int32) (p2 : Int32) (p3 : Int32) (p4 : Int32) (p5 : Int32) : ((F_addSection (F_init (64 : Int32) (4 : Int32)) p1 (1 : Int32)) 5) = 0 → ¬ (f_validPos (F_addSection (F_init (64 : Int32) (4 : Int32)) p1 (1 : Int32)) (A_setWord (F_addSection (F_init (64 : Int32) (4 : Int32)) p1 (1 : Int32)) (A_addSection (F_init (64 : Int32) (4 : Int32)) (fun _ _ => 0) p1 (1 : Int32)) p2 p3) p4) = 0 → ¬ (p4 >>> ((8 : Int32) &&& 31)) < 0 := by
  intro _ v; exact sar_nn p4 (vok p1 _ _ (hsw p1 _ _ (hs0 p1) p2 p3) p4 v).2.2.1
set_option maxRecDepth 65536 in
set_option maxHeartbeats 4000000 in
theorem own_s37 (p1 : Int32) (p2 : Int32) (p3 : Int32) (p4 : Int32) (p5 : Int32) : ((F_addSection (F_init (64 : Int32) (4 : Int32)) p1 (1 : Int32)) 5) = 0 → ¬ (f_validPos (F_addSection (F_init (64 : Int32) (4 : Int32)) p1 (1 : Int32)) (A_setWord (F_addSection (F_init (64 : Int32) (4 : Int32)) p1 (1 : Int32)) (A_addSection (F_init (64 : Int32) (4 : Int32)) (fun _ _ => 0) p1 (1 : Int32)) p2 p3) p4) = 0 → (p4 >>> ((8 : Int32) &&& 31)) < (4 : Int32) := by
  intro _ v; have w := vok p1 _ _ (hsw p1 _ _ (hs0 p1) p2 p3) p4 v; rw [sar_z p4 w.2.2.1 w.2.2.2.2]; decide
set_option maxRecDepth 65536 in
set_option maxHeartbeats 4000000 in
theorem own_s38 (p1 : Int32) (p2 : Int32) (p3 : Int32) (p4 : Int32) (p5 : Int32) : ((F_addSection (F_init (64 : Int32) (4 : Int32)) p1 (1 : Int32)) 5) = 0 → ¬ (f_validPos (F_addSection (F_init (64 : Int32) (4 : Int32)) p1 (1 : Int32)) (A_setWord (F_addSection (F_init (64 : Int32) (4 : Int32)) p1 (1 : Int32)) (A_addSection (F_init (64 : Int32) (4 : Int32)) (fun _ _ => 0) p1 (1 : Int32)) p2 p3) p4) = 0 → ¬ (f_offsetOf (A_setWord (F_addSection (F_init (64 : Int32) (4 : Int32)) p1 (1 : Int32)) (A_addSection (F_init (64 : Int32) (4 : Int32)) (fun _ _ => 0) p1 (1 : Int32)) p2 p3) p4) < 0 := by
  intro _ v; rw [off p1 _ _ (hsw p1 _ _ (hs0 p1) p2 p3) p4 v]; exact (vok p1 _ _ (hsw p1 _ _ (hs0 p1) p2 p3) p4 v).2.2.1
set_option maxRecDepth 65536 in
set_option maxHeartbeats 4000000 in
theorem own_s39 (p1 : Int32) (p2 : Int32) (p3 : Int32) (p4 : Int32) (p5 : Int32) : ((F_addSection (F_init (64 : Int32) (4 : Int32)) p1 (1 : Int32)) 5) = 0 → ¬ (f_validPos (F_addSection (F_init (64 : Int32) (4 : Int32)) p1 (1 : Int32)) (A_setWord (F_addSection (F_init (64 : Int32) (4 : Int32)) p1 (1 : Int32)) (A_addSection (F_init (64 : Int32) (4 : Int32)) (fun _ _ => 0) p1 (1 : Int32)) p2 p3) p4) = 0 → (f_offsetOf (A_setWord (F_addSection (F_init (64 : Int32) (4 : Int32)) p1 (1 : Int32)) (A_addSection (F_init (64 : Int32) (4 : Int32)) (fun _ _ => 0) p1 (1 : Int32)) p2 p3) p4) < (64 : Int32) := by
  intro _ v; rw [off p1 _ _ (hsw p1 _ _ (hs0 p1) p2 p3) p4 v]; have w := vok p1 _ _ (hsw p1 _ _ (hs0 p1) p2 p3) p4 v; grind
set_option maxRecDepth 65536 in
set_option maxHeartbeats 4000000 in
theorem own_h43 (p1 : Int32) (p2 : Int32) (p3 : Int32) (p4 : Int32) (p5 : Int32) : (f_setWord (F_addSection (F_init (64 : Int32) (4 : Int32)) p1 (1 : Int32)) (A_setWord (F_addSection (F_init (64 : Int32) (4 : Int32)) p1 (1 : Int32)) (A_addSection (F_init (64 : Int32) (4 : Int32)) (fun _ _ => 0) p1 (1 : Int32)) p2 p3) p4 p5) = (if (if (if p1 < (1 : Int32) then (0 : Int32) else (if (64 : Int32) < p1 then (0 : Int32) else (1 : Int32))) = 0 then (0 : Int32) else (if p4 < 0 then (0 : Int32) else (if p4 < p1 then (1 : Int32) else (0 : Int32)))) = 0 then (-2 : Int32) else (0 : Int32)) := by
  rw [swv p1 _ _ (hsw p1 _ _ (hs0 p1) p2 p3), vp p1 _ _ (hsw p1 _ _ (hs0 p1) p2 p3)]
  by_cases a : p1 < 1 <;> by_cases b : 64 < p1 <;> simp [a, b]
set_option maxRecDepth 65536 in
set_option maxHeartbeats 4000000 in
theorem own_h55 (p1 : Int32) (p2 : Int32) (p3 : Int32) (p4 : Int32) (p5 : Int32) : (f_peek (F_addSection (F_init (64 : Int32) (4 : Int32)) p1 (1 : Int32)) (A_setWord (F_addSection (F_init (64 : Int32) (4 : Int32)) p1 (1 : Int32)) (A_setWord (F_addSection (F_init (64 : Int32) (4 : Int32)) p1 (1 : Int32)) (A_addSection (F_init (64 : Int32) (4 : Int32)) (fun _ _ => 0) p1 (1 : Int32)) p2 p3) p4 p5) p2) = (if (if (if p1 < (1 : Int32) then (0 : Int32) else (if (64 : Int32) < p1 then (0 : Int32) else (1 : Int32))) = 0 then (0 : Int32) else (if p4 < 0 then (0 : Int32) else (if p4 < p1 then (1 : Int32) else (0 : Int32)))) = 0 then (if (if (if p1 < (1 : Int32) then (0 : Int32) else (if (64 : Int32) < p1 then (0 : Int32) else (1 : Int32))) = 0 then (0 : Int32) else (if p2 < 0 then (0 : Int32) else (if p2 < p1 then (1 : Int32) else (0 : Int32)))) = 0 then (0 : Int32) else p3) else (if p4 = p2 then p5 else (if (if (if p1 < (1 : Int32) then (0 : Int32) else (if (64 : Int32) < p1 then (0 : Int32) else (1 : Int32))) = 0 then (0 : Int32) else (if p2 < 0 then (0 : Int32) else (if p2 < p1 then (1 : Int32) else (0 : Int32)))) = 0 then (0 : Int32) else p3))) := by
  rw [pk p1 _ _ (hsw p1 _ _ (hsw p1 _ _ (hs0 p1) p2 p3) p4 p5), vp p1 _ _ (hsw p1 _ _ (hsw p1 _ _ (hs0 p1) p2 p3) p4 p5), raw p1 _ _ (hsw p1 _ _ (hs0 p1) p2 p3), vp p1 _ _ (hsw p1 _ _ (hs0 p1) p2 p3), raw p1 _ _ (hs0 p1), raw0, vp p1 _ _ (hs0 p1)]
  by_cases a : p1 < 1 <;> by_cases b : 64 < p1 <;> by_cases c : p2 < 0 <;> by_cases d : p2 < p1 <;> by_cases e : p4 < 0 <;> by_cases f : p4 < p1 <;> simp [a, b, c, d, e, f]
  all_goals grind
set_option maxRecDepth 65536 in
set_option maxHeartbeats 4000000 in
theorem own_h57 (p1 : Int32) (p2 : Int32) (p3 : Int32) (p4 : Int32) (p5 : Int32) : (f_peek (F_addSection (F_init (64 : Int32) (4 : Int32)) p1 (1 : Int32)) (A_setWord (F_addSection (F_init (64 : Int32) (4 : Int32)) p1 (1 : Int32)) (A_setWord (F_addSection (F_init (64 : Int32) (4 : Int32)) p1 (1 : Int32)) (A_addSection (F_init (64 : Int32) (4 : Int32)) (fun _ _ => 0) p1 (1 : Int32)) p2 p3) p4 p5) p4) = (if (if (if p1 < (1 : Int32) then (0 : Int32) else (if (64 : Int32) < p1 then (0 : Int32) else (1 : Int32))) = 0 then (0 : Int32) else (if p4 < 0 then (0 : Int32) else (if p4 < p1 then (1 : Int32) else (0 : Int32)))) = 0 then (0 : Int32) else p5) := by
  rw [pk p1 _ _ (hsw p1 _ _ (hsw p1 _ _ (hs0 p1) p2 p3) p4 p5), vp p1 _ _ (hsw p1 _ _ (hsw p1 _ _ (hs0 p1) p2 p3) p4 p5), raw p1 _ _ (hsw p1 _ _ (hs0 p1) p2 p3), vp p1 _ _ (hsw p1 _ _ (hs0 p1) p2 p3), raw p1 _ _ (hs0 p1), raw0, vp p1 _ _ (hs0 p1)]
  by_cases a : p1 < 1 <;> by_cases b : 64 < p1 <;> by_cases c : p2 < 0 <;> by_cases d : p2 < p1 <;> by_cases e : p4 < 0 <;> by_cases f : p4 < p1 <;> simp [a, b, c, d, e, f]
  all_goals grind
set_option maxRecDepth 65536 in
set_option maxHeartbeats 4000000 in
theorem own_h61 (p1 : Int32) (p2 : Int32) (p3 : Int32) (p4 : Int32) (p5 : Int32) : (f_imageSize (F_addSection (F_init (64 : Int32) (4 : Int32)) p1 (1 : Int32))) = (if (if p1 < (1 : Int32) then (0 : Int32) else (if (64 : Int32) < p1 then (0 : Int32) else (1 : Int32))) = 0 then (0 : Int32) else p1) := by
  rw [e_imageSize]; obtain ⟨h5, ⟨h | h, h2, h3⟩ | ⟨⟨ha, hb⟩, h2, h3, h0, h1⟩⟩ := hs0 p1 <;> rw [h3] <;> by_cases a : p1 < 1 <;> simp_all
set_option maxRecDepth 65536 in
set_option maxHeartbeats 4000000 in
theorem own_h63 (p1 : Int32) (p2 : Int32) (p3 : Int32) (p4 : Int32) (p5 : Int32) : (f_status (F_addSection (F_init (64 : Int32) (4 : Int32)) p1 (1 : Int32))) = 0 := by
  rw [e_status]; exact (hs0 p1).1
theorem law_ok {l : Launch} {Z : State} {a0 : Array Value} (H : OK Z a0) (p1 : Int32) (p2 : Int32) (p3 : Int32) (p4 : Int32) (p5 : Int32) :
    Wk l Z (MoL Z cdC "RebaseLoaderL2" false) md_L_law 0 [.val (.int p1), .val (.int p2), .val (.int p3), .val (.int p4), .val (.int p5), .unset, .unset, .unset, .unset, .unset, .unset, .unset] [] (0, (fun _ => 0), []) 0 0 (fun v _ => v = some (.int 1)) :=
  wp_L_law H 0 (fun _ => 0) p1 p2 p3 p4 p5 (own_s9 p1 p2 p3 p4 p5) (own_h11 p1 p2 p3 p4 p5) (own_s24 p1 p2 p3 p4 p5) (own_s25 p1 p2 p3 p4 p5) (own_s26 p1 p2 p3 p4 p5) (own_s27 p1 p2 p3 p4 p5) (own_s28 p1 p2 p3 p4 p5) (own_s29 p1 p2 p3 p4 p5) (own_h33 p1 p2 p3 p4 p5) (own_s34 p1 p2 p3 p4 p5) (own_s35 p1 p2 p3 p4 p5) (own_s36 p1 p2 p3 p4 p5) (own_s37 p1 p2 p3 p4 p5) (own_s38 p1 p2 p3 p4 p5) (own_s39 p1 p2 p3 p4 p5) (own_h43 p1 p2 p3 p4 p5) (own_h55 p1 p2 p3 p4 p5) (own_h57 p1 p2 p3 p4 p5) (own_h61 p1 p2 p3 p4 p5) (own_h63 p1 p2 p3 p4 p5) rfl
set_option maxRecDepth 65536 in
set_option maxHeartbeats 40000000 in
theorem comes_1 {Post : Tables → Env → Array Value → State → Outcome → State → Prop} (hpost : ∀ tb e args s v u, (limb_1_1.after args s (.returned v) u = true ∧ limb_1_2.after args s (.returned v) u = true ∧ True) → FrameEnd s (.returned v) u (Jvm.fieldLocs frame_1_writes args s ++ Jvm.arrayLocs frame_1_arrays args s ++ Jvm.staticLocs frame_1_statics s) room_1.cells room_1.slots → Post tb e args s (.returned v) u) :
    ArmFor flags0 classFile x code maxLocals ret World_1 tables_1 room_1 Calls_1 rest_1 Pre_1 Post := by
  intro l hfl _ _ p e ha hc hk s m args below hf hA hF happ hP
  obtain ⟨hcalls, hrest, hpre⟩ := hP
  obtain ⟨-, -, -, hnamed, -, -, -, hat⟩ := (Spec.applies_iff hf).mp happ
  obtain ⟨hg, hn⟩ := and_e (Cond.before_iff.mp (show (Jvm.Cond.and given_1 narrow_1).before args s = true from hpre))
  obtain ⟨h1, h2⟩ := and_e hg
  obtain ⟨w0, w1, w2, w3, w4, rfl⟩ : ∃ w0 w1 w2 w3 w4 : Value, args = #[w0, w1, w2, w3, w4] := by
    have hs : args.size = 5 := by simpa [Cond.value, given_1] using h1
    obtain ⟨L⟩ := args
    match L, hs with
    | [w0, w1, w2, w3, w4], _ => exact ⟨w0, w1, w2, w3, w4, rfl⟩
  have hw : OK s #[w0, w1, w2, w3, w4] := fun d (hd : d ∈ tables_1) => atoms_spec (ws := Jvm.Cond.code x code maxLocals ret :: tables_1) hat d (List.mem_cons_of_mem _ hd)
  obtain ⟨g0, r0⟩ := and_e h2
  obtain ⟨g1, r1⟩ := and_e r0
  obtain ⟨g2, r2⟩ := and_e r1
  obtain ⟨g3, r3⟩ := and_e r2
  have g4 := r3
  obtain ⟨i0, e0⟩ := is_v g0
  obtain rfl : w0 = (.int i0) := Option.some.inj e0
  obtain ⟨i1, e1⟩ := is_v g1
  obtain rfl : w1 = (.int i1) := Option.some.inj e1
  obtain ⟨i2, e2⟩ := is_v g2
  obtain rfl : w2 = (.int i2) := Option.some.inj e2
  obtain ⟨i3, e3⟩ := is_v g3
  obtain rfl : w3 = (.int i3) := Option.some.inj e3
  obtain ⟨i4, e4⟩ := is_v g4
  obtain rfl : w4 = (.int i4) := Option.some.inj e4
  have rel0 : relL s cdC false (s.heap.size, 0) (0, (fun _ => 0), []) s.heap := ⟨fun q => (by cases q), fun i x q => (by simp at q), (by simp)⟩
  obtain ⟨n, o, h1, h2, h3, v, L, rfl, ⟨w', hv, hrel, hfrm, N, hsz, hnr⟩, hq⟩ := (law_ok hw i0 i1 i2 i3 i4).met (M := MoL s cdC "RebaseLoaderL2" false) (l := l) pn_RebaseLoaderL2 rfl (en := (s.heap.size, 0)) rel0 [.int i0, .int i1, .int i2, .int i3, .int i4] rfl rfl tables_1 p e ha hc hk s m _ below hf ((Spec.applies_iff_loose hf).mp happ).1 ⟨rfl, State.Warmed39.refl s, rfl⟩ trivial
  subst hv
  exact ⟨n, _, h1, h2, h3, hpost _ _ _ _ _ _ ⟨Cond.after_iff.mpr rfl, Cond.after_iff.mpr (eq_i res_at (Term.int_eval (1)) rfl), trivial⟩ ⟨hq.1, hq.2.1, (hq.2.2.sift fun y hy => Or.inr (N y hy)).mono (Nat.le_refl _) (Nat.le_refl _)⟩⟩
theorem main_1_1 : Claimed_1_1 := comes_1 fun _ _ _ _ _ _ h hF => ⟨h.1, hF⟩
theorem main_1_2 : Claimed_1_2 := comes_1 fun _ _ _ _ _ _ h hF => ⟨h.2.1, hF⟩
end Jvm.Pilot.@@N@@
namespace Jvm.Pilot.@@N@@
open Jvm Jvm.ClassFile Sem Op Lib Jvm.Free Jvm.Stand Jvm.Pilot.@@N@@.Jvm.D
/-! MADE BY PROGRAM (witnessworld.py) out of the Statement's table words and the real class files: 11 classes; the members and pool entries that the words name. The judged class is class 1, her method 1. -/
namespace start1
open Jvm.ClassFile
def u (s : String) : CpInfo := .utf8 (stringToUtf16 s)
/-- a pool by its gaps: so many unusable entries, then the entry; so many at the end -/
def gap : Nat → List CpInfo → List CpInfo
  | 0, r => r
  | n + 1, r => .unusable :: gap n r
def poolList (es : List (Nat × CpInfo)) (last : Nat) : List CpInfo := es.foldr (fun e r => gap e.1 (e.2 :: r)) (gap last [])
def pool (es : List (Nat × CpInfo)) (last : Nat) : Array CpInfo := ⟨poolList es last⟩
def fileOf (pool : Array CpInfo) (this : Nat) (attrs : Array Attribute := #[]) (ms : Array MethodInfo := #[]) (fl : Nat := 33) (sup : Nat := 0) (ifs : Array Nat := #[]) (fds : Array FieldInfo := #[]) : ClassFile where
  minorVersion := 0
  majorVersion := 65
  constantPool := pool
  accessFlags := fl
  thisClass := this
  superClass := sup
  interfaces := ifs
  fields := fds
  methods := ms
  attributes := attrs
def plain (name : String) (sup : Option ClassId) : Class where
  name := name
  kind := .ordinary
  loader := none
  accessFlags := 33
  super := sup
  interfaces := #[]
  cf := none
  fields := #[]
  methods := #[]
  instanceTypes := #[]
  staticTypes := #[]
  resolved := #[]
  callSites := []
  init := .initialized
  statics := none
  mirror := none

def pool0 : Array CpInfo := pool [(5, u "<init>"), (0, u "()V"), (1, .class_ 10), (1, u "java/lang/Object")] 113

def k0c0 : Code := { maxStack := 0, maxLocals := 1, code := object_method_1_code, exceptionTable := #[], attributes := #[] }
def k0m0 : Method := { name := "<init>", desc := "()V", sig := { parameters := [], returnType := none }, accessFlags := 1, code := some k0c0 }
/-- java/lang/Object -/
def k0 : Class := { plain "java/lang/Object" none with
  accessFlags := 33
  interfaces := #[]
  cf := some (fileOf pool0 8 #[] #[{ accessFlags := 1, nameIndex := 5, descriptorIndex := 6, attributes := #[] }] 33 0 #[] #[])
  fields := #[]
  methods := #[k0m0]
  instanceTypes := #[]
  staticTypes := #[]
  resolved := Array.replicate 124 none
  statics := none }

def pool1 : Array CpInfo := pool [(2, .class_ 4), (1, u "java/lang/Object"), (0, u "<init>"), (0, u "()V"), (0, .class_ 8), (0, u "RebaseLoader"), (0, .methodref 7 10), (0, .nameAndType 5 11), (0, u "(II)V"), (0, .methodref 7 13), (0, .nameAndType 14 15), (0, u "addSection"), (0, u "(II)I"), (0, .methodref 7 17), (0, .nameAndType 18 15), (0, u "setWord"), (0, .methodref 7 20), (0, .nameAndType 21 22), (0, u "peek"), (0, u "(I)I"), (0, .methodref 7 24), (0, .nameAndType 25 26), (0, u "imageSize"), (0, u "()I"), (0, .methodref 7 28), (0, .nameAndType 29 26), (0, u "status"), (0, .class_ 31), (0, u "RebaseLoaderL2"), (2, u "law"), (0, u "(IIIII)Z")] 3

def k1m0 : Method := { name := "<init>", desc := "()V", sig := { parameters := [], returnType := none }, accessFlags := 1, code := none }
def k1c1 : Code := { maxStack := 4, maxLocals := 12, code := code, exceptionTable := #[], attributes := #[] }
def k1m1 : Method := { name := "law", desc := "(IIIII)Z", sig := { parameters := [.int, .int, .int, .int, .int], returnType := some .boolean }, accessFlags := 9, code := some k1c1 }
/-- RebaseLoaderL2 -/
def k1 : Class := { plain "RebaseLoaderL2" (some 0) with
  accessFlags := 33
  interfaces := #[]
  cf := some (fileOf pool1 30 #[] #[{ accessFlags := 1, nameIndex := 5, descriptorIndex := 6, attributes := #[] }, { accessFlags := 9, nameIndex := 34, descriptorIndex := 35, attributes := #[] }] 33 2 #[] #[])
  fields := #[]
  methods := #[k1m0, k1m1]
  instanceTypes := #[]
  staticTypes := #[]
  resolved := Array.replicate 39 none
  statics := none }

def pool2 : Array CpInfo := pool [(1, .methodref 2 3), (0, .class_ 4), (0, .nameAndType 5 6), (0, u "java/lang/Object"), (0, u "<init>"), (0, u "()V"), (0, .fieldref 8 9), (0, .class_ 10), (0, .nameAndType 11 12), (0, u "RebaseLoader"), (0, u "secStart"), (0, u "[I"), (0, .fieldref 8 14), (0, .nameAndType 15 12), (0, u "secSize"), (0, .fieldref 8 17), (0, .nameAndType 18 12), (0, u "raw"), (0, .fieldref 8 20), (0, .nameAndType 21 12), (0, u "cur"), (0, .fieldref 8 23), (0, .nameAndType 24 25), (0, u "taken"), (0, u "[Z"), (0, .fieldref 8 27), (0, .nameAndType 28 12), (0, u "recKind"), (0, .fieldref 8 30), (0, .nameAndType 31 12), (0, u "recOff"), (0, .fieldref 8 33), (0, .nameAndType 34 12), (0, u "recTarget"), (0, .fieldref 8 36), (0, .nameAndType 37 12), (0, u "recLoOff"), (0, .fieldref 8 39), (0, .nameAndType 40 12), (0, u "regs"), (0, .methodref 8 42), (0, .nameAndType 43 44), (0, u "clamp"), (0, u "(III)I"), (0, .fieldref 8 46), (0, .nameAndType 47 48), (0, u "cap"), (0, u "I"), (0, .fieldref 8 50), (0, .nameAndType 51 48), (0, u "maxRec"), (0, .fieldref 8 53), (0, .nameAndType 54 48), (0, u "state"), (0, .fieldref 8 56), (0, .nameAndType 57 48), (0, u "nSec"), (0, .fieldref 8 59), (0, .nameAndType 60 48), (0, u "nRec"), (0, .fieldref 8 62), (0, .nameAndType 63 48), (0, u "imgSize"), (0, .fieldref 8 65), (0, .nameAndType 66 48), (0, u "baseAddr"), (0, .fieldref 8 68), (0, .nameAndType 69 48), (0, u "pcReg"), (4, .methodref 8 75), (0, .nameAndType 76 77), (0, u "validAlign"), (0, u "(I)Z"), (0, .methodref 8 79), (0, .nameAndType 80 81), (0, u "clearWords"), (0, u "(II)V"), (0, .methodref 8 83), (0, .nameAndType 84 77), (0, u "validPos"), (0, .methodref 8 86), (0, .nameAndType 87 88), (0, u "offsetOf"), (0, u "(I)I"), (20, u "(II)I"), (41, u "OK"), (2, u "ERR_STATE"), (1, u "ERR_ARG"), (1, u "ERR_FULL"), (1, u "ERR_TAKEN"), (1, u "ABS32"), (1, u "REL32"), (1, u "LO16"), (1, u "PAIR"), (1, u "TARGET_ABSOLUTE"), (0, u "ST_BUILDING"), (0, u "ST_IDLE"), (0, u "ST_RUNNING"), (0, u "ST_HALTED"), (0, u "ST_FAULT"), (0, u "MAX_SECTIONS"), (0, u "MAX_STEPS"), (4, u "addSection"), (0, u "setWord"), (3, u "peek"), (0, u "imageSize"), (0, u "()I"), (5, u "status")] 4

def k2c0 : Code := { maxStack := 5, maxLocals := 3, code := prog_1_method_1_code, exceptionTable := #[], attributes := #[] }
def k2m0 : Method := { name := "<init>", desc := "(II)V", sig := { parameters := [.int, .int], returnType := none }, accessFlags := 1, code := some k2c0 }
def k2c1 : Code := { maxStack := 2, maxLocals := 4, code := prog_1_method_2_code, exceptionTable := #[], attributes := #[] }
def k2m1 : Method := { name := "clamp", desc := "(III)I", sig := { parameters := [.int, .int, .int], returnType := some .int }, accessFlags := 2, code := some k2c1 }
def k2c2 : Code := { maxStack := 2, maxLocals := 2, code := prog_1_method_7_code, exceptionTable := #[], attributes := #[] }
def k2m2 : Method := { name := "validAlign", desc := "(I)Z", sig := { parameters := [.int], returnType := some .boolean }, accessFlags := 2, code := some k2c2 }
def k2c3 : Code := { maxStack := 3, maxLocals := 3, code := prog_1_method_8_code, exceptionTable := #[], attributes := #[] }
def k2m3 : Method := { name := "validPos", desc := "(I)Z", sig := { parameters := [.int], returnType := some .boolean }, accessFlags := 2, code := some k2c3 }
def k2c4 : Code := { maxStack := 3, maxLocals := 2, code := prog_1_method_9_code, exceptionTable := #[], attributes := #[] }
def k2m4 : Method := { name := "offsetOf", desc := "(I)I", sig := { parameters := [.int], returnType := some .int }, accessFlags := 2, code := some k2c4 }
def k2c5 : Code := { maxStack := 4, maxLocals := 5, code := prog_1_method_12_code, exceptionTable := #[], attributes := #[] }
def k2m5 : Method := { name := "addSection", desc := "(II)I", sig := { parameters := [.int, .int], returnType := some .int }, accessFlags := 1, code := some k2c5 }
def k2c6 : Code := { maxStack := 3, maxLocals := 4, code := prog_1_method_13_code, exceptionTable := #[], attributes := #[] }
def k2m6 : Method := { name := "clearWords", desc := "(II)V", sig := { parameters := [.int, .int], returnType := none }, accessFlags := 2, code := some k2c6 }
def k2c7 : Code := { maxStack := 3, maxLocals := 4, code := prog_1_method_14_code, exceptionTable := #[], attributes := #[] }
def k2m7 : Method := { name := "setWord", desc := "(II)I", sig := { parameters := [.int, .int], returnType := some .int }, accessFlags := 1, code := some k2c7 }
def k2c8 : Code := { maxStack := 2, maxLocals := 2, code := prog_1_method_26_code, exceptionTable := #[], attributes := #[] }
def k2m8 : Method := { name := "peek", desc := "(I)I", sig := { parameters := [.int], returnType := some .int }, accessFlags := 1, code := some k2c8 }
def k2c9 : Code := { maxStack := 1, maxLocals := 1, code := prog_1_method_27_code, exceptionTable := #[], attributes := #[] }
def k2m9 : Method := { name := "imageSize", desc := "()I", sig := { parameters := [], returnType := some .int }, accessFlags := 1, code := some k2c9 }
def k2c10 : Code := { maxStack := 1, maxLocals := 1, code := prog_1_method_34_code, exceptionTable := #[], attributes := #[] }
def k2m10 : Method := { name := "status", desc := "()I", sig := { parameters := [], returnType := some .int }, accessFlags := 1, code := some k2c10 }
/-- RebaseLoader -/
def k2 : Class := { plain "RebaseLoader" (some 0) with
  accessFlags := 49
  interfaces := #[]
  cf := some (fileOf pool2 8 #[] #[{ accessFlags := 1, nameIndex := 5, descriptorIndex := 81, attributes := #[] }, { accessFlags := 2, nameIndex := 43, descriptorIndex := 44, attributes := #[] }, { accessFlags := 2, nameIndex := 76, descriptorIndex := 77, attributes := #[] }, { accessFlags := 2, nameIndex := 84, descriptorIndex := 77, attributes := #[] }, { accessFlags := 2, nameIndex := 87, descriptorIndex := 88, attributes := #[] }, { accessFlags := 1, nameIndex := 182, descriptorIndex := 109, attributes := #[] }, { accessFlags := 2, nameIndex := 80, descriptorIndex := 81, attributes := #[] }, { accessFlags := 1, nameIndex := 183, descriptorIndex := 109, attributes := #[] }, { accessFlags := 1, nameIndex := 187, descriptorIndex := 88, attributes := #[] }, { accessFlags := 1, nameIndex := 188, descriptorIndex := 189, attributes := #[] }, { accessFlags := 1, nameIndex := 195, descriptorIndex := 189, attributes := #[] }] 49 2 #[] #[{ accessFlags := 25, nameIndex := 151, descriptorIndex := 48, attributes := #[] }, { accessFlags := 25, nameIndex := 154, descriptorIndex := 48, attributes := #[] }, { accessFlags := 25, nameIndex := 156, descriptorIndex := 48, attributes := #[] }, { accessFlags := 25, nameIndex := 158, descriptorIndex := 48, attributes := #[] }, { accessFlags := 25, nameIndex := 160, descriptorIndex := 48, attributes := #[] }, { accessFlags := 25, nameIndex := 162, descriptorIndex := 48, attributes := #[] }, { accessFlags := 25, nameIndex := 164, descriptorIndex := 48, attributes := #[] }, { accessFlags := 25, nameIndex := 166, descriptorIndex := 48, attributes := #[] }, { accessFlags := 25, nameIndex := 168, descriptorIndex := 48, attributes := #[] }, { accessFlags := 25, nameIndex := 170, descriptorIndex := 48, attributes := #[] }, { accessFlags := 25, nameIndex := 171, descriptorIndex := 48, attributes := #[] }, { accessFlags := 25, nameIndex := 172, descriptorIndex := 48, attributes := #[] }, { accessFlags := 25, nameIndex := 173, descriptorIndex := 48, attributes := #[] }, { accessFlags := 25, nameIndex := 174, descriptorIndex := 48, attributes := #[] }, { accessFlags := 25, nameIndex := 175, descriptorIndex := 48, attributes := #[] }, { accessFlags := 25, nameIndex := 176, descriptorIndex := 48, attributes := #[] }, { accessFlags := 25, nameIndex := 177, descriptorIndex := 48, attributes := #[] }, { accessFlags := 2, nameIndex := 47, descriptorIndex := 48, attributes := #[] }, { accessFlags := 2, nameIndex := 51, descriptorIndex := 48, attributes := #[] }, { accessFlags := 2, nameIndex := 57, descriptorIndex := 48, attributes := #[] }, { accessFlags := 2, nameIndex := 11, descriptorIndex := 12, attributes := #[] }, { accessFlags := 2, nameIndex := 15, descriptorIndex := 12, attributes := #[] }, { accessFlags := 2, nameIndex := 63, descriptorIndex := 48, attributes := #[] }, { accessFlags := 2, nameIndex := 18, descriptorIndex := 12, attributes := #[] }, { accessFlags := 2, nameIndex := 21, descriptorIndex := 12, attributes := #[] }, { accessFlags := 2, nameIndex := 24, descriptorIndex := 25, attributes := #[] }, { accessFlags := 2, nameIndex := 60, descriptorIndex := 48, attributes := #[] }, { accessFlags := 2, nameIndex := 28, descriptorIndex := 12, attributes := #[] }, { accessFlags := 2, nameIndex := 31, descriptorIndex := 12, attributes := #[] }, { accessFlags := 2, nameIndex := 34, descriptorIndex := 12, attributes := #[] }, { accessFlags := 2, nameIndex := 37, descriptorIndex := 12, attributes := #[] }, { accessFlags := 2, nameIndex := 54, descriptorIndex := 48, attributes := #[] }, { accessFlags := 2, nameIndex := 66, descriptorIndex := 48, attributes := #[] }, { accessFlags := 2, nameIndex := 69, descriptorIndex := 48, attributes := #[] }, { accessFlags := 2, nameIndex := 40, descriptorIndex := 12, attributes := #[] }])
  fields := #[{ name := "OK", type := .int, accessFlags := 25, slot := 0, constantValue := 0 }, { name := "ERR_STATE", type := .int, accessFlags := 25, slot := 1, constantValue := 0 }, { name := "ERR_ARG", type := .int, accessFlags := 25, slot := 2, constantValue := 0 }, { name := "ERR_FULL", type := .int, accessFlags := 25, slot := 3, constantValue := 0 }, { name := "ERR_TAKEN", type := .int, accessFlags := 25, slot := 4, constantValue := 0 }, { name := "ABS32", type := .int, accessFlags := 25, slot := 5, constantValue := 0 }, { name := "REL32", type := .int, accessFlags := 25, slot := 6, constantValue := 0 }, { name := "LO16", type := .int, accessFlags := 25, slot := 7, constantValue := 0 }, { name := "PAIR", type := .int, accessFlags := 25, slot := 8, constantValue := 0 }, { name := "TARGET_ABSOLUTE", type := .int, accessFlags := 25, slot := 9, constantValue := 0 }, { name := "ST_BUILDING", type := .int, accessFlags := 25, slot := 10, constantValue := 0 }, { name := "ST_IDLE", type := .int, accessFlags := 25, slot := 11, constantValue := 0 }, { name := "ST_RUNNING", type := .int, accessFlags := 25, slot := 12, constantValue := 0 }, { name := "ST_HALTED", type := .int, accessFlags := 25, slot := 13, constantValue := 0 }, { name := "ST_FAULT", type := .int, accessFlags := 25, slot := 14, constantValue := 0 }, { name := "MAX_SECTIONS", type := .int, accessFlags := 25, slot := 15, constantValue := 0 }, { name := "MAX_STEPS", type := .int, accessFlags := 25, slot := 16, constantValue := 0 }, { name := "cap", type := .int, accessFlags := 2, slot := 0, constantValue := 0 }, { name := "maxRec", type := .int, accessFlags := 2, slot := 1, constantValue := 0 }, { name := "nSec", type := .int, accessFlags := 2, slot := 2, constantValue := 0 }, { name := "secStart", type := (.array .int), accessFlags := 2, slot := 3, constantValue := 0 }, { name := "secSize", type := (.array .int), accessFlags := 2, slot := 4, constantValue := 0 }, { name := "imgSize", type := .int, accessFlags := 2, slot := 5, constantValue := 0 }, { name := "raw", type := (.array .int), accessFlags := 2, slot := 6, constantValue := 0 }, { name := "cur", type := (.array .int), accessFlags := 2, slot := 7, constantValue := 0 }, { name := "taken", type := (.array .boolean), accessFlags := 2, slot := 8, constantValue := 0 }, { name := "nRec", type := .int, accessFlags := 2, slot := 9, constantValue := 0 }, { name := "recKind", type := (.array .int), accessFlags := 2, slot := 10, constantValue := 0 }, { name := "recOff", type := (.array .int), accessFlags := 2, slot := 11, constantValue := 0 }, { name := "recTarget", type := (.array .int), accessFlags := 2, slot := 12, constantValue := 0 }, { name := "recLoOff", type := (.array .int), accessFlags := 2, slot := 13, constantValue := 0 }, { name := "state", type := .int, accessFlags := 2, slot := 14, constantValue := 0 }, { name := "baseAddr", type := .int, accessFlags := 2, slot := 15, constantValue := 0 }, { name := "pcReg", type := .int, accessFlags := 2, slot := 16, constantValue := 0 }, { name := "regs", type := (.array .int), accessFlags := 2, slot := 17, constantValue := 0 }]
  methods := #[k2m0, k2m1, k2m2, k2m3, k2m4, k2m5, k2m6, k2m7, k2m8, k2m9, k2m10]
  instanceTypes := #[.int, .int, .int, (.array .int), (.array .int), .int, (.array .int), (.array .int), (.array .boolean), .int, (.array .int), (.array .int), (.array .int), (.array .int), .int, .int, .int, (.array .int)]
  staticTypes := #[.int, .int, .int, .int, .int, .int, .int, .int, .int, .int, .int, .int, .int, .int, .int, .int, .int]
  resolved := Array.replicate 200 none
  statics := none }

def pool3 : Array CpInfo := pool [(1, u "java/lang/Cloneable"), (0, .class_ 1), (0, u "java/lang/Object"), (0, .class_ 3)] 3

/-- java/lang/Cloneable -/
def k3 : Class := { plain "java/lang/Cloneable" (some 0) with
  accessFlags := 1537
  interfaces := #[]
  cf := some (fileOf pool3 2 #[] #[] 1537 4 #[] #[])
  fields := #[]
  methods := #[]
  instanceTypes := #[]
  staticTypes := #[]
  resolved := Array.replicate 8 none
  statics := none }

def pool4 : Array CpInfo := pool [(1, u "java/io/Serializable"), (0, .class_ 1), (0, u "java/lang/Object"), (0, .class_ 3)] 3

/-- java/io/Serializable -/
def k4 : Class := { plain "java/io/Serializable" (some 0) with
  accessFlags := 1537
  interfaces := #[]
  cf := some (fileOf pool4 2 #[] #[] 1537 4 #[] #[])
  fields := #[]
  methods := #[]
  instanceTypes := #[]
  staticTypes := #[]
  resolved := Array.replicate 8 none
  statics := none }

/-- the primitive boolean -/
def k5 : Class := { plain "boolean" none with kind := .primitive 'Z', accessFlags := 0x411 }
/-- [Z -/
def k6 : Class := { plain "[Z" (some 0) with kind := .array 5 .boolean, interfaces := #[3, 4], accessFlags := 1041 }

/-- the primitive byte -/
def k7 : Class := { plain "byte" none with kind := .primitive 'B', accessFlags := 0x411 }
/-- [B -/
def k8 : Class := { plain "[B" (some 0) with kind := .array 7 .byte, interfaces := #[3, 4], accessFlags := 1041 }

/-- the primitive int -/
def k9 : Class := { plain "int" none with kind := .primitive 'I', accessFlags := 0x411 }
/-- [I -/
def k10 : Class := { plain "[I" (some 0) with kind := .array 9 .int, interfaces := #[3, 4], accessFlags := 1041 }

def heap : Heap := #[]
def classes : Array Class := #[k0, k1, k2, k3, k4, k5, k6, k7, k8, k9, k10]
def interned : List (Array UInt16 × Addr) := []
def slotsUsed : Nat := 0
def theMethod : MethodId := ⟨1, 1⟩
def args0 : Array Value := #[.int 30, .int 5, .int 7, .int 6, .int 8]
def aboutOver (below : List Frame) : State where
  vm := { classes := classes, interned := interned.toArray }
  heap := heap
  slotsUsed := slotsUsed
  threads := #[{ frames := .invoking theMethod args0 :: below }]
def below0 : List Frame := [.native { method := ⟨0, 0⟩, args := #[] }]
def about1 : State := aboutOver below0
def p0 : Program := .bare "" "" ""
def e0 : Env := launch0.env 0 0 0
theorem w_frames : about1.frames = Frame.invoking theMethod args0 :: below0 := rfl
set_option maxRecDepth 65536 in
theorem w_args : argsFit about1.vm theMethod args0 = true := by decide +kernel
set_option maxRecDepth 65536 in
theorem w_heap : heapFits about1 = true := by decide +kernel
set_option maxRecDepth 65536 in
theorem w_runnable : about1.curStatus? = some .runnable := by decide +kernel
set_option maxRecDepth 65536 in
theorem w_alone : about1.alone = true := by decide +kernel
set_option maxRecDepth 65536 in
theorem w_named : about1.methodNamed? x = some theMethod := by decide +kernel
set_option maxRecDepth 65536 in
theorem w_hears : about1.hears theMethod below0 = true := by decide +kernel
set_option maxRecDepth 65536 in
theorem w_ripe : about1.ripe theMethod args0 below0 = true := by decide +kernel
theorem w_running : about1.status = .running := rfl
set_option maxRecDepth 65536 in
theorem w_room : about1.hasRoom e0.platform room_1 = true :=
  launch0.hasRoom_least _ room_1 (by decide +kernel) (by decide +kernel) (by decide +kernel) (by decide +kernel) (by decide +kernel) (by decide +kernel)
theorem allAtoms_all (ts : List Jvm.Cond) (a : Array Jvm.Value) (st : Jvm.State) : (allAtoms ts).before a st = ts.all (fun c => c.before a st) := by
  induction ts with
  | nil => rfl
  | cons c t ih =>
    show (Jvm.Cond.and c (allAtoms t)).before a st = _
    rw [Jvm.Cond.before_and, ih, List.all_cons]
def words1 : List Jvm.Cond := Jvm.Cond.code x code maxLocals ret :: tables_1
/-- a 'code' word, met by the world's own term for the bytes: nothing is compared byte by byte -/
theorem code_word {y : MethodName} {bytes : ByteArray} {mx : Nat} {rt : Option FieldType} {a : Array Value} {s : State} {m : MethodId} {meth : Method} {c : Code} (h1 : s.methodNamed? y = some m) (h2 : s.vm.method? m = some meth) (h3 : meth.code = some c) (h4 : c.code = bytes)
    (h5 : (c.maxLocals == mx && c.exceptionTable.isEmpty && decide (c.maxStack ≤ mostOperands) && decide (meth.sig.returnType = rt) && !meth.locks && decide (parseMethodDescriptor y.desc = some meth.sig)) = true) : (Jvm.Cond.code y bytes mx rt).before a s = true := by
  simp only [Bool.and_eq_true, beq_iff_eq, Bool.not_eq_true', decide_eq_true_eq] at h5
  obtain ⟨⟨⟨⟨⟨g1, g2⟩, g3⟩, g4⟩, g5⟩, g6⟩ := h5
  simp [Cond.before, Cond.holds, Cond.value, h1, h2, h3, h4, g1, g2, g3, g4, g5, g6]
def isCode : Jvm.Cond → Bool
  | .code _ _ _ _ => true
  | _ => false
theorem all_split {L : List Jvm.Cond} {P : Jvm.Cond → Bool} (h1 : L.all (fun c => isCode c || P c) = true) (h2 : ∀ c ∈ L.filter isCode, P c = true) : L.all P = true := by
  refine List.all_eq_true.mpr fun c hc => ?_
  have h := List.all_eq_true.mp h1 c hc
  rcases Bool.eq_false_or_eq_true (isCode c) with hi | hi
  · exact h2 c (List.mem_filter.mpr ⟨hc, hi⟩)
  · simpa [hi] using h
set_option maxRecDepth 65536 in
theorem w_c0 : (Jvm.Cond.code x code maxLocals ret).before args0 about1 = true := code_word (m := ⟨1, 1⟩) (meth := k1m1) (c := k1c1) (by decide +kernel) rfl rfl rfl (by decide +kernel)
set_option maxRecDepth 65536 in
theorem w_c1 : (Jvm.Cond.code ({ cls := "RebaseLoader", name := "<init>", desc := "(II)V" } : Jvm.MethodName) prog_1_method_1_code (3 : Nat) (Option.none : Option Jvm.ClassFile.FieldType)).before args0 about1 = true := code_word (m := ⟨2, 0⟩) (meth := k2m0) (c := k2c0) (by decide +kernel) rfl rfl rfl (by decide +kernel)
set_option maxRecDepth 65536 in
theorem w_c2 : (Jvm.Cond.code ({ cls := "java/lang/Object", name := "<init>", desc := "()V" } : Jvm.MethodName) object_method_1_code (1 : Nat) (Option.none : Option Jvm.ClassFile.FieldType)).before args0 about1 = true := code_word (m := ⟨0, 0⟩) (meth := k0m0) (c := k0c0) (by decide +kernel) rfl rfl rfl (by decide +kernel)
set_option maxRecDepth 65536 in
theorem w_c3 : (Jvm.Cond.code ({ cls := "RebaseLoader", name := "clamp", desc := "(III)I" } : Jvm.MethodName) prog_1_method_2_code (4 : Nat) (Option.some Jvm.ClassFile.FieldType.int)).before args0 about1 = true := code_word (m := ⟨2, 1⟩) (meth := k2m1) (c := k2c1) (by decide +kernel) rfl rfl rfl (by decide +kernel)
set_option maxRecDepth 65536 in
theorem w_c4 : (Jvm.Cond.code ({ cls := "RebaseLoader", name := "addSection", desc := "(II)I" } : Jvm.MethodName) prog_1_method_12_code (5 : Nat) (Option.some Jvm.ClassFile.FieldType.int)).before args0 about1 = true := code_word (m := ⟨2, 5⟩) (meth := k2m5) (c := k2c5) (by decide +kernel) rfl rfl rfl (by decide +kernel)
set_option maxRecDepth 65536 in
theorem w_c5 : (Jvm.Cond.code ({ cls := "RebaseLoader", name := "setWord", desc := "(II)I" } : Jvm.MethodName) prog_1_method_14_code (4 : Nat) (Option.some Jvm.ClassFile.FieldType.int)).before args0 about1 = true := code_word (m := ⟨2, 7⟩) (meth := k2m7) (c := k2c7) (by decide +kernel) rfl rfl rfl (by decide +kernel)
set_option maxRecDepth 65536 in
theorem w_c6 : (Jvm.Cond.code ({ cls := "RebaseLoader", name := "validPos", desc := "(I)Z" } : Jvm.MethodName) prog_1_method_8_code (3 : Nat) (Option.some Jvm.ClassFile.FieldType.boolean)).before args0 about1 = true := code_word (m := ⟨2, 3⟩) (meth := k2m3) (c := k2c3) (by decide +kernel) rfl rfl rfl (by decide +kernel)
set_option maxRecDepth 65536 in
theorem w_c7 : (Jvm.Cond.code ({ cls := "RebaseLoader", name := "peek", desc := "(I)I" } : Jvm.MethodName) prog_1_method_26_code (2 : Nat) (Option.some Jvm.ClassFile.FieldType.int)).before args0 about1 = true := code_word (m := ⟨2, 8⟩) (meth := k2m8) (c := k2c8) (by decide +kernel) rfl rfl rfl (by decide +kernel)
set_option maxRecDepth 65536 in
theorem w_c8 : (Jvm.Cond.code ({ cls := "RebaseLoader", name := "imageSize", desc := "()I" } : Jvm.MethodName) prog_1_method_27_code (1 : Nat) (Option.some Jvm.ClassFile.FieldType.int)).before args0 about1 = true := code_word (m := ⟨2, 9⟩) (meth := k2m9) (c := k2c9) (by decide +kernel) rfl rfl rfl (by decide +kernel)
set_option maxRecDepth 65536 in
theorem w_c9 : (Jvm.Cond.code ({ cls := "RebaseLoader", name := "status", desc := "()I" } : Jvm.MethodName) prog_1_method_34_code (1 : Nat) (Option.some Jvm.ClassFile.FieldType.int)).before args0 about1 = true := code_word (m := ⟨2, 10⟩) (meth := k2m10) (c := k2c10) (by decide +kernel) rfl rfl rfl (by decide +kernel)
set_option maxRecDepth 65536 in
theorem w_c10 : (Jvm.Cond.code ({ cls := "RebaseLoader", name := "validAlign", desc := "(I)Z" } : Jvm.MethodName) prog_1_method_7_code (2 : Nat) (Option.some Jvm.ClassFile.FieldType.boolean)).before args0 about1 = true := code_word (m := ⟨2, 2⟩) (meth := k2m2) (c := k2c2) (by decide +kernel) rfl rfl rfl (by decide +kernel)
set_option maxRecDepth 65536 in
theorem w_c11 : (Jvm.Cond.code ({ cls := "RebaseLoader", name := "clearWords", desc := "(II)V" } : Jvm.MethodName) prog_1_method_13_code (4 : Nat) (Option.none : Option Jvm.ClassFile.FieldType)).before args0 about1 = true := code_word (m := ⟨2, 6⟩) (meth := k2m6) (c := k2c6) (by decide +kernel) rfl rfl rfl (by decide +kernel)
set_option maxRecDepth 65536 in
theorem w_c12 : (Jvm.Cond.code ({ cls := "RebaseLoader", name := "offsetOf", desc := "(I)I" } : Jvm.MethodName) prog_1_method_9_code (2 : Nat) (Option.some Jvm.ClassFile.FieldType.int)).before args0 about1 = true := code_word (m := ⟨2, 4⟩) (meth := k2m4) (c := k2c4) (by decide +kernel) rfl rfl rfl (by decide +kernel)
def codes1 : List Jvm.Cond := [Jvm.Cond.code x code maxLocals ret, Jvm.Cond.code ({ cls := "RebaseLoader", name := "<init>", desc := "(II)V" } : Jvm.MethodName) prog_1_method_1_code (3 : Nat) (Option.none : Option Jvm.ClassFile.FieldType), Jvm.Cond.code ({ cls := "java/lang/Object", name := "<init>", desc := "()V" } : Jvm.MethodName) object_method_1_code (1 : Nat) (Option.none : Option Jvm.ClassFile.FieldType), Jvm.Cond.code ({ cls := "RebaseLoader", name := "clamp", desc := "(III)I" } : Jvm.MethodName) prog_1_method_2_code (4 : Nat) (Option.some Jvm.ClassFile.FieldType.int), Jvm.Cond.code ({ cls := "RebaseLoader", name := "addSection", desc := "(II)I" } : Jvm.MethodName) prog_1_method_12_code (5 : Nat) (Option.some Jvm.ClassFile.FieldType.int), Jvm.Cond.code ({ cls := "RebaseLoader", name := "setWord", desc := "(II)I" } : Jvm.MethodName) prog_1_method_14_code (4 : Nat) (Option.some Jvm.ClassFile.FieldType.int), Jvm.Cond.code ({ cls := "RebaseLoader", name := "validPos", desc := "(I)Z" } : Jvm.MethodName) prog_1_method_8_code (3 : Nat) (Option.some Jvm.ClassFile.FieldType.boolean), Jvm.Cond.code ({ cls := "RebaseLoader", name := "peek", desc := "(I)I" } : Jvm.MethodName) prog_1_method_26_code (2 : Nat) (Option.some Jvm.ClassFile.FieldType.int), Jvm.Cond.code ({ cls := "RebaseLoader", name := "imageSize", desc := "()I" } : Jvm.MethodName) prog_1_method_27_code (1 : Nat) (Option.some Jvm.ClassFile.FieldType.int), Jvm.Cond.code ({ cls := "RebaseLoader", name := "status", desc := "()I" } : Jvm.MethodName) prog_1_method_34_code (1 : Nat) (Option.some Jvm.ClassFile.FieldType.int), Jvm.Cond.code ({ cls := "RebaseLoader", name := "validAlign", desc := "(I)Z" } : Jvm.MethodName) prog_1_method_7_code (2 : Nat) (Option.some Jvm.ClassFile.FieldType.boolean), Jvm.Cond.code ({ cls := "RebaseLoader", name := "clearWords", desc := "(II)V" } : Jvm.MethodName) prog_1_method_13_code (4 : Nat) (Option.none : Option Jvm.ClassFile.FieldType), Jvm.Cond.code ({ cls := "RebaseLoader", name := "offsetOf", desc := "(I)I" } : Jvm.MethodName) prog_1_method_9_code (2 : Nat) (Option.some Jvm.ClassFile.FieldType.int)]
set_option maxRecDepth 65536 in
theorem codes_eq : words1.filter isCode = codes1 := rfl
theorem w_codes : ∀ c ∈ words1.filter isCode, c.before args0 about1 = true := by
  rw [codes_eq]
  intro c hc
  simp only [codes1, List.mem_cons, List.not_mem_nil, or_false] at hc
  rcases hc with rfl | rfl | rfl | rfl | rfl | rfl | rfl | rfl | rfl | rfl | rfl | rfl | rfl
  · exact w_c0
  · exact w_c1
  · exact w_c2
  · exact w_c3
  · exact w_c4
  · exact w_c5
  · exact w_c6
  · exact w_c7
  · exact w_c8
  · exact w_c9
  · exact w_c10
  · exact w_c11
  · exact w_c12
set_option maxRecDepth 65536 in
theorem w_t1 : (words1.take 24).all (fun c => isCode c || c.before args0 about1) = true := by decide +kernel
set_option maxRecDepth 65536 in
theorem w_t2 : ((words1.drop 24).take 24).all (fun c => isCode c || c.before args0 about1) = true := by decide +kernel
set_option maxRecDepth 65536 in
theorem w_t3 : (((words1.drop 24).drop 24).take 24).all (fun c => isCode c || c.before args0 about1) = true := by decide +kernel
set_option maxRecDepth 65536 in
theorem w_t4 : (((words1.drop 24).drop 24).drop 24).all (fun c => isCode c || c.before args0 about1) = true := by decide +kernel
theorem w_tables : (allAtoms (Jvm.Cond.code x code maxLocals ret :: tables_1)).before args0 about1 = true := by
  rw [allAtoms_all]
  show words1.all (fun c => c.before args0 about1) = true
  refine all_split ?_ w_codes
  rw [← List.take_append_drop 24 words1, List.all_append, w_t1, ← List.take_append_drop 24 (words1.drop 24), List.all_append, w_t2, ← List.take_append_drop 24 ((words1.drop 24).drop 24), List.all_append, w_t3, w_t4]
  rfl
set_option maxRecDepth 65536 in
theorem w_case : (Jvm.Cond.and given_1 narrow_1).before args0 about1 = true := by decide +kernel
theorem w_applies : (headSpec (Jvm.Cond.code x code maxLocals ret :: tables_1) room_1).applies x e0.platform about1 = true :=
  (Spec.applies_iff w_frames).mpr ⟨w_running, w_runnable, w_alone, w_named, w_hears, w_ripe, w_room, w_tables⟩
theorem atStart : AtStart classFile x code maxLocals ret World_1 tables_1 room_1 Calls_1 rest_1 Pre_1 launch0 p0 e0 about1 theMethod args0 below0 :=
  ⟨lists_1, trivial, launch0.admits_env _ _ _, launch0.least_env, fairChoices_fair.cas, fairChoices_fair.clock, w_frames, w_args, w_heap, w_applies, trivial, trivial, w_case⟩
end start1
theorem witness_1 : WitnessClaimed_1 := ⟨start1.p0, start1.e0, start1.about1, start1.theMethod, start1.args0, start1.below0, start1.atStart⟩
end Jvm.Pilot.@@N@@
