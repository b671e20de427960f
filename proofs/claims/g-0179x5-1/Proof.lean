import JvmDerived
import JvmDerived.Pilot.@@N@@Statement
import JvmDerived.Pilot.@@N@@Code
set_option linter.unusedVariables false
set_option linter.unusedSimpArgs false
namespace Jvm.RoadKit
open Sem ClassFile Op Lib Jvm.Stand Jvm.Free Jvm.LawKit
section New
variable {p : Program} {l : Launch} {e : Env} {R : Room} {s : State} {m : MethodId} {args : Array Value} {below : List Frame} {meth : Method} {c : Code} {T : State} {locs : List Loc} {cells slots : Nat}
theorem retI (X : Stand p l e R s m args below meth c T locs cells slots) (hx : p.tables.exec = Jvm.exec) {pc : Nat} {Ls : Array Slot} {z : Int32} {rest : List Value} (hret : meth.sig.returnType = some .int) (hd : decode c.code pc = .ok (.ireturn, 1)) {fs : List Frame}
    (hl : ∀ (f : JFrame) (acts : List Action), f.method = m → f.locked = none → f.entered = [] → (doReturn e (T.setTop f) acts (some (.int z))).1 = T.setFrames fs) : Steps p.tables e below (T.setTop (mkF m pc Ls (.int z :: rest))) (T.setFrames fs) := by
  have hm' : T.vm.method? m = some meth := X.method'
  have hn : narrow .int (.int z) = .int z := rfl
  show Steps p.tables e below (T.setTop { method := m, pc := pc, locals := Ls, stack := _ :: rest, locked := none }) _
  jvm_step X.here [X.here.top, hx, hd, hm', hret, hn]
  first | (intro acts; rw [hl _ acts rfl rfl rfl]) | rw [hl _ _ rfl rfl rfl]
  exact Steps.refl _
end New
end Jvm.RoadKit
namespace Jvm.Own
open Jvm Jvm.ClassFile Sem Op Lib Jvm.Free Jvm.Stand Jvm.LawKit Jvm.RoadKit
/-! ## 1. Local variables: what the walk knows of them (L) and what they are (r) -/
def rv (ρ : Nat → Addr) : Value → Value
  | .ref k => .ref (ρ k)
  | .int x => .int x
  | .long x => .long x
  | .float x => .float x
  | .double x => .double x
  | .null => .null
  | .retAddr x => .retAddr x
def rs (ρ : Nat → Addr) : Slot → Slot
  | .val v => .val (rv ρ v)
  | .unset => .unset
  | .second => .second
theorem rv_cat (ρ : Nat → Addr) (v : Value) : (rv ρ v).category = v.category := by cases v <;> rfl
def WR (f : Nat → Option Slot) : Prop := (∀ i v, f i = some (.val v) → v.category = 2 → f (i + 1) = some .second) ∧ (∀ i, f i = some .second → ∃ j v, i = j + 1 ∧ f j = some (.val v) ∧ v.category = 2)
def up (f : Nat → Option Slot) (i : Nat) (x : Slot) : Nat → Option Slot := fun k => if k = i then some x else f k
def C1 (s : Option Slot) : Prop := s = some .unset ∨ ∃ w, s = some (.val w) ∧ w.category = 1
theorem C1.not2 {s : Option Slot} (h : C1 s) : s ≠ some .second ∧ ∀ v, s = some (.val v) → v.category ≠ 2 := by
  rcases h with rfl | ⟨w, rfl, h⟩
  · exact ⟨nofun, nofun⟩
  · exact ⟨nofun, fun v e q => by cases e; omega⟩
theorem up_at (f : Nat → Option Slot) (i : Nat) (x : Slot) : up f i x i = some x := by simp [up]
theorem up_ne (f : Nat → Option Slot) {i k : Nat} (x : Slot) (h : k ≠ i) : up f i x k = f k := by simp [up, h]
theorem WR.one {f : Nat → Option Slot} {i : Nat} {x : Slot} (h : WR f) (hi : C1 (f i)) (hx : C1 (some x)) : WR (up f i x) := by
  obtain ⟨n1, n2⟩ := hi.not2
  obtain ⟨m1, m2⟩ := hx.not2
  constructor
  · intro k v hk hv
    by_cases e : k = i
    · subst e; rw [up_at] at hk; exact absurd hv (m2 v hk)
    · rw [up_ne _ _ e] at hk
      have q := h.1 k v hk hv
      by_cases e2 : k + 1 = i
      · rw [e2] at q; exact absurd q n1
      · rw [up_ne _ _ e2]; exact q
  · intro k hk
    by_cases e : k = i
    · subst e; rw [up_at] at hk; exact absurd hk m1
    · rw [up_ne _ _ e] at hk
      obtain ⟨j, v, e1, e2, e3⟩ := h.2 k hk
      refine ⟨j, v, e1, ?_, e3⟩
      by_cases e4 : j = i
      · rw [e4] at e2; exact absurd e3 (n2 v e2)
      · rw [up_ne _ _ e4]; exact e2
theorem WR.clr {f : Nat → Option Slot} {j : Nat} {v : Value} (h : WR f) (hj : f j = some (.val v)) (hv : v.category = 2) : WR (up (up f j .unset) (j + 1) .unset) := by
  have q := h.1 j v hj hv
  constructor
  · intro k w hk hw
    by_cases e : k = j + 1
    · subst e; rw [up_at] at hk; cases hk
    · rw [up_ne _ _ e] at hk
      by_cases e2 : k = j
      · subst e2; rw [up_at] at hk; cases hk
      · rw [up_ne _ _ e2] at hk
        have q2 := h.1 k w hk hw
        by_cases e3 : k + 1 = j
        · rw [e3] at q2; rw [hj] at q2; cases q2
        · rw [up_ne _ _ (show k + 1 ≠ j + 1 by omega), up_ne _ _ e3]; exact q2
  · intro k hk
    by_cases e : k = j + 1
    · subst e; rw [up_at] at hk; cases hk
    · rw [up_ne _ _ e] at hk
      by_cases e2 : k = j
      · subst e2; rw [up_at] at hk; cases hk
      · rw [up_ne _ _ e2] at hk
        obtain ⟨i, w, e3, e4, e5⟩ := h.2 k hk
        refine ⟨i, w, e3, ?_, e5⟩
        by_cases e6 : i = j + 1
        · rw [e6, q] at e4; cases e4
        · rw [up_ne _ _ e6, up_ne _ _ (show i ≠ j by omega)]; exact e4
theorem WR.two {f : Nat → Option Slot} {i : Nat} {v : Value} (h : WR f) (h1 : C1 (f i)) (h2 : C1 (f (i + 1))) (hv : v.category = 2) : WR (up (up f i (.val v)) (i + 1) .second) := by
  obtain ⟨n1, n2⟩ := h1.not2
  obtain ⟨m1, m2⟩ := h2.not2
  constructor
  · intro k w hk hw
    by_cases e : k = i + 1
    · subst e; rw [up_at] at hk; cases hk
    · rw [up_ne _ _ e] at hk
      by_cases e2 : k = i
      · subst e2; exact up_at _ _ _
      · rw [up_ne _ _ e2] at hk
        have q := h.1 k w hk hw
        by_cases e3 : k + 1 = i
        · rw [e3] at q; exact absurd q n1
        · rw [up_ne _ _ (show k + 1 ≠ i + 1 by omega), up_ne _ _ e3]; exact q
  · intro k hk
    by_cases e : k = i + 1
    · exact ⟨i, v, e, by rw [up_ne _ _ (show i ≠ i + 1 by omega), up_at], hv⟩
    · rw [up_ne _ _ e] at hk
      by_cases e2 : k = i
      · subst e2; rw [up_at] at hk; cases hk
      · rw [up_ne _ _ e2] at hk
        obtain ⟨j, w, e3, e4, e5⟩ := h.2 k hk
        refine ⟨j, w, e3, ?_, e5⟩
        by_cases e6 : j = i + 1
        · rw [e6] at e4; exact absurd e5 (m2 w e4)
        · by_cases e7 : j = i
          · omega
          · rw [up_ne _ _ e6, up_ne _ _ e7]; exact e4
theorem up_arr {r : Array Slot} {i : Nat} (hi : i < r.size) (x : Slot) : (fun k => (r.setIfInBounds i x)[k]?) = up (fun k => r[k]?) i x := by
  funext k
  show (r.setIfInBounds i x)[k]? = _
  rw [Array.getElem?_setIfInBounds]
  by_cases e : i = k
  · subst e; simp [up, hi]
  · rw [if_neg e, up_ne _ _ (Ne.symm e)]
theorem up_lst {L : List Slot} {i : Nat} (hi : i < L.length) (x : Slot) : (fun k => (L.set i x)[k]?) = up (fun k => L[k]?) i x := by
  funext k
  show (L.set i x)[k]? = _
  rw [List.getElem?_set]
  by_cases e : i = k
  · subst e; simp [up, hi]
  · rw [if_neg e, up_ne _ _ (Ne.symm e)]
def SR (ρ : Nat → Addr) (L : List Slot) (r : Array Slot) : Prop :=
  r.size = L.length ∧ (∀ (i : Nat) (v : Value), L[i]? = some (.val v) → r[i]? = some (.val (rv ρ v))) ∧ (∀ (i : Nat), L[i]? = some .second → r[i]? = some .second) ∧ WR (fun k => L[k]?) ∧ WR (fun k => r[k]?)
theorem SR.get {ρ : Nat → Addr} {L : List Slot} {r : Array Slot} (h : SR ρ L r) {i : Nat} {v : Value} (e : L[i]? = some (.val v)) : r[i]? = some (.val (rv ρ v)) := h.2.1 i v e
/-- a store of one word over nothing or one word -/
theorem SR.st1 {ρ : Nat → Addr} {L : List Slot} {r : Array Slot} {i : Nat} {v : Value} (h : SR ρ L r) (ho : C1 L[i]?) (hv : v.category = 1) :
    ∃ r', storeLocals r i (rv ρ v) = some r' ∧ SR ρ (L.set i (.val v)) r' := by
  obtain ⟨h1, h2, h3, h4, h5⟩ := h
  have hi : i < L.length := by
    rcases ho with h | ⟨w, h, -⟩ <;> exact (List.getElem?_eq_some_iff.mp h).1
  have hir : i < r.size := by omega
  have hcv : (rv ρ v).category = 1 := by rw [rv_cat]; exact hv
  have hcx : C1 (some (Slot.val (rv ρ v))) := Or.inr ⟨_, rfl, hcv⟩
  obtain ⟨n1, n2⟩ := ho.not2
  have fin : ∀ r' : Array Slot, r'.size = r.size → WR (fun k => r'[k]?) → r'[i]? = some (.val (rv ρ v)) → (∀ k, k ≠ i → r'[k]? = r[k]? ∨ ∀ s, L[k]? = some s → s = .unset) → SR ρ (L.set i (.val v)) r' := by
    intro r' a1 a2 a3 a4
    refine ⟨by rw [a1, h1, List.length_set], ?_, ?_, by rw [up_lst hi]; exact h4.one ho (Or.inr ⟨v, rfl, hv⟩), a2⟩
    · intro k w hk
      rw [List.getElem?_set] at hk
      by_cases e : i = k
      · subst e; simp [hi] at hk; subst hk; exact a3
      · rw [if_neg e] at hk
        rcases a4 k (Ne.symm e) with q | q
        · rw [q]; exact h2 k w hk
        · cases q _ hk
    · intro k hk
      rw [List.getElem?_set] at hk
      by_cases e : i = k
      · subst e; simp [hi] at hk
      · rw [if_neg e] at hk
        rcases a4 k (Ne.symm e) with q | q
        · rw [q]; exact h3 k hk
        · cases q _ hk
  obtain ⟨q, hq⟩ : ∃ q, r[i]? = some q := ⟨_, Array.getElem?_eq_getElem hir⟩
  have plain : C1 (r[i]?) → ∃ r', storeLocals r i (rv ρ v) = some r' ∧ SR ρ (L.set i (.val v)) r' := by
    intro hC
    have hs : storeLocals r i (rv ρ v) = some (r.setIfInBounds i (.val (rv ρ v))) := by
      rcases hC with e | ⟨w, e, hw⟩
      · exact XS.store1 e (Or.inl rfl) hcv
      · exact XS.store1 e (Or.inr ⟨w, rfl, hw⟩) hcv
    refine ⟨_, hs, fin _ (by simp) (by rw [up_arr hir]; exact h5.one hC hcx) (by simp [hir]) ?_⟩
    intro k hk
    exact Or.inl (Array.getElem?_setIfInBounds_ne (Ne.symm hk))
  cases q with
  | unset => exact plain (Or.inl hq)
  | val w =>
    by_cases hw : w.category = 2
    · have q2 := h5.1 i w hq hw
      have hj : i + 1 < r.size := (Array.getElem?_eq_some_iff.mp q2).1
      have Lu : ∀ k, (k = i ∨ k = i + 1) → ∀ s, L[k]? = some s → s = .unset := by
        intro k hk s hs
        cases s with
        | unset => rfl
        | second =>
          rcases hk with rfl | rfl
          · exact absurd hs n1
          · obtain ⟨j, u, e1, e2, e3⟩ := h4.2 _ hs
            have : j = i := by omega
            subst this
            exact absurd e3 (n2 u e2)
        | val u =>
          rcases hk with rfl | rfl
          · have := h2 _ _ hs
            rw [hq] at this
            cases this
            rw [rv_cat] at hw
            exact absurd hw (n2 u hs)
          · have := h2 _ _ hs
            have q3 : r[i + 1]? = some .second := q2
            rw [q3] at this; cases this
      have hs : storeLocals r i (rv ρ v) = some ((r.setIfInBounds (i + 1) .unset).setIfInBounds i (.val (rv ρ v))) := by
        simp [storeLocals, storeSelf, setAt, hq, (Array.getElem?_eq_some_iff.mp hq).2, hw, hj, hir, hcv]
      refine ⟨_, hs, fin _ (by simp) ?_ (by simp [hir]) ?_⟩
      · have e : (fun k => ((r.setIfInBounds (i + 1) .unset).setIfInBounds i (.val (rv ρ v)))[k]?) = up (up (up (fun k => r[k]?) i .unset) (i + 1) .unset) i (.val (rv ρ v)) := by
          rw [up_arr (by simpa using hir), up_arr hj]
          funext k
          simp only [up]
          by_cases e : k = i
          · simp [e]
          · simp [e]
        rw [e]
        exact (h5.clr hq hw).one (Or.inl (by simp [up])) hcx
      · intro k hk
        by_cases e : k = i + 1
        · exact Or.inr (Lu k (Or.inr e))
        · left
          rw [Array.getElem?_setIfInBounds_ne (Ne.symm hk), Array.getElem?_setIfInBounds_ne (Ne.symm e)]
    · refine plain (Or.inr ⟨w, hq, ?_⟩)
      cases w <;> simp [Value.category] at hw ⊢
  | second =>
    obtain ⟨j, u, e1, e2, e3⟩ := h5.2 i hq
    subst e1
    have e2' : r[j]? = some (.val u) := e2
    have hj : j < r.size := by omega
    have Lu : ∀ s, L[j]? = some s → s = .unset := by
      intro s hs
      cases s with
      | unset => rfl
      | second => have := h3 _ hs; rw [e2'] at this; cases this
      | val w =>
        have := h2 _ _ hs
        rw [e2'] at this
        cases this
        rw [rv_cat] at e3
        exact absurd (h4.1 j w hs e3) n1
    have hs : storeLocals r (j + 1) (rv ρ v) = some ((r.setIfInBounds j .unset).setIfInBounds (j + 1) (.val (rv ρ v))) := by
      simp [storeLocals, storeSelf, setAt, hq, (Array.getElem?_eq_some_iff.mp hq).2, hj, hir, hcv]
    refine ⟨_, hs, fin _ (by simp) ?_ (by simp [hir]) ?_⟩
    · have e : (fun k => ((r.setIfInBounds j .unset).setIfInBounds (j + 1) (.val (rv ρ v)))[k]?) = up (up (up (fun k => r[k]?) j .unset) (j + 1) .unset) (j + 1) (.val (rv ρ v)) := by
        rw [up_arr (by simpa using hir), up_arr hj]
        funext k
        simp only [up]
        by_cases e : k = j + 1
        · simp [e]
        · simp [e]
      rw [e]
      exact (h5.clr e2 e3).one (Or.inl (by simp [up])) hcx
    · intro k hk
      by_cases e : k = j
      · subst e; exact Or.inr Lu
      · left
        rw [Array.getElem?_setIfInBounds_ne (Ne.symm hk), Array.getElem?_setIfInBounds_ne (Ne.symm e)]
end Jvm.Own

namespace Jvm.Own
open Jvm Jvm.ClassFile Sem Op Lib Jvm.Free Jvm.Stand Jvm.LawKit Jvm.RoadKit
theorem cat12 (w : Value) (h : ¬ w.category = 2) : w.category = 1 := by cases w <;> simp [Value.category] at h ⊢
theorem getset_ne {r : Array Slot} {i k : Nat} {x t : Slot} (h : r[k]? = some t) (ne : i ≠ k) (hk : k < (r.setIfInBounds i x).size) : (r.setIfInBounds i x)[k] = t := by
  have q : (r.setIfInBounds i x)[k]? = some t := by rw [Array.getElem?_setIfInBounds_ne ne]; exact h
  exact (Array.getElem?_eq_some_iff.mp q).2
/-- a store of two words over nothing or single words -/
theorem SR.st2 {ρ : Nat → Addr} {L : List Slot} {r : Array Slot} {i : Nat} {v : Value} (h : SR ρ L r) (ho : C1 L[i]?) (ho' : C1 L[i + 1]?) (hv : v.category = 2) :
    ∃ r', storeLocals r i (rv ρ v) = some r' ∧ SR ρ ((L.set i (.val v)).set (i + 1) .second) r' := by
  obtain ⟨h1, h2, h3, h4, h5⟩ := h
  have hi : i + 1 < L.length := by
    rcases ho' with h | ⟨w, h, -⟩ <;> exact (List.getElem?_eq_some_iff.mp h).1
  have hir1 : i + 1 < r.size := by omega
  have hir : i < r.size := by omega
  have hcv : (rv ρ v).category = 2 := by rw [rv_cat]; exact hv
  obtain ⟨n1, n2⟩ := ho.not2
  obtain ⟨m1, m2⟩ := ho'.not2
  have nr : ∀ w, r[i]? = some (.val w) → ∀ u, L[i]? = some (.val u) → w.category = 2 → False := by
    intro w hw u hu hc
    have := h2 _ _ hu
    rw [hw] at this; cases this
    rw [rv_cat] at hc
    exact n2 u hu hc
  have fin : ∀ r' : Array Slot, r'.size = r.size → WR (fun k => r'[k]?) → r'[i]? = some (.val (rv ρ v)) → r'[i + 1]? = some .second → (∀ k, k ≠ i → k ≠ i + 1 → r'[k]? = r[k]? ∨ ∀ s, L[k]? = some s → s = .unset) → SR ρ ((L.set i (.val v)).set (i + 1) .second) r' := by
    intro r' a1 a2 a3 a3' a4
    refine ⟨by rw [a1, h1]; simp, ?_, ?_, by rw [up_lst (by simpa using hi), up_lst (by omega)]; exact h4.two ho ho' hv, a2⟩
    · intro k w hk
      rw [List.getElem?_set] at hk
      by_cases e : i + 1 = k
      · subst e; simp [hi] at hk
      · rw [if_neg e, List.getElem?_set] at hk
        by_cases e2 : i = k
        · subst e2; simp [show i < L.length by omega] at hk; subst hk; exact a3
        · rw [if_neg e2] at hk
          rcases a4 k (Ne.symm e2) (Ne.symm e) with q | q
          · rw [q]; exact h2 k w hk
          · cases q _ hk
    · intro k hk
      rw [List.getElem?_set] at hk
      by_cases e : i + 1 = k
      · subst e; exact a3'
      · rw [if_neg e, List.getElem?_set] at hk
        by_cases e2 : i = k
        · subst e2; simp [show i < L.length by omega] at hk
        · rw [if_neg e2] at hk
          rcases a4 k (Ne.symm e2) (Ne.symm e) with q | q
          · rw [q]; exact h3 k hk
          · cases q _ hk
  have Lun2 : ∀ u, r[i + 1]? = some (.val u) → u.category = 2 → ∀ s, L[i + 2]? = some s → s = .unset := by
    intro u hu hc s hs
    have q2 : r[i + 2]? = some .second := h5.1 (i + 1) u hu hc
    cases s with
    | unset => rfl
    | second =>
      obtain ⟨j, w, e1, e2, e3⟩ := h4.2 _ hs
      have : j = i + 1 := by omega
      subst this
      exact absurd e3 (m2 w e2)
    | val w => have := h2 _ _ hs; rw [q2] at this; cases this
  obtain ⟨q, hq⟩ : ∃ q, r[i]? = some q := ⟨_, Array.getElem?_eq_getElem hir⟩
  obtain ⟨q1, hq1⟩ : ∃ q, r[i + 1]? = some q := ⟨_, Array.getElem?_eq_getElem hir1⟩
  have ne1 : i + 1 ≠ i := by omega
  cases q with
  | unset =>
    have hC : C1 (r[i]?) := Or.inl hq
    cases q1 with
    | unset =>
      refine ⟨(r.setIfInBounds i (.val (rv ρ v))).setIfInBounds (i + 1) .second, by simp [storeLocals, storeSelf, setAt, hq, (Array.getElem?_eq_some_iff.mp hq).2, hq1, (Array.getElem?_eq_some_iff.mp hq1).2, hir, hir1, hcv, Array.getElem?_setIfInBounds], fin _ (by simp) ?_ (by simp [hir, Array.getElem?_setIfInBounds]) (by simp [hir1]) ?_⟩
      · rw [up_arr (by simpa using hir1), up_arr hir]; exact h5.two hC (Or.inl hq1) hcv
      · intro k a b; left; rw [Array.getElem?_setIfInBounds_ne (Ne.symm b), Array.getElem?_setIfInBounds_ne (Ne.symm a)]
    | second => obtain ⟨j, w, e1, e2, e3⟩ := h5.2 _ hq1; have : j = i := by omega
                subst this; have e2' : r[j]? = some (.val w) := e2; rw [hq] at e2'; cases e2'
    | val u =>
      by_cases hu : u.category = 2
      · have q2 : r[i + 2]? = some .second := h5.1 (i + 1) u hq1 hu
        have hi2 : i + 2 < r.size := (Array.getElem?_eq_some_iff.mp q2).1
        refine ⟨((r.setIfInBounds i (.val (rv ρ v))).setIfInBounds (i + 2) .unset).setIfInBounds (i + 1) .second, by simp [storeLocals, storeSelf, setAt, hq, (Array.getElem?_eq_some_iff.mp hq).2, hq1, (Array.getElem?_eq_some_iff.mp hq1).2, hir, hir1, hi2, hcv, hu, Array.getElem?_setIfInBounds], fin _ (by simp) ?_ (by simp [hir, Array.getElem?_setIfInBounds]) (by simp [hir1]) ?_⟩
        · have e : (fun k => (((r.setIfInBounds i (.val (rv ρ v))).setIfInBounds (i + 2) .unset).setIfInBounds (i + 1) .second)[k]?) = up (up (up (up (fun k => r[k]?) (i + 1) .unset) (i + 2) .unset) i (.val (rv ρ v))) (i + 1) .second := by
            rw [up_arr (by simpa using hir1), up_arr (by simpa using hi2), up_arr hir]
            funext k
            simp only [up]
            by_cases e : k = i + 1
            · simp [e]
            · by_cases e2 : k = i
              · simp [e2]
              · simp [e, e2]
          rw [e]
          exact (h5.clr hq1 hu).two (Or.inl (by simp [up, hq] <;> omega)) (Or.inl (by simp [up] <;> omega)) hcv
        · intro k a b
          by_cases e : k = i + 2
          · subst e; exact Or.inr (Lun2 u hq1 hu)
          · left; rw [Array.getElem?_setIfInBounds_ne (Ne.symm b), Array.getElem?_setIfInBounds_ne (Ne.symm e), Array.getElem?_setIfInBounds_ne (Ne.symm a)]
      · refine ⟨(r.setIfInBounds i (.val (rv ρ v))).setIfInBounds (i + 1) .second, by simp [storeLocals, storeSelf, setAt, hq, (Array.getElem?_eq_some_iff.mp hq).2, hq1, (Array.getElem?_eq_some_iff.mp hq1).2, hir, hir1, hcv, hu, Array.getElem?_setIfInBounds], fin _ (by simp) ?_ (by simp [hir, Array.getElem?_setIfInBounds]) (by simp [hir1]) ?_⟩
        · rw [up_arr (by simpa using hir1), up_arr hir]; exact h5.two hC (Or.inr ⟨u, hq1, cat12 u hu⟩) hcv
        · intro k a b; left; rw [Array.getElem?_setIfInBounds_ne (Ne.symm b), Array.getElem?_setIfInBounds_ne (Ne.symm a)]
  | val w =>
    by_cases hw : w.category = 2
    · have q2 : r[i + 1]? = some .second := h5.1 i w hq hw
      have Lu : ∀ s, L[i]? = some s → s = .unset := by
        intro s hs
        cases s with
        | unset => rfl
        | second => exact absurd hs n1
        | val u => exact (nr w hq u hs hw).elim
      refine ⟨((r.setIfInBounds (i + 1) .unset).setIfInBounds i (.val (rv ρ v))).setIfInBounds (i + 1) .second, by simp [storeLocals, storeSelf, setAt, hq, (Array.getElem?_eq_some_iff.mp hq).2, hw, hir, hir1, hcv, Array.getElem?_setIfInBounds], fin _ (by simp) ?_ (by simp [hir, Array.getElem?_setIfInBounds]) (by simp [hir1]) ?_⟩
      · have e : (fun k => (((r.setIfInBounds (i + 1) .unset).setIfInBounds i (.val (rv ρ v))).setIfInBounds (i + 1) .second)[k]?) = up (up (up (up (fun k => r[k]?) i .unset) (i + 1) .unset) i (.val (rv ρ v))) (i + 1) .second := by
          rw [up_arr (by simpa using hir1), up_arr (by simpa using hir), up_arr hir1]
          funext k
          simp only [up]
          by_cases e : k = i + 1
          · simp [e]
          · by_cases e2 : k = i
            · simp [e2]
            · simp [e, e2]
        rw [e]
        exact (h5.clr hq hw).two (Or.inl (by simp [up] <;> omega)) (Or.inl (by simp [up] <;> omega)) hcv
      · intro k a b
        left; rw [Array.getElem?_setIfInBounds_ne (Ne.symm b), Array.getElem?_setIfInBounds_ne (Ne.symm a), Array.getElem?_setIfInBounds_ne (Ne.symm b)]
    · have hC : C1 (r[i]?) := Or.inr ⟨w, hq, cat12 w hw⟩
      cases q1 with
      | unset =>
        refine ⟨(r.setIfInBounds i (.val (rv ρ v))).setIfInBounds (i + 1) .second, by simp [storeLocals, storeSelf, setAt, hq, (Array.getElem?_eq_some_iff.mp hq).2, hq1, (Array.getElem?_eq_some_iff.mp hq1).2, hw, hir, hir1, hcv, Array.getElem?_setIfInBounds], fin _ (by simp) ?_ (by simp [hir, Array.getElem?_setIfInBounds]) (by simp [hir1]) ?_⟩
        · rw [up_arr (by simpa using hir1), up_arr hir]; exact h5.two hC (Or.inl hq1) hcv
        · intro k a b; left; rw [Array.getElem?_setIfInBounds_ne (Ne.symm b), Array.getElem?_setIfInBounds_ne (Ne.symm a)]
      | second => obtain ⟨j, u, e1, e2, e3⟩ := h5.2 _ hq1; have : j = i := by omega
                  subst this; have e2' : r[j]? = some (.val u) := e2; rw [hq] at e2'; cases e2'; exact absurd e3 hw
      | val u =>
        by_cases hu : u.category = 2
        · have q2 : r[i + 2]? = some .second := h5.1 (i + 1) u hq1 hu
          have hi2 : i + 2 < r.size := (Array.getElem?_eq_some_iff.mp q2).1
          refine ⟨((r.setIfInBounds i (.val (rv ρ v))).setIfInBounds (i + 2) .unset).setIfInBounds (i + 1) .second, by simp [storeLocals, storeSelf, setAt, hq, (Array.getElem?_eq_some_iff.mp hq).2, hq1, (Array.getElem?_eq_some_iff.mp hq1).2, hw, hir, hir1, hi2, hcv, hu, Array.getElem?_setIfInBounds], fin _ (by simp) ?_ (by simp [hir, Array.getElem?_setIfInBounds]) (by simp [hir1]) ?_⟩
          · have e : (fun k => (((r.setIfInBounds i (.val (rv ρ v))).setIfInBounds (i + 2) .unset).setIfInBounds (i + 1) .second)[k]?) = up (up (up (up (fun k => r[k]?) (i + 1) .unset) (i + 2) .unset) i (.val (rv ρ v))) (i + 1) .second := by
              rw [up_arr (by simpa using hir1), up_arr (by simpa using hi2), up_arr hir]
              funext k
              simp only [up]
              by_cases e : k = i + 1
              · simp [e]
              · by_cases e2 : k = i
                · simp [e2]
                · simp [e, e2]
            rw [e]
            exact (h5.clr hq1 hu).two (Or.inr ⟨w, by simp [up, hq] <;> omega, cat12 w hw⟩) (Or.inl (by simp [up] <;> omega)) hcv
          · intro k a b
            by_cases e : k = i + 2
            · subst e; exact Or.inr (Lun2 u hq1 hu)
            · left; rw [Array.getElem?_setIfInBounds_ne (Ne.symm b), Array.getElem?_setIfInBounds_ne (Ne.symm e), Array.getElem?_setIfInBounds_ne (Ne.symm a)]
        · refine ⟨(r.setIfInBounds i (.val (rv ρ v))).setIfInBounds (i + 1) .second, by simp [storeLocals, storeSelf, setAt, hq, (Array.getElem?_eq_some_iff.mp hq).2, hq1, (Array.getElem?_eq_some_iff.mp hq1).2, hw, hir, hir1, hcv, hu, Array.getElem?_setIfInBounds], fin _ (by simp) ?_ (by simp [hir, Array.getElem?_setIfInBounds]) (by simp [hir1]) ?_⟩
          · rw [up_arr (by simpa using hir1), up_arr hir]; exact h5.two hC (Or.inr ⟨u, hq1, cat12 u hu⟩) hcv
          · intro k a b; left; rw [Array.getElem?_setIfInBounds_ne (Ne.symm b), Array.getElem?_setIfInBounds_ne (Ne.symm a)]
  | second =>
    obtain ⟨j, y, e1, e2, e3⟩ := h5.2 i hq
    subst e1
    have e2' : r[j]? = some (.val y) := e2
    have hj : j < r.size := by omega
    have Lu : ∀ s, L[j]? = some s → s = .unset := by
      intro s hs
      cases s with
      | unset => rfl
      | second => have := h3 _ hs; rw [e2'] at this; cases this
      | val w =>
        have := h2 _ _ hs
        rw [e2'] at this
        cases this
        rw [rv_cat] at e3
        exact absurd (h4.1 j w hs e3) n1
    have W5 := h5.clr e2 e3
    cases q1 with
    | unset =>
      refine ⟨((r.setIfInBounds j .unset).setIfInBounds (j + 1) (.val (rv ρ v))).setIfInBounds (j + 1 + 1) .second, by simp [storeLocals, storeSelf, setAt, hq, (Array.getElem?_eq_some_iff.mp hq).2, hq1, (Array.getElem?_eq_some_iff.mp hq1).2, getset_ne hq1 (show j ≠ j + 1 + 1 by omega), hj, hir, hir1, hcv, Array.getElem?_setIfInBounds], fin _ (by simp) ?_ (by simp [hir, Array.getElem?_setIfInBounds]) (by simp [hir1]) ?_⟩
      · have e : (fun k => (((r.setIfInBounds j .unset).setIfInBounds (j + 1) (.val (rv ρ v))).setIfInBounds (j + 1 + 1) .second)[k]?) = up (up (up (up (fun k => r[k]?) j .unset) (j + 1) .unset) (j + 1) (.val (rv ρ v))) (j + 1 + 1) .second := by
          rw [up_arr (by simpa using hir1), up_arr (by simpa using hir), up_arr hj]
          funext k
          simp only [up]
          by_cases e : k = j + 1 + 1
          · simp [e]
          · by_cases e2 : k = j + 1
            · simp [e2]
            · simp [e, e2]
        rw [e]
        exact W5.two (Or.inl (by simp [up] <;> omega)) (Or.inl (by simp [up, hq1] <;> omega)) hcv
      · intro k a b
        by_cases e : k = j
        · subst e; exact Or.inr Lu
        · left; rw [Array.getElem?_setIfInBounds_ne (Ne.symm b), Array.getElem?_setIfInBounds_ne (Ne.symm a), Array.getElem?_setIfInBounds_ne (Ne.symm e)]
    | second => obtain ⟨k, w, f1, f2, f3⟩ := h5.2 _ hq1; have : k = j + 1 := by omega
                subst this; have f2' : r[j + 1]? = some (.val w) := f2; rw [hq] at f2'; cases f2'
    | val u =>
      by_cases hu : u.category = 2
      · have q2 : r[j + 1 + 2]? = some .second := h5.1 (j + 1 + 1) u hq1 hu
        have hi2 : j + 1 + 2 < r.size := (Array.getElem?_eq_some_iff.mp q2).1
        refine ⟨(((r.setIfInBounds j .unset).setIfInBounds (j + 1) (.val (rv ρ v))).setIfInBounds (j + 1 + 2) .unset).setIfInBounds (j + 1 + 1) .second, by simp [storeLocals, storeSelf, setAt, hq, (Array.getElem?_eq_some_iff.mp hq).2, hq1, (Array.getElem?_eq_some_iff.mp hq1).2, getset_ne hq1 (show j ≠ j + 1 + 1 by omega), hj, hir, hir1, hi2, hcv, hu, Array.getElem?_setIfInBounds], fin _ (by simp) ?_ (by simp [hir, Array.getElem?_setIfInBounds]) (by simp [hir1]) ?_⟩
        · have e : (fun k => ((((r.setIfInBounds j .unset).setIfInBounds (j + 1) (.val (rv ρ v))).setIfInBounds (j + 1 + 2) .unset).setIfInBounds (j + 1 + 1) .second)[k]?) = up (up (up (up (up (up (fun k => r[k]?) j .unset) (j + 1) .unset) (j + 1 + 1) .unset) (j + 1 + 1 + 1) .unset) (j + 1) (.val (rv ρ v))) (j + 1 + 1) .second := by
            rw [up_arr (by simpa using hir1), up_arr (by simpa using hi2), up_arr (by simpa using hir), up_arr hj]
            funext k
            simp only [up]
            by_cases e : k = j + 1 + 1
            · simp [e]
            · by_cases e2 : k = j + 1
              · simp [e2]
              · simp [e, e2]
          rw [e]
          exact (W5.clr (j := j + 1 + 1) (v := u) (by simp [up, hq1] <;> omega) hu).two (Or.inl (by simp [up] <;> omega)) (Or.inl (by simp [up] <;> omega)) hcv
        · intro k a b
          by_cases e : k = j
          · subst e; exact Or.inr Lu
          · by_cases e4 : k = j + 1 + 2
            · subst e4; exact Or.inr (Lun2 u hq1 hu)
            · left; rw [Array.getElem?_setIfInBounds_ne (Ne.symm b), Array.getElem?_setIfInBounds_ne (Ne.symm e4), Array.getElem?_setIfInBounds_ne (Ne.symm a), Array.getElem?_setIfInBounds_ne (Ne.symm e)]
      · refine ⟨((r.setIfInBounds j .unset).setIfInBounds (j + 1) (.val (rv ρ v))).setIfInBounds (j + 1 + 1) .second, by simp [storeLocals, storeSelf, setAt, hq, (Array.getElem?_eq_some_iff.mp hq).2, hq1, (Array.getElem?_eq_some_iff.mp hq1).2, getset_ne hq1 (show j ≠ j + 1 + 1 by omega), hj, hir, hir1, hcv, hu, Array.getElem?_setIfInBounds], fin _ (by simp) ?_ (by simp [hir, Array.getElem?_setIfInBounds]) (by simp [hir1]) ?_⟩
        · have e : (fun k => (((r.setIfInBounds j .unset).setIfInBounds (j + 1) (.val (rv ρ v))).setIfInBounds (j + 1 + 1) .second)[k]?) = up (up (up (up (fun k => r[k]?) j .unset) (j + 1) .unset) (j + 1) (.val (rv ρ v))) (j + 1 + 1) .second := by
            rw [up_arr (by simpa using hir1), up_arr (by simpa using hir), up_arr hj]
            funext k
            simp only [up]
            by_cases e : k = j + 1 + 1
            · simp [e]
            · by_cases e2 : k = j + 1
              · simp [e2]
              · simp [e, e2]
          rw [e]
          exact W5.two (Or.inl (by simp [up] <;> omega)) (Or.inr ⟨u, by simp [up, hq1] <;> omega, cat12 u hu⟩) hcv
        · intro k a b
          by_cases e : k = j
          · subst e; exact Or.inr Lu
          · left; rw [Array.getElem?_setIfInBounds_ne (Ne.symm b), Array.getElem?_setIfInBounds_ne (Ne.symm a), Array.getElem?_setIfInBounds_ne (Ne.symm e)]
/-- which lists of slots are laid out well -/
def wfL : List Slot → Bool
  | [] => true
  | .unset :: t => wfL t
  | .second :: _ => false
  | [.val v] => decide (v.category = 1)
  | .val v :: .second :: t => decide (v.category = 2) && wfL t
  | .val v :: .unset :: t => decide (v.category = 1) && wfL t
  | .val v :: .val u :: t => decide (v.category = 1) && wfL (.val u :: t)
/-- the walk forgets the variables that the mask marks -/
def fg : List Bool → List Slot → List Slot
  | true :: b, _ :: t => .unset :: fg b t
  | false :: b, s :: t => s :: fg b t
  | _, t => t
theorem WR.nil : WR (fun k => ([] : List Slot)[k]?) := ⟨fun i v h => by simp at h, fun i h => by simp at h⟩
theorem WR.cons1 {t : List Slot} {s : Slot} (h : WR (fun k => t[k]?)) (hs : C1 (some s)) : WR (fun k => (s :: t)[k]?) := by
  obtain ⟨n1, n2⟩ := hs.not2
  constructor
  · intro i v hi hv
    cases i with
    | zero => exact absurd hv (n2 v (by simpa using hi))
    | succ i => have := h.1 i v (by simpa using hi) hv; simpa using this
  · intro i hi
    cases i with
    | zero => exact absurd (by simpa using hi) n1
    | succ i => obtain ⟨j, v, e1, e2, e3⟩ := h.2 i (by simpa using hi); exact ⟨j + 1, v, by omega, by simpa using e2, e3⟩
theorem WR.cons2 {t : List Slot} {w : Value} (h : WR (fun k => t[k]?)) (hw : w.category = 2) : WR (fun k => (Slot.val w :: .second :: t)[k]?) := by
  constructor
  · intro i v hi hv
    match i with
    | 0 => simp
    | 1 => simp at hi
    | i + 2 => have := h.1 i v (by simpa using hi) hv; simpa using this
  · intro i hi
    match i with
    | 0 => simp at hi
    | 1 => exact ⟨0, w, rfl, by simp, hw⟩
    | i + 2 => obtain ⟨j, v, e1, e2, e3⟩ := h.2 i (by simpa using hi); exact ⟨j + 2, v, by omega, by simpa using e2, e3⟩
theorem WR.of_wfL : (L : List Slot) → wfL L = true → WR (fun k => L[k]?)
  | [], _ => WR.nil
  | .unset :: t, h => (WR.of_wfL t h).cons1 (Or.inl rfl)
  | .second :: _, h => by simp [wfL] at h
  | [.val v], h => WR.nil.cons1 (Or.inr ⟨v, rfl, by simpa [wfL] using h⟩)
  | .val v :: .second :: t, h => by simp [wfL] at h; exact (WR.of_wfL t h.2).cons2 h.1
  | .val v :: .unset :: t, h => by simp [wfL] at h; exact ((WR.of_wfL t h.2).cons1 (Or.inl rfl)).cons1 (Or.inr ⟨v, rfl, h.1⟩)
  | .val v :: .val u :: t, h => by
    have h' : decide (v.category = 1) = true ∧ wfL (.val u :: t) = true := by rw [wfL, Bool.and_eq_true] at h; exact h
    exact (WR.of_wfL (.val u :: t) h'.2).cons1 (Or.inr ⟨v, rfl, of_decide_eq_true h'.1⟩)
theorem fg_length : (b : List Bool) → (L : List Slot) → (fg b L).length = L.length
  | true :: b, _ :: t => by simp [fg, fg_length b t]
  | false :: b, s :: t => by simp [fg, fg_length b t]
  | [], t => by simp [fg]
  | true :: _, [] => by simp [fg]
  | false :: _, [] => by simp [fg]
theorem fg_get : (b : List Bool) → (L : List Slot) → ∀ (i : Nat) (s : Slot), (fg b L)[i]? = some s → s = .unset ∨ L[i]? = some s
  | true :: b, x :: t, i, s, h => by
    cases i with
    | zero => left; simpa [fg] using h.symm
    | succ i => have := fg_get b t i s (by simpa [fg] using h); simpa using this
  | false :: b, x :: t, i, s, h => by
    cases i with
    | zero => right; simpa [fg] using h
    | succ i => have := fg_get b t i s (by simpa [fg] using h); simpa using this
  | [], t, i, s, h => by right; simpa [fg] using h
  | true :: _, [], i, s, h => by right; simpa [fg] using h
  | false :: _, [], i, s, h => by right; simpa [fg] using h
theorem SR.forget {ρ : Nat → Addr} {L : List Slot} {r : Array Slot} (h : SR ρ L r) (b : List Bool) (hw : wfL (fg b L) = true) : SR ρ (fg b L) r := by
  obtain ⟨h1, h2, h3, h4, h5⟩ := h
  refine ⟨by rw [fg_length]; exact h1, fun i v hi => ?_, fun i hi => ?_, WR.of_wfL _ hw, h5⟩
  · rcases fg_get _ _ _ _ hi with e | e
    · cases e
    · exact h2 i v e
  · rcases fg_get _ _ _ _ hi with e | e
    · cases e
    · exact h3 i e
/-- at a method's entry -/
theorem a2l (ρ : Nat → Addr) (as : List Value) (mx : Nat) : argsToLocals (as.map (rv ρ)).toArray mx = (argsToLocals as.toArray mx).map (rs ρ) := by
  have key : ∀ (as : List Value) (acc : Array Slot), (as.map (rv ρ)).foldl (fun acc v => if v.category = 2 then (acc.push (.val v)).push .second else acc.push (.val v)) (acc.map (rs ρ)) = (as.foldl (fun acc v => if v.category = 2 then (acc.push (.val v)).push .second else acc.push (.val v)) acc).map (rs ρ) := by
    intro as
    induction as with
    | nil => intro acc; rfl
    | cons v t ih =>
      intro acc
      simp only [List.map_cons, List.foldl_cons, rv_cat]
      by_cases hv : v.category = 2
      · rw [if_pos hv, if_pos hv, ← ih]; simp [Array.map_push, rs]
      · rw [if_neg hv, if_neg hv, ← ih]; simp [Array.map_push, rs]
  have k0 := key as #[]
  simp only [Array.map_empty] at k0
  simp only [argsToLocals, List.foldl_toArray', List.size_toArray]
  simp only [k0, Array.map_append, Array.size_map, Array.map_replicate, rs]
theorem SR.entry (ρ : Nat → Addr) (as : List Value) (mx : Nat) {L : List Slot} (hL : (argsToLocals as.toArray mx).toList = L) (hw : wfL L = true) : SR ρ L (argsToLocals (as.map (rv ρ)).toArray mx) := by
  subst hL
  rw [a2l]
  have hW := WR.of_wfL _ hw
  generalize argsToLocals as.toArray mx = A at hW
  have g : ∀ i : Nat, (A.map (rs ρ))[i]? = (A.toList[i]?).map (rs ρ) := by intro i; simp
  refine ⟨by simp, fun i v hi => by rw [g, hi]; rfl, fun i hi => by rw [g, hi]; rfl, hW, ?_, ?_⟩
  · intro i v hi hv
    have hi' : (A.toList[i]?).map (rs ρ) = some (.val v) := by rw [← g]; exact hi
    cases hs : A.toList[i]? with
    | none => rw [hs] at hi'; cases hi'
    | some s =>
      rw [hs] at hi'
      cases s with
      | unset => cases hi'
      | second => cases hi'
      | val u =>
        cases hi'
        have := hW.1 i u hs (by rwa [rv_cat] at hv)
        show (A.map (rs ρ))[i + 1]? = _
        rw [g]
        have t : A.toList[i + 1]? = some .second := this
        rw [t]; rfl
  · intro i hi
    have hi' : (A.toList[i]?).map (rs ρ) = some .second := by rw [← g]; exact hi
    cases hs : A.toList[i]? with
    | none => rw [hs] at hi'; cases hi'
    | some s =>
      rw [hs] at hi'
      cases s with
      | unset => cases hi'
      | val u => cases hi'
      | second =>
        obtain ⟨j, v, e1, e2, e3⟩ := hW.2 i hs
        refine ⟨j, rv ρ v, e1, ?_, by rw [rv_cat]; exact e3⟩
        show (A.map (rs ρ))[j]? = _
        rw [g]
        have t : A.toList[j]? = some (.val v) := e2
        rw [t]; rfl
end Jvm.Own

namespace Jvm.Own
open Jvm Jvm.ClassFile Sem Op Lib Jvm.Free Jvm.Stand Jvm.LawKit Jvm.RoadKit
/-! ## 2. A method's data; what it means that a walk from a point of it comes to an end -/
/-- name, bytes, number of variables, what it returns, room, cells that it makes -/
abbrev MD : Type := MethodName × ByteArray × Nat × Option FieldType × Room × Nat
abbrev nmOf (md : MD) : MethodName := md.1
abbrev byOf (md : MD) : ByteArray := md.2.1
abbrev mxOf (md : MD) : Nat := md.2.2.1
abbrev rtOf (md : MD) : Option FieldType := md.2.2.2.1
abbrev rmOf (md : MD) : Room := md.2.2.2.2.1
abbrev exOf (md : MD) : Nat := md.2.2.2.2.2
/-- the class whose methods are walked; where the walk's references point; the first new address; what the heap holds; what a walk leaves alone -/
abbrev Mode (μ E : Type) : Type := String × (E → Nat → Addr) × (E → Nat) × (E → μ → Heap → Prop) × (E → Heap → Heap → Prop)
abbrev Mode.own {μ E : Type} (M : Mode μ E) : String := M.1
abbrev Mode.rho {μ E : Type} (M : Mode μ E) : E → Nat → Addr := M.2.1
abbrev Mode.lo {μ E : Type} (M : Mode μ E) : E → Nat := M.2.2.1
abbrev Mode.rel {μ E : Type} (M : Mode μ E) : E → μ → Heap → Prop := M.2.2.2.1
abbrev Mode.frm {μ E : Type} (M : Mode μ E) : E → Heap → Heap → Prop := M.2.2.2.2
def Kn (Z : State) (own : String) (md : MD) (p : Program) (s : State) (m : MethodId) (meth : Method) (c : Code) : Prop :=
  p.tables.exec = Jvm.exec ∧ Z.Warmed39 s.vm ∧ s.vm.findClass own = some m.cls ∧ meth.name = (nmOf md).name ∧ meth.sig.returnType = rtOf md ∧ meth.locks = false ∧ c.code = byOf md ∧ c.maxLocals = mxOf md
def Done {μ E : Type} (l : Launch) (M : Mode μ E) (md : MD) (Q : Option Value → μ → Prop) (en : E) (p : Program) (e : Env) (s : State) (m : MethodId) (args : Array Value) (below : List Frame) (meth : Method) (c : Code) (T : State) (g : JFrame) : Prop :=
  ∃ (T' : State) (locs' : List Loc) (su' : Nat) (v : Option Value) (w' : μ), Stand p l e (rmOf md) s m args below meth c T' locs' (exOf md) su' ∧ exOf md ≤ (rmOf md).cells ∧ su' ≤ (rmOf md).slots ∧ T'.heap.size = s.heap.size + exOf md ∧ Fr (M.lo en) locs' ∧ M.rel en w' T'.heap ∧ M.frm en T.heap T'.heap ∧
    (meth.sig.returnType = none → v = none) ∧ (∀ ρ x, v = some x → rv ρ x = x) ∧ Q v w' ∧
    ∀ fs, (∀ (f : JFrame) (acts : List Action), f.method = m → f.locked = none → f.entered = [] → (doReturn e (T'.setTop f) acts v).1 = T'.setFrames fs) → Steps p.tables e below (T.setTop g) (T'.setFrames fs)
/-- from the pc, with these variables and operands, over w, the walk returns with what Q says -/
def Wk {μ E : Type} (l : Launch) (Z : State) (M : Mode μ E) (md : MD) (pc : Nat) (L : List Slot) (S : List Value) (w : μ) (cu su : Nat) (Q : Option Value → μ → Prop) : Prop :=
  ∀ (en : E) (p : Program) (e : Env) (s : State) (m : MethodId) (args : Array Value) (below : List Frame) (meth : Method) (c : Code) (T : State) (locs : List Loc) (r : Array Slot),
    Stand p l e (rmOf md) s m args below meth c T locs cu su → Kn Z M.own md p s m meth c → T.heap.size = s.heap.size + cu → Fr (M.lo en) locs → M.rel en w T.heap → SR (M.rho en) L r →
    Done l M md Q en p e s m args below meth c T (mkF m pc r (S.map (rv (M.rho en))))
section Steps
variable {μ E : Type} {l : Launch} {Z : State} {M : Mode μ E} {md : MD} {pc pc' : Nat} {L L' : List Slot} {S : List Value} {w : μ} {cu su : Nat} {Q : Option Value → μ → Prop}
theorem Done.pre {en : E} {p : Program} {e : Env} {s : State} {m : MethodId} {args : Array Value} {below : List Frame} {meth : Method} {c : Code} {T T1 : State} {g g1 : JFrame} (h : Done l M md Q en p e s m args below meth c T1 g1) (hT : ∀ x, M.frm en T1.heap x → M.frm en T.heap x)
    (st : ∀ t, Steps p.tables e below (T1.setTop g1) t → Steps p.tables e below (T.setTop g) t) : Done l M md Q en p e s m args below meth c T g := by
  obtain ⟨T', locs', su', v, w', a1, a2, a3, a4, a5, a6, a7, a8, a9, a10, a11⟩ := h
  exact ⟨T', locs', su', v, w', a1, a2, a3, a4, a5, a6, hT _ a7, a8, a9, a10, fun fs hf => st _ (a11 fs hf)⟩
theorem Wk.mono {Q' : Option Value → μ → Prop} (h : Wk l Z M md pc L S w cu su Q) (hq : ∀ v w', Q v w' → Q' v w') : Wk l Z M md pc L S w cu su Q' := by
  intro en p e s m args below meth c T locs r X K hz hF hR hL
  obtain ⟨T', locs', su', v, w', a1, a2, a3, a4, a5, a6, a7, a8, a9, a10, a11⟩ := h en p e s m args below meth c T locs r X K hz hF hR hL
  exact ⟨T', locs', su', v, w', a1, a2, a3, a4, a5, a6, a7, a8, a9, hq _ _ a10, a11⟩
abbrev InsA (md : MD) (pc : Nat) (i : Instr) (n pc' : Nat) : Prop := decode (byOf md) pc = .ok (i, n) ∧ pc + n = pc'
abbrev InsB (md : MD) (pc : Nat) (i : Instr) (n pc' : Nat) (o : Int) (pt : Nat) : Prop := decode (byOf md) pc = .ok (i, n) ∧ pc + n = pc' ∧ 0 ≤ (pc : Int) + o ∧ ((pc : Int) + o).toNat = pt
theorem Kn.by {own : String} {p : Program} {s : State} {m : MethodId} {meth : Method} {c : Code} (K : Kn Z own md p s m meth c) : c.code = byOf md := K.2.2.2.2.2.2.1
theorem Wk.forget (b : List Bool) (hf : fg b L = L') (hw : wfL L' = true) (h : Wk l Z M md pc L' S w cu su Q) : Wk l Z M md pc L S w cu su Q :=
  fun en p e s m args below meth c T locs r X K hz hF hR hL => h en p e s m args below meth c T locs r X K hz hF hR (by subst hf; exact hL.forget b hw)
theorem Wk.iloadN {k : Fin 4} {v : Int32} (hd : InsA md pc (.iload_n k) 1 pc') (hl : L[k.val]? = some (.val (.int v))) (h : Wk l Z M md pc' L (.int v :: S) w cu su Q) : Wk l Z M md pc L (S) w cu su Q :=
  fun en p e s m args below meth c T locs r X K hz hF hR hL => by
  obtain ⟨hd, rfl⟩ := hd
  exact (h en p e s m args below meth c T locs r X K hz hF hR hL).pre (fun _ q => q) fun t k => XS.iloadN X.here K.1 rfl (hb K.by hd) (hL.get hl) k
theorem Wk.iload {k : Nat} {v : Int32} (hd : InsA md pc (.iload k) 2 pc') (hl : L[k]? = some (.val (.int v))) (h : Wk l Z M md pc' L (.int v :: S) w cu su Q) : Wk l Z M md pc L (S) w cu su Q :=
  fun en p e s m args below meth c T locs r X K hz hF hR hL => by
  obtain ⟨hd, rfl⟩ := hd
  exact (h en p e s m args below meth c T locs r X K hz hF hR hL).pre (fun _ q => q) fun t k => XS.iload X.here K.1 rfl (hb K.by hd) (hL.get hl) k
theorem Wk.lloadN {k : Fin 4} {v : Int64} (hd : InsA md pc (.lload_n k) 1 pc') (hl : L[k.val]? = some (.val (.long v))) (h : Wk l Z M md pc' L (.long v :: S) w cu su Q) : Wk l Z M md pc L (S) w cu su Q :=
  fun en p e s m args below meth c T locs r X K hz hF hR hL => by
  obtain ⟨hd, rfl⟩ := hd
  exact (h en p e s m args below meth c T locs r X K hz hF hR hL).pre (fun _ q => q) fun t k => XT.lloadN X.here K.1 rfl (hb K.by hd) (hL.get hl) k
theorem Wk.lload {k : Nat} {v : Int64} (hd : InsA md pc (.lload k) 2 pc') (hl : L[k]? = some (.val (.long v))) (h : Wk l Z M md pc' L (.long v :: S) w cu su Q) : Wk l Z M md pc L (S) w cu su Q :=
  fun en p e s m args below meth c T locs r X K hz hF hR hL => by
  obtain ⟨hd, rfl⟩ := hd
  exact (h en p e s m args below meth c T locs r X K hz hF hR hL).pre (fun _ q => q) fun t k => XT.lload X.here K.1 rfl (hb K.by hd) (hL.get hl) k
theorem Wk.aloadN {k : Fin 4} {v : Nat} (hd : InsA md pc (.aload_n k) 1 pc') (hl : L[k.val]? = some (.val (.ref v))) (h : Wk l Z M md pc' L (.ref v :: S) w cu su Q) : Wk l Z M md pc L (S) w cu su Q :=
  fun en p e s m args below meth c T locs r X K hz hF hR hL => by
  obtain ⟨hd, rfl⟩ := hd
  exact (h en p e s m args below meth c T locs r X K hz hF hR hL).pre (fun _ q => q) fun t k => XS.aloadN X.here K.1 rfl (hb K.by hd) (hL.get hl) rfl k
theorem Wk.aload {k : Nat} {v : Nat} (hd : InsA md pc (.aload k) 2 pc') (hl : L[k]? = some (.val (.ref v))) (h : Wk l Z M md pc' L (.ref v :: S) w cu su Q) : Wk l Z M md pc L (S) w cu su Q :=
  fun en p e s m args below meth c T locs r X K hz hF hR hL => by
  obtain ⟨hd, rfl⟩ := hd
  exact (h en p e s m args below meth c T locs r X K hz hF hR hL).pre (fun _ q => q) fun t k => XS.aload X.here K.1 rfl (hb K.by hd) (hL.get hl) rfl k
theorem Wk.iconst {i : Int} {z : Int32} (hd : InsA md pc (.iconst i) 1 pc') (hz' : Int32.ofInt i = z) (h : Wk l Z M md pc' L (.int z :: S) w cu su Q) : Wk l Z M md pc L (S) w cu su Q :=
  fun en p e s m args below meth c T locs r X K hz hF hR hL => by
  obtain ⟨hd, rfl⟩ := hd
  exact (h en p e s m args below meth c T locs r X K hz hF hR hL).pre (fun _ q => q) fun t k => XS.iconst X.here K.1 rfl (hb K.by hd) (by subst hz'; exact k)
theorem Wk.bipush {i : Int} {z : Int32} (hd : InsA md pc (.bipush i) 2 pc') (hz' : (Int8.ofInt i).toInt32 = z) (h : Wk l Z M md pc' L (.int z :: S) w cu su Q) : Wk l Z M md pc L (S) w cu su Q :=
  fun en p e s m args below meth c T locs r X K hz hF hR hL => by
  obtain ⟨hd, rfl⟩ := hd
  exact (h en p e s m args below meth c T locs r X K hz hF hR hL).pre (fun _ q => q) fun t k => XS.bipush X.here K.1 rfl (hb K.by hd) (by subst hz'; exact k)
theorem Wk.sipush {i : Int} {z : Int32} (hd : InsA md pc (.sipush i) 3 pc') (hz' : (Int16.ofInt i).toInt32 = z) (h : Wk l Z M md pc' L (.int z :: S) w cu su Q) : Wk l Z M md pc L (S) w cu su Q :=
  fun en p e s m args below meth c T locs r X K hz hF hR hL => by
  obtain ⟨hd, rfl⟩ := hd
  exact (h en p e s m args below meth c T locs r X K hz hF hR hL).pre (fun _ q => q) fun t k => XS.sipush X.here K.1 rfl (hb K.by hd) (by subst hz'; exact k)
theorem Wk.lconst {i : Fin 2} {z : Int64} (hd : InsA md pc (.lconst i) 1 pc') (hz' : Int64.ofNat i = z) (h : Wk l Z M md pc' L (.long z :: S) w cu su Q) : Wk l Z M md pc L (S) w cu su Q :=
  fun en p e s m args below meth c T locs r X K hz hF hR hL => by
  obtain ⟨hd, rfl⟩ := hd
  exact (h en p e s m args below meth c T locs r X K hz hF hR hL).pre (fun _ q => q) fun t k => XT.lconst X.here K.1 rfl (hb K.by hd) (by subst hz'; exact k)
theorem Wk.iadd {x y : Int32} (hd : InsA md pc (.iadd) 1 pc') (h : Wk l Z M md pc' L (.int (x + y) :: S) w cu su Q) : Wk l Z M md pc L (.int y :: .int x :: S) w cu su Q :=
  fun en p e s m args below meth c T locs r X K hz hF hR hL => by
  obtain ⟨hd, rfl⟩ := hd
  exact (h en p e s m args below meth c T locs r X K hz hF hR hL).pre (fun _ q => q) fun t k => XS.iadd X.here K.1 rfl (hb K.by hd) rfl k
theorem Wk.isub {x y : Int32} (hd : InsA md pc (.isub) 1 pc') (h : Wk l Z M md pc' L (.int (x - y) :: S) w cu su Q) : Wk l Z M md pc L (.int y :: .int x :: S) w cu su Q :=
  fun en p e s m args below meth c T locs r X K hz hF hR hL => by
  obtain ⟨hd, rfl⟩ := hd
  exact (h en p e s m args below meth c T locs r X K hz hF hR hL).pre (fun _ q => q) fun t k => XS.isub X.here K.1 rfl (hb K.by hd) rfl k
theorem Wk.imul {x y : Int32} (hd : InsA md pc (.imul) 1 pc') (h : Wk l Z M md pc' L (.int (x * y) :: S) w cu su Q) : Wk l Z M md pc L (.int y :: .int x :: S) w cu su Q :=
  fun en p e s m args below meth c T locs r X K hz hF hR hL => by
  obtain ⟨hd, rfl⟩ := hd
  exact (h en p e s m args below meth c T locs r X K hz hF hR hL).pre (fun _ q => q) fun t k => XS.imul X.here K.1 rfl (hb K.by hd) rfl k
theorem Wk.iand {x y : Int32} (hd : InsA md pc (.iand) 1 pc') (h : Wk l Z M md pc' L (.int (x &&& y) :: S) w cu su Q) : Wk l Z M md pc L (.int y :: .int x :: S) w cu su Q :=
  fun en p e s m args below meth c T locs r X K hz hF hR hL => by
  obtain ⟨hd, rfl⟩ := hd
  exact (h en p e s m args below meth c T locs r X K hz hF hR hL).pre (fun _ q => q) fun t k => XS.iand X.here K.1 rfl (hb K.by hd) rfl k
theorem Wk.ior {x y : Int32} (hd : InsA md pc (.ior) 1 pc') (h : Wk l Z M md pc' L (.int (x ||| y) :: S) w cu su Q) : Wk l Z M md pc L (.int y :: .int x :: S) w cu su Q :=
  fun en p e s m args below meth c T locs r X K hz hF hR hL => by
  obtain ⟨hd, rfl⟩ := hd
  exact (h en p e s m args below meth c T locs r X K hz hF hR hL).pre (fun _ q => q) fun t k => XT.ior X.here K.1 rfl (hb K.by hd) rfl k
theorem Wk.ixor {x y : Int32} (hd : InsA md pc (.ixor) 1 pc') (h : Wk l Z M md pc' L (.int (x ^^^ y) :: S) w cu su Q) : Wk l Z M md pc L (.int y :: .int x :: S) w cu su Q :=
  fun en p e s m args below meth c T locs r X K hz hF hR hL => by
  obtain ⟨hd, rfl⟩ := hd
  exact (h en p e s m args below meth c T locs r X K hz hF hR hL).pre (fun _ q => q) fun t k => XT.ixor X.here K.1 rfl (hb K.by hd) rfl k
theorem Wk.ishl {x y : Int32} (hd : InsA md pc (.ishl) 1 pc') (h : Wk l Z M md pc' L (.int (x <<< (y &&& 31)) :: S) w cu su Q) : Wk l Z M md pc L (.int y :: .int x :: S) w cu su Q :=
  fun en p e s m args below meth c T locs r X K hz hF hR hL => by
  obtain ⟨hd, rfl⟩ := hd
  exact (h en p e s m args below meth c T locs r X K hz hF hR hL).pre (fun _ q => q) fun t k => XT.ishl X.here K.1 rfl (hb K.by hd) rfl k
theorem Wk.ishr {x y : Int32} (hd : InsA md pc (.ishr) 1 pc') (h : Wk l Z M md pc' L (.int (x >>> (y &&& 31)) :: S) w cu su Q) : Wk l Z M md pc L (.int y :: .int x :: S) w cu su Q :=
  fun en p e s m args below meth c T locs r X K hz hF hR hL => by
  obtain ⟨hd, rfl⟩ := hd
  exact (h en p e s m args below meth c T locs r X K hz hF hR hL).pre (fun _ q => q) fun t k => XT.ishr X.here K.1 rfl (hb K.by hd) rfl k
theorem Wk.iushr {x y : Int32} (hd : InsA md pc (.iushr) 1 pc') (h : Wk l Z M md pc' L (.int (XT.ushr x y) :: S) w cu su Q) : Wk l Z M md pc L (.int y :: .int x :: S) w cu su Q :=
  fun en p e s m args below meth c T locs r X K hz hF hR hL => by
  obtain ⟨hd, rfl⟩ := hd
  exact (h en p e s m args below meth c T locs r X K hz hF hR hL).pre (fun _ q => q) fun t k => XT.iushr X.here K.1 rfl (hb K.by hd) rfl k
theorem Wk.ineg {x : Int32} (hd : InsA md pc (.ineg) 1 pc') (h : Wk l Z M md pc' L (.int (-x) :: S) w cu su Q) : Wk l Z M md pc L (.int x :: S) w cu su Q :=
  fun en p e s m args below meth c T locs r X K hz hF hR hL => by
  obtain ⟨hd, rfl⟩ := hd
  exact (h en p e s m args below meth c T locs r X K hz hF hR hL).pre (fun _ q => q) fun t k => XS.ineg X.here K.1 rfl (hb K.by hd) rfl k
theorem Wk.idiv {x y : Int32} (hd : InsA md pc (.idiv) 1 pc') (hy : y ≠ 0) (h : Wk l Z M md pc' L (.int (x / y) :: S) w cu su Q) : Wk l Z M md pc L (.int y :: .int x :: S) w cu su Q :=
  fun en p e s m args below meth c T locs r X K hz hF hR hL => by
  obtain ⟨hd, rfl⟩ := hd
  exact (h en p e s m args below meth c T locs r X K hz hF hR hL).pre (fun _ q => q) fun t k => XS.idiv X.here K.1 rfl (hb K.by hd) rfl hy k
theorem Wk.irem {x y : Int32} (hd : InsA md pc (.irem) 1 pc') (hy : y ≠ 0) (h : Wk l Z M md pc' L (.int (x % y) :: S) w cu su Q) : Wk l Z M md pc L (.int y :: .int x :: S) w cu su Q :=
  fun en p e s m args below meth c T locs r X K hz hF hR hL => by
  obtain ⟨hd, rfl⟩ := hd
  exact (h en p e s m args below meth c T locs r X K hz hF hR hL).pre (fun _ q => q) fun t k => Jvm.RoadKit.iremM X K.1 rfl (hb K.by hd) rfl hy k
theorem Wk.ladd {x y : Int64} (hd : InsA md pc (.ladd) 1 pc') (h : Wk l Z M md pc' L (.long (x + y) :: S) w cu su Q) : Wk l Z M md pc L (.long y :: .long x :: S) w cu su Q :=
  fun en p e s m args below meth c T locs r X K hz hF hR hL => by
  obtain ⟨hd, rfl⟩ := hd
  exact (h en p e s m args below meth c T locs r X K hz hF hR hL).pre (fun _ q => q) fun t k => XT.ladd X.here K.1 rfl (hb K.by hd) rfl k
theorem Wk.lsub {x y : Int64} (hd : InsA md pc (.lsub) 1 pc') (h : Wk l Z M md pc' L (.long (x - y) :: S) w cu su Q) : Wk l Z M md pc L (.long y :: .long x :: S) w cu su Q :=
  fun en p e s m args below meth c T locs r X K hz hF hR hL => by
  obtain ⟨hd, rfl⟩ := hd
  exact (h en p e s m args below meth c T locs r X K hz hF hR hL).pre (fun _ q => q) fun t k => XT.lsub X.here K.1 rfl (hb K.by hd) rfl k
theorem Wk.lmul {x y : Int64} (hd : InsA md pc (.lmul) 1 pc') (h : Wk l Z M md pc' L (.long (x * y) :: S) w cu su Q) : Wk l Z M md pc L (.long y :: .long x :: S) w cu su Q :=
  fun en p e s m args below meth c T locs r X K hz hF hR hL => by
  obtain ⟨hd, rfl⟩ := hd
  exact (h en p e s m args below meth c T locs r X K hz hF hR hL).pre (fun _ q => q) fun t k => XT.lmul X.here K.1 rfl (hb K.by hd) rfl k
theorem Wk.land {x y : Int64} (hd : InsA md pc (.land) 1 pc') (h : Wk l Z M md pc' L (.long (x &&& y) :: S) w cu su Q) : Wk l Z M md pc L (.long y :: .long x :: S) w cu su Q :=
  fun en p e s m args below meth c T locs r X K hz hF hR hL => by
  obtain ⟨hd, rfl⟩ := hd
  exact (h en p e s m args below meth c T locs r X K hz hF hR hL).pre (fun _ q => q) fun t k => XT.land X.here K.1 rfl (hb K.by hd) rfl k
theorem Wk.lor {x y : Int64} (hd : InsA md pc (.lor) 1 pc') (h : Wk l Z M md pc' L (.long (x ||| y) :: S) w cu su Q) : Wk l Z M md pc L (.long y :: .long x :: S) w cu su Q :=
  fun en p e s m args below meth c T locs r X K hz hF hR hL => by
  obtain ⟨hd, rfl⟩ := hd
  exact (h en p e s m args below meth c T locs r X K hz hF hR hL).pre (fun _ q => q) fun t k => XT.lor X.here K.1 rfl (hb K.by hd) rfl k
theorem Wk.lxor {x y : Int64} (hd : InsA md pc (.lxor) 1 pc') (h : Wk l Z M md pc' L (.long (x ^^^ y) :: S) w cu su Q) : Wk l Z M md pc L (.long y :: .long x :: S) w cu su Q :=
  fun en p e s m args below meth c T locs r X K hz hF hR hL => by
  obtain ⟨hd, rfl⟩ := hd
  exact (h en p e s m args below meth c T locs r X K hz hF hR hL).pre (fun _ q => q) fun t k => XT.lxor X.here K.1 rfl (hb K.by hd) rfl k
theorem Wk.ldiv {x y : Int64} (hd : InsA md pc (.ldiv) 1 pc') (hy : y ≠ 0) (h : Wk l Z M md pc' L (.long (x / y) :: S) w cu su Q) : Wk l Z M md pc L (.long y :: .long x :: S) w cu su Q :=
  fun en p e s m args below meth c T locs r X K hz hF hR hL => by
  obtain ⟨hd, rfl⟩ := hd
  exact (h en p e s m args below meth c T locs r X K hz hF hR hL).pre (fun _ q => q) fun t k => XT.ldiv X.here K.1 rfl (hb K.by hd) rfl hy k
theorem Wk.lrem {x y : Int64} (hd : InsA md pc (.lrem) 1 pc') (hy : y ≠ 0) (h : Wk l Z M md pc' L (.long (x - (x / y) * y) :: S) w cu su Q) : Wk l Z M md pc L (.long y :: .long x :: S) w cu su Q :=
  fun en p e s m args below meth c T locs r X K hz hF hR hL => by
  obtain ⟨hd, rfl⟩ := hd
  exact (h en p e s m args below meth c T locs r X K hz hF hR hL).pre (fun _ q => q) fun t k => XT.lrem X.here K.1 rfl (hb K.by hd) rfl hy k
theorem Wk.lshl {x : Int64} {y : Int32} (hd : InsA md pc (.lshl) 1 pc') (h : Wk l Z M md pc' L (.long (x <<< (y.toInt64 &&& 63)) :: S) w cu su Q) : Wk l Z M md pc L (.int y :: .long x :: S) w cu su Q :=
  fun en p e s m args below meth c T locs r X K hz hF hR hL => by
  obtain ⟨hd, rfl⟩ := hd
  exact (h en p e s m args below meth c T locs r X K hz hF hR hL).pre (fun _ q => q) fun t k => XT.lshl X.here K.1 rfl (hb K.by hd) rfl k
theorem Wk.lshr {x : Int64} {y : Int32} (hd : InsA md pc (.lshr) 1 pc') (h : Wk l Z M md pc' L (.long (x >>> (y.toInt64 &&& 63)) :: S) w cu su Q) : Wk l Z M md pc L (.int y :: .long x :: S) w cu su Q :=
  fun en p e s m args below meth c T locs r X K hz hF hR hL => by
  obtain ⟨hd, rfl⟩ := hd
  exact (h en p e s m args below meth c T locs r X K hz hF hR hL).pre (fun _ q => q) fun t k => XT.lshr X.here K.1 rfl (hb K.by hd) rfl k
theorem Wk.lushr {x : Int64} {y : Int32} (hd : InsA md pc (.lushr) 1 pc') (h : Wk l Z M md pc' L (.long (XT.ushrL x y) :: S) w cu su Q) : Wk l Z M md pc L (.int y :: .long x :: S) w cu su Q :=
  fun en p e s m args below meth c T locs r X K hz hF hR hL => by
  obtain ⟨hd, rfl⟩ := hd
  exact (h en p e s m args below meth c T locs r X K hz hF hR hL).pre (fun _ q => q) fun t k => XT.lushr X.here K.1 rfl (hb K.by hd) rfl k
theorem Wk.i2l {x : Int32} (hd : InsA md pc (.i2l) 1 pc') (h : Wk l Z M md pc' L (.long x.toInt64 :: S) w cu su Q) : Wk l Z M md pc L (.int x :: S) w cu su Q :=
  fun en p e s m args below meth c T locs r X K hz hF hR hL => by
  obtain ⟨hd, rfl⟩ := hd
  exact (h en p e s m args below meth c T locs r X K hz hF hR hL).pre (fun _ q => q) fun t k => XT.i2l X.here K.1 rfl (hb K.by hd) rfl k
theorem Wk.l2i {x : Int64} (hd : InsA md pc (.l2i) 1 pc') (h : Wk l Z M md pc' L (.int x.toInt32 :: S) w cu su Q) : Wk l Z M md pc L (.long x :: S) w cu su Q :=
  fun en p e s m args below meth c T locs r X K hz hF hR hL => by
  obtain ⟨hd, rfl⟩ := hd
  exact (h en p e s m args below meth c T locs r X K hz hF hR hL).pre (fun _ q => q) fun t k => XT.l2i X.here K.1 rfl (hb K.by hd) rfl k
theorem Wk.lcmp {x y : Int64} (hd : InsA md pc (.lcmp) 1 pc') (h : Wk l Z M md pc' L (.int (XT.cmpL x y) :: S) w cu su Q) : Wk l Z M md pc L (.long y :: .long x :: S) w cu su Q :=
  fun en p e s m args below meth c T locs r X K hz hF hR hL => by
  obtain ⟨hd, rfl⟩ := hd
  exact (h en p e s m args below meth c T locs r X K hz hF hR hL).pre (fun _ q => q) fun t k => XT.lcmp X.here K.1 rfl (hb K.by hd) rfl k
theorem Wk.dup {v : Value} (hd : InsA md pc (.dup) 1 pc') (hv : v.category = 1) (h : Wk l Z M md pc' L (v :: v :: S) w cu su Q) : Wk l Z M md pc L (v :: S) w cu su Q :=
  fun en p e s m args below meth c T locs r X K hz hF hR hL => by
  obtain ⟨hd, rfl⟩ := hd
  exact (h en p e s m args below meth c T locs r X K hz hF hR hL).pre (fun _ q => q) fun t k => XS.dup X.here K.1 rfl (hb K.by hd) rfl (by rw [rv_cat]; exact hv) k
theorem Wk.pop {v : Value} (hd : InsA md pc (.pop) 1 pc') (hv : v.category = 1) (h : Wk l Z M md pc' L (S) w cu su Q) : Wk l Z M md pc L (v :: S) w cu su Q :=
  fun en p e s m args below meth c T locs r X K hz hF hR hL => by
  obtain ⟨hd, rfl⟩ := hd
  exact (h en p e s m args below meth c T locs r X K hz hF hR hL).pre (fun _ q => q) fun t k => XT.pop X.here K.1 rfl (hb K.by hd) rfl (by rw [rv_cat]; exact hv) k
theorem Wk.dup2 {v u : Value} (hd : InsA md pc (.dup2) 1 pc') (hv : v.category = 1) (hu : u.category = 1) (h : Wk l Z M md pc' L (v :: u :: v :: u :: S) w cu su Q) : Wk l Z M md pc L (v :: u :: S) w cu su Q :=
  fun en p e s m args below meth c T locs r X K hz hF hR hL => by
  obtain ⟨hd, rfl⟩ := hd
  exact (h en p e s m args below meth c T locs r X K hz hF hR hL).pre (fun _ q => q) fun t k => XT.dup2 X.here K.1 rfl (hb K.by hd) rfl (by rw [rv_cat]; exact hv) (by rw [rv_cat]; exact hu) k
theorem Wk.dupX1 {v u : Value} (hd : InsA md pc (.dup_x1) 1 pc') (hv : v.category = 1) (hu : u.category = 1) (h : Wk l Z M md pc' L (v :: u :: v :: S) w cu su Q) : Wk l Z M md pc L (v :: u :: S) w cu su Q :=
  fun en p e s m args below meth c T locs r X K hz hF hR hL => by
  obtain ⟨hd, rfl⟩ := hd
  exact (h en p e s m args below meth c T locs r X K hz hF hR hL).pre (fun _ q => q) fun t k => XT.dupX1 X.here K.1 rfl (hb K.by hd) rfl (by rw [rv_cat]; exact hv) (by rw [rv_cat]; exact hu) k
theorem Wk.istoreN {k : Fin 4} {x : Int32} (hd : InsA md pc (.istore_n k) 1 pc') (ho : C1 L[k.val]?) (hl : L.set k.val (.val (.int x)) = L') (h : Wk l Z M md pc' L' S w cu su Q) : Wk l Z M md pc L (.int x :: S) w cu su Q :=
  fun en p e s m args below meth c T locs r X K hz hF hR hL => by
  obtain ⟨hd, rfl⟩ := hd
  obtain ⟨r', e1, hL2⟩ := hL.st1 (v := .int x) ho rfl
  subst hl
  exact (h en p e s m args below meth c T locs r' X K hz hF hR hL2).pre (fun _ q => q) fun t k => XS.istoreN X.here K.1 rfl (hb K.by hd) rfl e1 k
theorem Wk.istore {k : Nat} {x : Int32} (hd : InsA md pc (.istore k) 2 pc') (ho : C1 L[k]?) (hl : L.set k (.val (.int x)) = L') (h : Wk l Z M md pc' L' S w cu su Q) : Wk l Z M md pc L (.int x :: S) w cu su Q :=
  fun en p e s m args below meth c T locs r X K hz hF hR hL => by
  obtain ⟨hd, rfl⟩ := hd
  obtain ⟨r', e1, hL2⟩ := hL.st1 (v := .int x) ho rfl
  subst hl
  exact (h en p e s m args below meth c T locs r' X K hz hF hR hL2).pre (fun _ q => q) fun t k => XS.istore X.here K.1 rfl (hb K.by hd) rfl e1 k
theorem Wk.astoreN {k : Fin 4} {x : Nat} (hd : InsA md pc (.astore_n k) 1 pc') (ho : C1 L[k.val]?) (hl : L.set k.val (.val (.ref x)) = L') (h : Wk l Z M md pc' L' S w cu su Q) : Wk l Z M md pc L (.ref x :: S) w cu su Q :=
  fun en p e s m args below meth c T locs r X K hz hF hR hL => by
  obtain ⟨hd, rfl⟩ := hd
  obtain ⟨r', e1, hL2⟩ := hL.st1 (v := .ref x) ho rfl
  subst hl
  exact (h en p e s m args below meth c T locs r' X K hz hF hR hL2).pre (fun _ q => q) fun t k => XS.astoreN X.here K.1 rfl (hb K.by hd) rfl rfl e1 k
theorem Wk.astore {k : Nat} {x : Nat} (hd : InsA md pc (.astore k) 2 pc') (ho : C1 L[k]?) (hl : L.set k (.val (.ref x)) = L') (h : Wk l Z M md pc' L' S w cu su Q) : Wk l Z M md pc L (.ref x :: S) w cu su Q :=
  fun en p e s m args below meth c T locs r X K hz hF hR hL => by
  obtain ⟨hd, rfl⟩ := hd
  obtain ⟨r', e1, hL2⟩ := hL.st1 (v := .ref x) ho rfl
  subst hl
  exact (h en p e s m args below meth c T locs r' X K hz hF hR hL2).pre (fun _ q => q) fun t k => XS.astore X.here K.1 rfl (hb K.by hd) rfl rfl e1 k
theorem Wk.lstoreN {k : Fin 4} {x : Int64} (hd : InsA md pc (.lstore_n k) 1 pc') (ho : C1 L[k.val]?) (ho2 : C1 L[k.val + 1]?) (hl : (L.set k.val (.val (.long x))).set (k.val + 1) .second = L') (h : Wk l Z M md pc' L' S w cu su Q) : Wk l Z M md pc L (.long x :: S) w cu su Q :=
  fun en p e s m args below meth c T locs r X K hz hF hR hL => by
  obtain ⟨hd, rfl⟩ := hd
  obtain ⟨r', e1, hL2⟩ := hL.st2 (v := .long x) ho ho2 rfl
  subst hl
  exact (h en p e s m args below meth c T locs r' X K hz hF hR hL2).pre (fun _ q => q) fun t k => XT.lstoreN X.here K.1 rfl (hb K.by hd) rfl e1 k
theorem Wk.lstore {k : Nat} {x : Int64} (hd : InsA md pc (.lstore k) 2 pc') (ho : C1 L[k]?) (ho2 : C1 L[k + 1]?) (hl : (L.set k (.val (.long x))).set (k + 1) .second = L') (h : Wk l Z M md pc' L' S w cu su Q) : Wk l Z M md pc L (.long x :: S) w cu su Q :=
  fun en p e s m args below meth c T locs r X K hz hF hR hL => by
  obtain ⟨hd, rfl⟩ := hd
  obtain ⟨r', e1, hL2⟩ := hL.st2 (v := .long x) ho ho2 rfl
  subst hl
  exact (h en p e s m args below meth c T locs r' X K hz hF hR hL2).pre (fun _ q => q) fun t k => XT.lstore X.here K.1 rfl (hb K.by hd) rfl e1 k
theorem Wk.iinc {k : Nat} {cst : Int} {x z : Int32} (hd : InsA md pc (.iinc k cst) 3 pc') (hv : L[k]? = some (.val (.int x))) (hz' : x + Int32.ofInt cst = z) (hl : L.set k (.val (.int z)) = L') (h : Wk l Z M md pc' L' S w cu su Q) : Wk l Z M md pc L S w cu su Q :=
  fun en p e s m args below meth c T locs r X K hz hF hR hL => by
  obtain ⟨hd, rfl⟩ := hd
  obtain ⟨r', e1, hL2⟩ := hL.st1 (i := k) (v := .int z) (Or.inr ⟨_, hv, rfl⟩) rfl
  subst hl hz'
  exact (h en p e s m args below meth c T locs r' X K hz hF hR hL2).pre (fun _ q => q) fun t k => XS.iinc X.here K.1 rfl (hb K.by hd) (hL.get hv) e1 k
theorem Wk.goto {o : Int} {pt : Nat} (hd : InsB md pc (.goto o) 3 pc' o pt) (h : Wk l Z M md pt L S w cu su Q) : Wk l Z M md pc L S w cu su Q :=
  fun en p e s m args below meth c T locs r X K hz hF hR hL => by
  obtain ⟨hd, rfl, h3, h4⟩ := hd
  exact (h en p e s m args below meth c T locs r X K hz hF hR hL).pre (fun _ q => q) fun t k => XS.goto X.here K.1 rfl rfl (hb K.by hd) h3 h4 k
theorem Wk.icmp_lt {x y : Int32} {o : Int} {pt : Nat} (hd : InsB md pc (.if_icmp .lt o) 3 pc' o pt) (h1 : x < y → Wk l Z M md pt L S w cu su Q) (h2 : ¬ x < y → Wk l Z M md pc' L S w cu su Q) : Wk l Z M md pc L (.int y :: .int x :: S) w cu su Q :=
  fun en p e s m args below meth c T locs r X K hz hF hR hL => by
  obtain ⟨hd, rfl, h3, h4⟩ := hd
  by_cases q : x < y
  · exact (h1 q en p e s m args below meth c T locs r X K hz hF hR hL).pre (fun _ q => q) fun t k => XS.icmpYes X.here K.1 rfl rfl (hb K.by hd) rfl (tlt q).1 h3 h4 k
  · exact (h2 q en p e s m args below meth c T locs r X K hz hF hR hL).pre (fun _ q => q) fun t k => XS.icmpNo X.here K.1 rfl (hb K.by hd) rfl (flt q).1 k
theorem Wk.if_lt {x : Int32} {o : Int} {pt : Nat} (hd : InsB md pc (.ifCond .lt o) 3 pc' o pt) (h1 : x < 0 → Wk l Z M md pt L S w cu su Q) (h2 : ¬ x < 0 → Wk l Z M md pc' L S w cu su Q) : Wk l Z M md pc L (.int x :: S) w cu su Q :=
  fun en p e s m args below meth c T locs r X K hz hF hR hL => by
  obtain ⟨hd, rfl, h3, h4⟩ := hd
  by_cases q : x < 0
  · exact (h1 q en p e s m args below meth c T locs r X K hz hF hR hL).pre (fun _ q => q) fun t k => XS.ifYes X.here K.1 rfl rfl (hb K.by hd) rfl ((if0 _ _).trans (tlt q).1) h3 h4 k
  · exact (h2 q en p e s m args below meth c T locs r X K hz hF hR hL).pre (fun _ q => q) fun t k => XS.ifNo X.here K.1 rfl (hb K.by hd) rfl ((if0 _ _).trans (flt q).1) k
theorem Wk.icmp_ge {x y : Int32} {o : Int} {pt : Nat} (hd : InsB md pc (.if_icmp .ge o) 3 pc' o pt) (h1 : ¬ x < y → Wk l Z M md pt L S w cu su Q) (h2 : x < y → Wk l Z M md pc' L S w cu su Q) : Wk l Z M md pc L (.int y :: .int x :: S) w cu su Q :=
  fun en p e s m args below meth c T locs r X K hz hF hR hL => by
  obtain ⟨hd, rfl, h3, h4⟩ := hd
  by_cases q : x < y
  · exact (h2 q en p e s m args below meth c T locs r X K hz hF hR hL).pre (fun _ q => q) fun t k => XS.icmpNo X.here K.1 rfl (hb K.by hd) rfl (tlt q).2.1 k
  · exact (h1 q en p e s m args below meth c T locs r X K hz hF hR hL).pre (fun _ q => q) fun t k => XS.icmpYes X.here K.1 rfl rfl (hb K.by hd) rfl (flt q).2.1 h3 h4 k
theorem Wk.if_ge {x : Int32} {o : Int} {pt : Nat} (hd : InsB md pc (.ifCond .ge o) 3 pc' o pt) (h1 : ¬ x < 0 → Wk l Z M md pt L S w cu su Q) (h2 : x < 0 → Wk l Z M md pc' L S w cu su Q) : Wk l Z M md pc L (.int x :: S) w cu su Q :=
  fun en p e s m args below meth c T locs r X K hz hF hR hL => by
  obtain ⟨hd, rfl, h3, h4⟩ := hd
  by_cases q : x < 0
  · exact (h2 q en p e s m args below meth c T locs r X K hz hF hR hL).pre (fun _ q => q) fun t k => XS.ifNo X.here K.1 rfl (hb K.by hd) rfl ((if0 _ _).trans (tlt q).2.1) k
  · exact (h1 q en p e s m args below meth c T locs r X K hz hF hR hL).pre (fun _ q => q) fun t k => XS.ifYes X.here K.1 rfl rfl (hb K.by hd) rfl ((if0 _ _).trans (flt q).2.1) h3 h4 k
theorem Wk.icmp_gt {x y : Int32} {o : Int} {pt : Nat} (hd : InsB md pc (.if_icmp .gt o) 3 pc' o pt) (h1 : y < x → Wk l Z M md pt L S w cu su Q) (h2 : ¬ y < x → Wk l Z M md pc' L S w cu su Q) : Wk l Z M md pc L (.int y :: .int x :: S) w cu su Q :=
  fun en p e s m args below meth c T locs r X K hz hF hR hL => by
  obtain ⟨hd, rfl, h3, h4⟩ := hd
  by_cases q : y < x
  · exact (h1 q en p e s m args below meth c T locs r X K hz hF hR hL).pre (fun _ q => q) fun t k => XS.icmpYes X.here K.1 rfl rfl (hb K.by hd) rfl (tlt q).2.2.1 h3 h4 k
  · exact (h2 q en p e s m args below meth c T locs r X K hz hF hR hL).pre (fun _ q => q) fun t k => XS.icmpNo X.here K.1 rfl (hb K.by hd) rfl (flt q).2.2.1 k
theorem Wk.if_gt {x : Int32} {o : Int} {pt : Nat} (hd : InsB md pc (.ifCond .gt o) 3 pc' o pt) (h1 : 0 < x → Wk l Z M md pt L S w cu su Q) (h2 : ¬ 0 < x → Wk l Z M md pc' L S w cu su Q) : Wk l Z M md pc L (.int x :: S) w cu su Q :=
  fun en p e s m args below meth c T locs r X K hz hF hR hL => by
  obtain ⟨hd, rfl, h3, h4⟩ := hd
  by_cases q : 0 < x
  · exact (h1 q en p e s m args below meth c T locs r X K hz hF hR hL).pre (fun _ q => q) fun t k => XS.ifYes X.here K.1 rfl rfl (hb K.by hd) rfl ((if0 _ _).trans (tlt q).2.2.1) h3 h4 k
  · exact (h2 q en p e s m args below meth c T locs r X K hz hF hR hL).pre (fun _ q => q) fun t k => XS.ifNo X.here K.1 rfl (hb K.by hd) rfl ((if0 _ _).trans (flt q).2.2.1) k
theorem Wk.icmp_le {x y : Int32} {o : Int} {pt : Nat} (hd : InsB md pc (.if_icmp .le o) 3 pc' o pt) (h1 : ¬ y < x → Wk l Z M md pt L S w cu su Q) (h2 : y < x → Wk l Z M md pc' L S w cu su Q) : Wk l Z M md pc L (.int y :: .int x :: S) w cu su Q :=
  fun en p e s m args below meth c T locs r X K hz hF hR hL => by
  obtain ⟨hd, rfl, h3, h4⟩ := hd
  by_cases q : y < x
  · exact (h2 q en p e s m args below meth c T locs r X K hz hF hR hL).pre (fun _ q => q) fun t k => XS.icmpNo X.here K.1 rfl (hb K.by hd) rfl (tlt q).2.2.2 k
  · exact (h1 q en p e s m args below meth c T locs r X K hz hF hR hL).pre (fun _ q => q) fun t k => XS.icmpYes X.here K.1 rfl rfl (hb K.by hd) rfl (flt q).2.2.2 h3 h4 k
theorem Wk.if_le {x : Int32} {o : Int} {pt : Nat} (hd : InsB md pc (.ifCond .le o) 3 pc' o pt) (h1 : ¬ 0 < x → Wk l Z M md pt L S w cu su Q) (h2 : 0 < x → Wk l Z M md pc' L S w cu su Q) : Wk l Z M md pc L (.int x :: S) w cu su Q :=
  fun en p e s m args below meth c T locs r X K hz hF hR hL => by
  obtain ⟨hd, rfl, h3, h4⟩ := hd
  by_cases q : 0 < x
  · exact (h2 q en p e s m args below meth c T locs r X K hz hF hR hL).pre (fun _ q => q) fun t k => XS.ifNo X.here K.1 rfl (hb K.by hd) rfl ((if0 _ _).trans (tlt q).2.2.2) k
  · exact (h1 q en p e s m args below meth c T locs r X K hz hF hR hL).pre (fun _ q => q) fun t k => XS.ifYes X.here K.1 rfl rfl (hb K.by hd) rfl ((if0 _ _).trans (flt q).2.2.2) h3 h4 k
theorem Wk.icmp_eq {x y : Int32} {o : Int} {pt : Nat} (hd : InsB md pc (.if_icmp .eq o) 3 pc' o pt) (h1 : x = y → Wk l Z M md pt L S w cu su Q) (h2 : ¬ x = y → Wk l Z M md pc' L S w cu su Q) : Wk l Z M md pc L (.int y :: .int x :: S) w cu su Q :=
  fun en p e s m args below meth c T locs r X K hz hF hR hL => by
  obtain ⟨hd, rfl, h3, h4⟩ := hd
  by_cases q : x = y
  · exact (h1 q en p e s m args below meth c T locs r X K hz hF hR hL).pre (fun _ q => q) fun t k => XS.icmpYes X.here K.1 rfl rfl (hb K.by hd) rfl (teq q).1 h3 h4 k
  · exact (h2 q en p e s m args below meth c T locs r X K hz hF hR hL).pre (fun _ q => q) fun t k => XS.icmpNo X.here K.1 rfl (hb K.by hd) rfl (feq q).1 k
theorem Wk.if_eq {x : Int32} {o : Int} {pt : Nat} (hd : InsB md pc (.ifCond .eq o) 3 pc' o pt) (h1 : x = 0 → Wk l Z M md pt L S w cu su Q) (h2 : ¬ x = 0 → Wk l Z M md pc' L S w cu su Q) : Wk l Z M md pc L (.int x :: S) w cu su Q :=
  fun en p e s m args below meth c T locs r X K hz hF hR hL => by
  obtain ⟨hd, rfl, h3, h4⟩ := hd
  by_cases q : x = 0
  · exact (h1 q en p e s m args below meth c T locs r X K hz hF hR hL).pre (fun _ q => q) fun t k => XS.ifYes X.here K.1 rfl rfl (hb K.by hd) rfl ((if0 _ _).trans (teq q).1) h3 h4 k
  · exact (h2 q en p e s m args below meth c T locs r X K hz hF hR hL).pre (fun _ q => q) fun t k => XS.ifNo X.here K.1 rfl (hb K.by hd) rfl ((if0 _ _).trans (feq q).1) k
theorem Wk.icmp_ne {x y : Int32} {o : Int} {pt : Nat} (hd : InsB md pc (.if_icmp .ne o) 3 pc' o pt) (h1 : ¬ x = y → Wk l Z M md pt L S w cu su Q) (h2 : x = y → Wk l Z M md pc' L S w cu su Q) : Wk l Z M md pc L (.int y :: .int x :: S) w cu su Q :=
  fun en p e s m args below meth c T locs r X K hz hF hR hL => by
  obtain ⟨hd, rfl, h3, h4⟩ := hd
  by_cases q : x = y
  · exact (h2 q en p e s m args below meth c T locs r X K hz hF hR hL).pre (fun _ q => q) fun t k => XS.icmpNo X.here K.1 rfl (hb K.by hd) rfl (teq q).2 k
  · exact (h1 q en p e s m args below meth c T locs r X K hz hF hR hL).pre (fun _ q => q) fun t k => XS.icmpYes X.here K.1 rfl rfl (hb K.by hd) rfl (feq q).2 h3 h4 k
theorem Wk.if_ne {x : Int32} {o : Int} {pt : Nat} (hd : InsB md pc (.ifCond .ne o) 3 pc' o pt) (h1 : ¬ x = 0 → Wk l Z M md pt L S w cu su Q) (h2 : x = 0 → Wk l Z M md pc' L S w cu su Q) : Wk l Z M md pc L (.int x :: S) w cu su Q :=
  fun en p e s m args below meth c T locs r X K hz hF hR hL => by
  obtain ⟨hd, rfl, h3, h4⟩ := hd
  by_cases q : x = 0
  · exact (h2 q en p e s m args below meth c T locs r X K hz hF hR hL).pre (fun _ q => q) fun t k => XS.ifNo X.here K.1 rfl (hb K.by hd) rfl ((if0 _ _).trans (teq q).2) k
  · exact (h1 q en p e s m args below meth c T locs r X K hz hF hR hL).pre (fun _ q => q) fun t k => XS.ifYes X.here K.1 rfl rfl (hb K.by hd) rfl ((if0 _ _).trans (feq q).2) h3 h4 k
theorem Wk.tswIn {dflt low high o : Int} {offs : Array Int} {len pt : Nat} {x z : Int32} (hd : InsB md pc (.tableswitch dflt low high offs) len pc' o pt) (hx : x = z) (hin : ¬ (z.toInt < low ∨ z.toInt > high)) (hoff : offs[(z.toInt - low).toNat]? = some o) (h : Wk l Z M md pt L S w cu su Q) : Wk l Z M md pc L (.int x :: S) w cu su Q :=
  fun en p e s m args below meth c T locs r X K hz hF hR hL => by
  obtain ⟨hd, rfl, h3, h4⟩ := hd
  subst hx
  exact (h en p e s m args below meth c T locs r X K hz hF hR hL).pre (fun _ q => q) fun t k => XS.tswIn X.here K.1 rfl rfl (hb K.by hd) rfl hin hoff h3 h4 k
theorem Wk.tswOut {dflt low high : Int} {offs : Array Int} {len pt : Nat} {x : Int32} (hd : InsB md pc (.tableswitch dflt low high offs) len pc' dflt pt) (hout : x.toInt < low ∨ x.toInt > high) (h : Wk l Z M md pt L S w cu su Q) : Wk l Z M md pc L (.int x :: S) w cu su Q :=
  fun en p e s m args below meth c T locs r X K hz hF hR hL => by
  obtain ⟨hd, rfl, h3, h4⟩ := hd
  exact (h en p e s m args below meth c T locs r X K hz hF hR hL).pre (fun _ q => q) fun t k => XS.tswOut X.here K.1 rfl rfl (hb K.by hd) rfl hout h3 h4 k
theorem Wk.ldc {idx : Nat} {z : Int32} {a0 : Array Value} (hd : InsA md pc (.ldc idx) 2 pc') (wd : (Cond.constant M.own idx z).before a0 Z = true) (h : Wk l Z M md pc' L (.int z :: S) w cu su Q) : Wk l Z M md pc L S w cu su Q :=
  fun en p e s m args below meth c T locs r X K hz hF hR hL => by
  obtain ⟨hd, rfl⟩ := hd
  have hc : (Cond.constant M.own idx z).before args s = true := mvT K.2.1 wd
  exact (h en p e s m args below meth c T locs r X K hz hF hR hL).pre (fun _ q => q) fun t k => X.ldcInt K.1 K.2.2.1 hc (g := mkF m pc r (S.map (rv (M.rho en)))) rfl (hb K.by hd) t k
theorem Wk.ldcw {idx : Nat} {z : Int32} {a0 : Array Value} (hd : InsA md pc (.ldc_w idx) 3 pc') (wd : (Cond.constant M.own idx z).before a0 Z = true) (h : Wk l Z M md pc' L (.int z :: S) w cu su Q) : Wk l Z M md pc L S w cu su Q :=
  fun en p e s m args below meth c T locs r X K hz hF hR hL => by
  obtain ⟨hd, rfl⟩ := hd
  have hc : (Cond.constant M.own idx z).before args s = true := mvT K.2.1 wd
  exact (h en p e s m args below meth c T locs r X K hz hF hR hL).pre (fun _ q => q) fun t k => X.ldcwInt K.1 K.2.2.1 hc (g := mkF m pc r (S.map (rv (M.rho en)))) rfl (hb K.by hd) t k
theorem Wk.ldc2 {idx : Nat} {z : Int64} {a0 : Array Value} (hd : InsA md pc (.ldc2_w idx) 3 pc') (wd : (Cond.constantLong M.own idx z).before a0 Z = true) (h : Wk l Z M md pc' L (.long z :: S) w cu su Q) : Wk l Z M md pc L S w cu su Q :=
  fun en p e s m args below meth c T locs r X K hz hF hR hL => by
  obtain ⟨hd, rfl⟩ := hd
  have hc : (Cond.constantLong M.own idx z).before args s = true := mvT K.2.1 wd
  exact (h en p e s m args below meth c T locs r X K hz hF hR hL).pre (fun _ q => q) fun t k => X.ldc2Long K.1 K.2.2.1 hc (g := mkF m pc r (S.map (rv (M.rho en)))) rfl (hb K.by hd) t k
/-! returns -/
theorem Wk.ireturn {x : Int32} (hM : ∀ en h, M.frm en h h) (hret : rtOf md = some .int) (hd : InsA md pc .ireturn 1 pc') (hc : cu = exOf md) (hc2 : exOf md ≤ (rmOf md).cells) (hs : su ≤ (rmOf md).slots) (hq : Q (some (.int x)) w) : Wk l Z M md pc L (.int x :: S) w cu su Q :=
  fun en p e s m args below meth c T locs r X K hz hF hR hL => by
  subst hc
  have hr := K.2.2.2.2.1.trans hret
  exact ⟨T, locs, su, _, w, X, hc2, hs, hz, hF, hR, hM _ _, fun q => (by rw [hr] at q; cases q), fun ρ y e => (by cases e; rfl), hq, fun fs hf => retI X K.1 hr (hb K.by hd.1) hf⟩
theorem Wk.zreturn {x y : Int32} (hM : ∀ en h, M.frm en h h) (hret : rtOf md = some .boolean) (hd : InsA md pc .ireturn 1 pc') (hc : cu = exOf md) (hc2 : exOf md ≤ (rmOf md).cells) (hs : su ≤ (rmOf md).slots) (hy : nar .boolean x = y) (hq : Q (some (.int y)) w) : Wk l Z M md pc L (.int x :: S) w cu su Q :=
  fun en p e s m args below meth c T locs r X K hz hF hR hL => by
  subst hc hy
  have hr := K.2.2.2.2.1.trans hret
  exact ⟨T, locs, su, _, w, X, hc2, hs, hz, hF, hR, hM _ _, fun q => (by rw [hr] at q; cases q), fun ρ y e => (by cases e; rfl), hq, fun fs hf => retN X K.1 (t := .boolean) hr (by simp) (hb K.by hd.1) hf⟩
theorem Wk.lreturn {x : Int64} (hM : ∀ en h, M.frm en h h) (hret : rtOf md = some .long) (hd : InsA md pc .lreturn 1 pc') (hc : cu = exOf md) (hc2 : exOf md ≤ (rmOf md).cells) (hs : su ≤ (rmOf md).slots) (hq : Q (some (.long x)) w) : Wk l Z M md pc L [.long x] w cu su Q :=
  fun en p e s m args below meth c T locs r X K hz hF hR hL => by
  subst hc
  have hr := K.2.2.2.2.1.trans hret
  exact ⟨T, locs, su, _, w, X, hc2, hs, hz, hF, hR, hM _ _, fun q => (by rw [hr] at q; cases q), fun ρ y e => (by cases e; rfl), hq, fun fs hf => X.lreturnOut K.1 hr (hb K.by hd.1) hf⟩
theorem Wk.ret (hM : ∀ en h, M.frm en h h) (hret : rtOf md = none) (hd : InsA md pc .return_ 1 pc') (hc : cu = exOf md) (hc2 : exOf md ≤ (rmOf md).cells) (hs : su ≤ (rmOf md).slots) (hq : Q none w) : Wk l Z M md pc L [] w cu su Q :=
  fun en p e s m args below meth c T locs r X K hz hF hR hL => by
  subst hc
  have hr := K.2.2.2.2.1.trans hret
  exact ⟨T, locs, su, none, w, X, hc2, hs, hz, hF, hR, hM _ _, fun _ => rfl, fun ρ y e => (by cases e), hq, fun fs hf => X.returnOut K.1 hr (hb K.by hd.1) hf⟩
/-! a walk from the entry is a contract -/
theorem Wk.met (h : Wk l Z M md 0 L [] w 0 0 Q) (hp : plainName (nmOf md).cls = true) (ho : M.own = (nmOf md).cls) {en : E} {h0 : Heap} (hR : M.rel en w h0) (as : List Value) (hL : (argsToLocals as.toArray (mxOf md)).toList = L) (hw : wfL L = true) (ws : List Jvm.Cond) :
    MetFree l (nmOf md) (head1 (Jvm.Cond.code (nmOf md) (byOf md) (mxOf md) (rtOf md) :: ws) (rmOf md)) (fun a U => a = (as.map (rv (M.rho en))).toArray ∧ Z.Warmed39 U.vm ∧ U.heap = h0) (fun _ _ _ _ _ => True)
      (fun _ U o U' => ∃ v Lc, o = .returned v ∧ (∃ w', Q v w' ∧ M.rel en w' U'.heap ∧ M.frm en h0 U'.heap ∧ Fr (M.lo en) Lc ∧ U'.heap.size = h0.size + exOf md ∧ ∀ ρ x, v = some x → rv ρ x = x) ∧ FrameEnd U o U' Lc (rmOf md).cells (rmOf md).slots) := by
  refine MetFree.of_bodySF (plainFor_of_name hp) hisR ?_
  intro p e s m args below meth c s₁ Bd hml0 hP hK
  obtain ⟨rfl, hZ, hh⟩ := hP
  have hown : s.vm.findClass (nmOf md).cls = some m.cls := findClass_of_methodNamed Bd.named
  have hnm := (name_of_methodNamed Bd.named Bd.method).1
  have X0 : Stand p l e (rmOf md) s m (as.map (rv (M.rho en))).toArray below meth c s₁ [] 0 0 := Stand.of_body Bd
  have e0 : s₁.heap = s.heap := by rw [Bd.state]; rfl
  subst hh
  obtain ⟨T', locs', su', v, w', a1, a2, a3, a4, a5, a6, a7, a8, a9, a10, a11⟩ := h en p e s m _ below meth c s₁ [] _ X0 ⟨Bd.exec, hZ, by rw [ho]; exact hown, hnm, Bd.returns, BodyLoose.notSynchronized Bd, Bd.bytes, hml0⟩ (by rw [e0]; rfl) (Fr.nil _) (by rw [e0]; exact hR) (SR.entry (M.rho en) as (mxOf md) hL hw)
  obtain ⟨fs, hr, hrun, hended, hW, hsame⟩ := a1.leave (v := v) a8 (BodyLoose.notSynchronized Bd)
  rw [e0] at a7
  exact ⟨_, _, a11 fs hr, hrun, hended, v, locs', rfl, ⟨w', a10, a6, a7, a5, a4, a9⟩, ⟨_, rfl⟩, hW, hsame.mono a2 a3⟩
end Steps
end Jvm.Own

namespace Jvm.Own
open Jvm Jvm.ClassFile Sem Op Lib Jvm.Free Jvm.Stand Jvm.LawKit Jvm.RoadKit
/-! ## 3. One object of the project's class, with its arrays behind it -/
/-- how many arrays are made; the ints; the longs; the arrays of ints (and booleans); of longs -/
abbrev WO : Type := Nat × (Nat → Int32) × (Nat → Int64) × (Nat → Int32 → Int32) × (Nat → Int32 → Int64)
/-- the class; its fields of ints and booleans (number, name, descriptor); of longs; of arrays, in the order in which they are made -/
abbrev CD : Type := String × List (Nat × String × String) × List (Nat × String) × List (Nat × String × String × FieldType × Int32)
def ups {κ α : Type} [DecidableEq κ] (f : κ → α) (i : κ) (x : α) : κ → α := fun k => if k = i then x else f k
theorem ups_at {κ α : Type} [DecidableEq κ] (f : κ → α) (i : κ) (x : α) : ups f i x i = x := by simp [ups]
theorem ups_ne {κ α : Type} [DecidableEq κ] (f : κ → α) {i k : κ} (x : α) (h : k ≠ i) : ups f i x k = f k := by simp [ups, h]
def el : FieldType → Int32 → Int64 → Value
  | .long, _, j => .long j
  | _, i, _ => .int i
theorem el_int {ty : FieldType} (h : ty ≠ .long) (i : Int32) (j : Int64) : el ty i j = .int i := by cases ty <;> first | rfl | exact absurd rfl h
def AtA (Z : State) (h : Heap) (b : Addr) (ty : FieldType) (n : Int32) (f : Int32 → Int32) (g : Int32 → Int64) : Prop :=
  ∃ cl, Arr Z h b cl ty ∧ cl.slots.size = n.toNatClampNeg ∧ ∀ x : Int32, ¬ x < 0 → x < n → cl.slots[x.toNatClampNeg]? = some (el ty (f x) (g x))
def relC (Z : State) (cd : CD) (en : Nat × Nat) (w : WO) (h : Heap) : Prop :=
  en.2 ≤ en.1 ∧ Exa Z h en.1 cd.1 ∧ (∀ t ∈ cd.2.1, Fld Z h en.1 cd.1 t.2.1 t.2.2 (.int (w.2.1 t.1))) ∧ (∀ t ∈ cd.2.2.1, Fld Z h en.1 cd.1 t.2 "J" (.long (w.2.2.1 t.1))) ∧
  (∀ t ∈ cd.2.2.2, (t.1 < w.1 → Fld Z h en.1 cd.1 t.2.1 t.2.2.1 (.ref (en.1 + (t.1 + 1))) ∧ AtA Z h (en.1 + (t.1 + 1)) t.2.2.2.1 t.2.2.2.2 (w.2.2.2.1 t.1) (w.2.2.2.2 t.1)) ∧ (¬ t.1 < w.1 → Fld Z h en.1 cd.1 t.2.1 t.2.2.1 .null)) ∧
  (w.1 < cd.2.2.2.length → h.size = en.1 + 1 + w.1)
def frmC (cd : CD) (en : Nat × Nat) (h h' : Heap) : Prop := h.size ≤ h'.size ∧ ∀ (x : Nat) (c : Cell), h[x]? = some c → (x < en.1 ∨ en.1 + cd.2.2.2.length < x) → h'[x]? = some c
abbrev MoC (Z : State) (cd : CD) : Mode WO (Nat × Nat) := (cd.1, fun en k => en.1 + k, fun en => en.2, relC Z cd, frmC cd)
theorem nn {a b : Nat} (h : a ≠ b) : @Ne Addr a b := h
theorem frmC.refl (cd : CD) (en : Nat × Nat) (h : Heap) : frmC cd en h h := ⟨Nat.le_refl _, fun _ _ q _ => q⟩
theorem frmC.trans {cd : CD} {en : Nat × Nat} {h1 h2 h3 : Heap} (a : frmC cd en h1 h2) (b : frmC cd en h2 h3) : frmC cd en h1 h3 := ⟨Nat.le_trans a.1 b.1, fun x c q r => b.2 x c (a.2 x c q r) r⟩
theorem frmC.wr {cd : CD} {en : Nat × Nat} {h h' : Heap} {b : Nat} {sl : Nat} {v : Value} (W : Wr h h' b sl v) (h1 : en.1 ≤ b) (h2 : b ≤ en.1 + cd.2.2.2.length) : frmC cd en h h' := by
  refine ⟨Nat.le_of_eq W.size.symm, fun x c q r => ?_⟩
  obtain ⟨c', e1, -, -, -, e5, -⟩ := wr_at W q
  rw [← e5 (nn (by omega))]; exact e1
theorem frmC.ext {cd : CD} {en : Nat × Nat} {h h' : Heap} (E : Ext h h') : frmC cd en h h' := ⟨E.1, fun x c q _ => E.2 x c q⟩
def okC (cd : CD) : Prop :=
  (∀ t ∈ cd.2.1, ∀ t' ∈ cd.2.1, (t.1 = t'.1 → t = t') ∧ (t.1 ≠ t'.1 → t.2.1 ≠ t'.2.1)) ∧ (∀ t ∈ cd.2.2.1, ∀ t' ∈ cd.2.2.1, (t.1 = t'.1 → t = t') ∧ (t.1 ≠ t'.1 → t.2 ≠ t'.2)) ∧ (∀ t ∈ cd.2.2.2, ∀ t' ∈ cd.2.2.2, (t.1 = t'.1 → t = t') ∧ (t.1 ≠ t'.1 → t.2.1 ≠ t'.2.1)) ∧
  (∀ t ∈ cd.2.1, ∀ t' ∈ cd.2.2.1, t.2.1 ≠ t'.2) ∧ (∀ t ∈ cd.2.1, ∀ t' ∈ cd.2.2.2, t.2.1 ≠ t'.2.1) ∧ (∀ t ∈ cd.2.2.1, ∀ t' ∈ cd.2.2.2, t.2 ≠ t'.2.1) ∧
  (∀ t ∈ cd.2.1, parseFieldDescriptor t.2.2 = some .int ∨ parseFieldDescriptor t.2.2 = some .boolean) ∧
  (∀ t ∈ cd.2.2.2, parseFieldDescriptor t.2.2.1 = some (.array t.2.2.2.1) ∧ t.1 < cd.2.2.2.length ∧ (t.2.2.2.1 = .int ∨ t.2.2.2.1 = .boolean ∨ t.2.2.2.1 = .long) ∧ ¬ t.2.2.2.2 < 0)
/-- what the words say of the class -/
def CO (Z : State) (a0 : Array Value) (cd : CD) : Prop :=
  (∃ kk, (Cond.instantiable cd.1 kk).before a0 Z = true) ∧ (∀ t ∈ cd.2.1, Laid Z a0 cd.1 cd.1 t.2.1 t.2.2) ∧ (∀ t ∈ cd.2.2.1, Laid Z a0 cd.1 cd.1 t.2 "J") ∧ (∀ t ∈ cd.2.2.2, Laid Z a0 cd.1 cd.1 t.2.1 t.2.2.1) ∧ okC cd
theorem pJ : parseFieldDescriptor "J" = some .long := by decide +kernel
theorem snJ {Z : State} {a0 : Array Value} {C n n' d' : String} {t' : FieldType} (L : Laid Z a0 C C n "J") (L' : Laid Z a0 C C n' d') (hn : n ≠ n') (ht' : parseFieldDescriptor d' = some t') : Jvm.RoadKit.slotOf Z C n "J" ≠ Jvm.RoadKit.slotOf Z C n' d' := by
  have p := pJ
  generalize "J" = q at *
  exact slot_ne L L' hn p ht'
section Rel
variable {Z : State} {a0 : Array Value} {cd : CD} {en : Nat × Nat} {h h' : Heap} {k : Nat} {F : Nat → Int32} {G : Nat → Int64} {A : Nat → Int32 → Int32} {B : Nat → Int32 → Int64}
theorem pI (ok : CO Z a0 cd) {t : Nat × String × String} (ht : t ∈ cd.2.1) : ∃ ty, parseFieldDescriptor t.2.2 = some ty := by
  rcases ok.2.2.2.2.2.2.2.2.2.2.1 t ht with q | q <;> exact ⟨_, q⟩
theorem AtA.other {b b' : Addr} {ty : FieldType} {n : Int32} {f : Int32 → Int32} {g : Int32 → Int64} {sl : Nat} {v : Value} (W : Wr h h' b sl v) (H : AtA Z h b' ty n f g) (hne : b' ≠ b) : AtA Z h' b' ty n f g := by
  obtain ⟨cl, h1, h2, h3⟩ := H
  exact ⟨cl, h1.other W hne, h2, h3⟩
theorem AtA.ext {b' : Addr} {ty : FieldType} {n : Int32} {f : Int32 → Int32} {g : Int32 → Int64} (E : Ext h h') (H : AtA Z h b' ty n f g) : AtA Z h' b' ty n f g := by
  obtain ⟨cl, h1, h2, h3⟩ := H
  exact ⟨cl, h1.ext E, h2, h3⟩
theorem clamp_lt {x n : Int32} (h0 : ¬ x < 0) (h1 : x < n) : x.toNatClampNeg < n.toNatClampNeg := by
  simp only [Int32.lt_iff_toInt_lt, Int32.reduceToInt, Int32.toNatClampNeg] at *
  omega
theorem in_of {x n : Int32} {cl : Cell} (h2 : cl.slots.size = n.toNatClampNeg) (h0 : ¬ x < 0) (h1 : x < n) : ¬ (x < 0 ∨ cl.slots.size ≤ x.toNatClampNeg) := by
  have := clamp_lt h0 h1
  rintro (q | q)
  · exact h0 q
  · omega
theorem AtA.stI {b : Addr} {ty : FieldType} {n : Int32} {f : Int32 → Int32} {g : Int32 → Int64} {j x : Int32} (hty : ty ≠ .long) (h0 : ¬ j < 0) (h1 : j < n) (W : Wr h h' b j.toNatClampNeg (.int x)) (H : AtA Z h b ty n f g) : AtA Z h' b ty n (ups f j x) g := by
  obtain ⟨cl, g1, g2, g3⟩ := H
  refine ⟨_, g1.same W, by rw [sz_set]; exact g2, fun y y0 y1 => ?_⟩
  by_cases e : y = j
  · rw [get_hit (in_of g2 h0 h1) e, e, ups_at, el_int hty]
  · rw [get_miss h0 y0 e, ups_ne _ _ e]; exact g3 y y0 y1
theorem AtA.stJ {b : Addr} {n : Int32} {f : Int32 → Int32} {g : Int32 → Int64} {j : Int32} {x : Int64} (h0 : ¬ j < 0) (h1 : j < n) (W : Wr h h' b j.toNatClampNeg (.long x)) (H : AtA Z h b .long n f g) : AtA Z h' b .long n f (ups g j x) := by
  obtain ⟨cl, g1, g2, g3⟩ := H
  refine ⟨_, g1.same W, by rw [sz_set]; exact g2, fun y y0 y1 => ?_⟩
  by_cases e : y = j
  · rw [get_hit (in_of g2 h0 h1) e, e, ups_at]; rfl
  · rw [get_miss h0 y0 e, ups_ne _ _ e]; exact g3 y y0 y1
theorem relC.putI (ok : CO Z a0 cd) {i : Nat} {n d : String} {x : Int32} (hR : relC Z cd en (k, F, G, A, B) h) (ht : (i, n, d) ∈ cd.2.1) (W : Wr h h' en.1 (Jvm.RoadKit.slotOf Z cd.1 n d) (.int x)) : relC Z cd en (k, ups F i x, G, A, B) h' := by
  obtain ⟨r1, r2, r3, r4, r5, r6⟩ := hR
  obtain ⟨-, o2, o3, o4, q1, q2, q3, q4, q5, q6, q7, q8⟩ := ok
  obtain ⟨ty0, p0⟩ : ∃ ty, parseFieldDescriptor d = some ty := by rcases q7 _ ht with q | q <;> exact ⟨_, q⟩
  refine ⟨r1, r2.wr W, fun t m => ?_, fun t m => ?_, fun t m => ⟨fun hk => ?_, fun hk => ?_⟩, fun q => ?_⟩
  · obtain ⟨u1, u2⟩ := q1 _ m _ ht
    by_cases e : t.1 = i
    · have e2 := u1 e
      subst e2
      show Fld Z h' en.1 cd.1 n d (.int (ups F i x i))
      rw [ups_at]
      exact (r3 _ ht).same W
    · show Fld Z h' en.1 cd.1 _ _ (.int (ups F i x t.1))
      rw [ups_ne _ _ e]
      obtain ⟨ty1, p1⟩ : ∃ ty, parseFieldDescriptor t.2.2 = some ty := by rcases q7 _ m with q | q <;> exact ⟨_, q⟩
      have z0 := slot_ne (o2 _ m) (o2 _ ht) (u2 e) p1 p0
      exact (r3 t m).other W (Or.inr z0)
  · have e1 := o3 _ m
    have e2 := o2 _ ht
    have e3 := q4 _ ht _ m
    have e4 := snJ e1 e2 (Ne.symm e3) p0
    have e5 := r4 t m
    exact e5.other W (Or.inr e4)
  · obtain ⟨a1, a2⟩ := (r5 t m).1 hk
    have z0 := slot_ne (o4 _ m) (o2 _ ht) (Ne.symm (q5 _ ht _ m)) (q8 _ m).1 p0
    exact ⟨a1.other W (Or.inr z0), a2.other W (nn (by omega))⟩
  · have z0 := slot_ne (o4 _ m) (o2 _ ht) (Ne.symm (q5 _ ht _ m)) (q8 _ m).1 p0
    exact ((r5 t m).2 hk).other W (Or.inr z0)
  · rw [W.size]; exact r6 q
theorem relC.putJ (ok : CO Z a0 cd) {i : Nat} {n : String} {x : Int64} (hR : relC Z cd en (k, F, G, A, B) h) (ht : (i, n) ∈ cd.2.2.1) (W : Wr h h' en.1 (Jvm.RoadKit.slotOf Z cd.1 n "J") (.long x)) : relC Z cd en (k, F, ups G i x, A, B) h' := by
  obtain ⟨r1, r2, r3, r4, r5, r6⟩ := hR
  obtain ⟨-, o2, o3, o4, q1, q2, q3, q4, q5, q6, q7, q8⟩ := ok
  refine ⟨r1, r2.wr W, fun t m => ?_, fun t m => ?_, fun t m => ⟨fun hk => ?_, fun hk => ?_⟩, fun q => ?_⟩
  · obtain ⟨ty1, p1⟩ : ∃ ty, parseFieldDescriptor t.2.2 = some ty := by rcases q7 _ m with q | q <;> exact ⟨_, q⟩
    have z0 := Ne.symm (snJ (o3 _ ht) (o2 _ m) (Ne.symm (q4 _ m _ ht)) p1)
    exact (r3 t m).other W (Or.inr z0)
  · obtain ⟨u1, u2⟩ := q2 _ m _ ht
    by_cases e : t.1 = i
    · have e2 := u1 e
      subst e2
      show Fld Z h' en.1 cd.1 n "J" (.long (ups G i x i))
      rw [ups_at]
      exact (r4 _ ht).same W
    · show Fld Z h' en.1 cd.1 _ _ (.long (ups G i x t.1))
      rw [ups_ne _ _ e]
      have z0 := snJ (o3 _ m) (o3 _ ht) (u2 e) pJ
      exact (r4 t m).other W (Or.inr z0)
  · obtain ⟨a1, a2⟩ := (r5 t m).1 hk
    have z0 := Ne.symm (snJ (o3 _ ht) (o4 _ m) (q6 _ ht _ m) (q8 _ m).1)
    exact ⟨a1.other W (Or.inr z0), a2.other W (nn (by omega))⟩
  · have z0 := Ne.symm (snJ (o3 _ ht) (o4 _ m) (q6 _ ht _ m) (q8 _ m).1)
    exact ((r5 t m).2 hk).other W (Or.inr z0)
  · rw [W.size]; exact r6 q
theorem relC.stI (ok : CO Z a0 cd) {i : Nat} {n d : String} {ty : FieldType} {len j x : Int32} (hty : ty ≠ .long) (h0 : ¬ j < 0) (h1 : j < len) (hR : relC Z cd en (k, F, G, A, B) h) (ht : (i, n, d, ty, len) ∈ cd.2.2.2) (W : Wr h h' (en.1 + (i + 1)) j.toNatClampNeg (.int x)) : relC Z cd en (k, F, G, ups A i (ups (A i) j x), B) h' := by
  obtain ⟨r1, r2, r3, r4, r5, r6⟩ := hR
  obtain ⟨-, o2, o3, o4, q1, q2, q3, q4, q5, q6, q7, q8⟩ := ok
  refine ⟨r1, r2.wr W, fun t m => (r3 t m).other W (Or.inl (nn (by omega))), fun t m => (r4 t m).other W (Or.inl (nn (by omega))), fun t m => ⟨fun hk => ?_, fun hk => ((r5 t m).2 hk).other W (Or.inl (nn (by omega)))⟩, fun q => by rw [W.size]; exact r6 q⟩
  obtain ⟨a1, a2⟩ := (r5 t m).1 hk
  refine ⟨a1.other W (Or.inl (nn (by omega))), ?_⟩
  obtain ⟨u1, u2⟩ := q3 _ m _ ht
  show AtA Z h' _ _ _ (ups A i (ups (A i) j x) t.1) (B t.1)
  by_cases e : t.1 = i
  · have e2 := u1 e
    subst e2
    rw [ups_at]
    exact a2.stI hty h0 h1 W
  · rw [ups_ne _ _ e]
    exact a2.other W (nn (by omega))
theorem relC.stJ (ok : CO Z a0 cd) {i : Nat} {n d : String} {len j : Int32} {x : Int64} (h0 : ¬ j < 0) (h1 : j < len) (hR : relC Z cd en (k, F, G, A, B) h) (ht : (i, n, d, .long, len) ∈ cd.2.2.2) (W : Wr h h' (en.1 + (i + 1)) j.toNatClampNeg (.long x)) : relC Z cd en (k, F, G, A, ups B i (ups (B i) j x)) h' := by
  obtain ⟨r1, r2, r3, r4, r5, r6⟩ := hR
  obtain ⟨-, o2, o3, o4, q1, q2, q3, q4, q5, q6, q7, q8⟩ := ok
  refine ⟨r1, r2.wr W, fun t m => (r3 t m).other W (Or.inl (nn (by omega))), fun t m => (r4 t m).other W (Or.inl (nn (by omega))), fun t m => ⟨fun hk => ?_, fun hk => ((r5 t m).2 hk).other W (Or.inl (nn (by omega)))⟩, fun q => by rw [W.size]; exact r6 q⟩
  obtain ⟨a1, a2⟩ := (r5 t m).1 hk
  refine ⟨a1.other W (Or.inl (nn (by omega))), ?_⟩
  obtain ⟨u1, u2⟩ := q3 _ m _ ht
  show AtA Z h' _ _ _ (A t.1) (ups B i (ups (B i) j x) t.1)
  by_cases e : t.1 = i
  · have e2 := u1 e
    subst e2
    rw [ups_at]
    exact a2.stJ h0 h1 W
  · rw [ups_ne _ _ e]
    exact a2.other W (nn (by omega))
theorem relC.newA (ok : CO Z a0 cd) {h1 : Heap} {n d : String} {ty : FieldType} {len : Int32} {cA : ClassId} (hR : relC Z cd en (k, F, G, A, B) h) (ht : (k, n, d, ty, len) ∈ cd.2.2.2) (hA : A k = fun _ => 0) (hB : B k = fun _ => 0) (E : Ext h h1) (N : Arr Z h1 h.size (Jvm.RoadKit.newA cA ty len) ty) (W : Wr h1 h' en.1 (Jvm.RoadKit.slotOf Z cd.1 n d) (.ref h.size)) (hz : h'.size = h.size + 1) : relC Z cd en (k + 1, F, G, A, B) h' := by
  obtain ⟨r1, r2, r3, r4, r5, r6⟩ := hR
  obtain ⟨-, o2, o3, o4, q1, q2, q3, q4, q5, q6, q7, q8⟩ := ok
  have hsz : h.size = en.1 + 1 + k := r6 (q8 _ ht).2.1
  refine ⟨r1, (r2.ext E).wr W, fun t m => ?_, fun t m => ?_, fun t m => ⟨fun hk => ?_, fun hk => ?_⟩, fun q => ?_⟩
  · obtain ⟨ty1, p1⟩ : ∃ ty, parseFieldDescriptor t.2.2 = some ty := by rcases q7 _ m with q | q <;> exact ⟨_, q⟩
    have z0 := slot_ne (o2 _ m) (o4 _ ht) (q5 _ m _ ht) p1 (q8 _ ht).1
    exact ((r3 t m).ext E).other W (Or.inr z0)
  · have z0 := snJ (o3 _ m) (o4 _ ht) (q6 _ m _ ht) (q8 _ ht).1
    exact ((r4 t m).ext E).other W (Or.inr z0)
  · obtain ⟨u1, u2⟩ := q3 _ m _ ht
    by_cases e : t.1 = k
    · have e2 := u1 e
      subst e2
      have f0 := ((r5 _ ht).2 (Nat.lt_irrefl k)).ext E
      refine ⟨?_, ?_⟩
      · have := f0.same W
        rw [hsz] at this
        show Fld Z h' en.1 cd.1 n d (.ref (en.1 + (k + 1)))
        rw [show en.1 + (k + 1) = en.1 + 1 + k by omega]
        exact this
      · show AtA Z h' (en.1 + (k + 1)) ty len (A k) (B k)
        rw [hA, hB, show en.1 + (k + 1) = h.size by omega]
        refine AtA.other W ⟨_, N, sz_new _ _ _, fun x x0 x1 => ?_⟩ (nn (by omega))
        rw [get_new (in_of (cl := Jvm.RoadKit.newA cA ty len) (sz_new _ _ _) x0 x1 |> fun q => by rwa [sz_new] at q)]
        have o := (q8 _ ht).2.2.1
        rcases o with o | o | o <;> (have o' : ty = _ := o; subst o'; rfl)
    · obtain ⟨a1, a2⟩ := (r5 t m).1 (by show t.1 < k; have : t.1 < k + 1 := hk; omega)
      have z0 := slot_ne (o4 _ m) (o4 _ ht) (u2 e) (q8 _ m).1 (q8 _ ht).1
      exact ⟨(a1.ext E).other W (Or.inr z0), (a2.ext E).other W (nn (by omega))⟩
  · obtain ⟨u1, u2⟩ := q3 _ m _ ht
    have hk' : ¬ t.1 < k + 1 := hk
    have z0 := slot_ne (o4 _ m) (o4 _ ht) (u2 (by show t.1 ≠ k; omega)) (q8 _ m).1 (q8 _ ht).1
    exact (((r5 t m).2 (by show ¬ t.1 < k; omega)).ext E).other W (Or.inr z0)
  · show h'.size = en.1 + 1 + (k + 1)
    omega
end Rel
section StepsC
variable {l : Launch} {Z : State} {a0 : Array Value} {cd : CD} {md : MD} {pc pc' pc1 : Nat} {L L' : List Slot} {S : List Value} {k : Nat} {F : Nat → Int32} {G : Nat → Int64} {A : Nat → Int32 → Int32} {B : Nat → Int32 → Int64} {cu su cu' su' : Nat} {Q : Option Value → WO → Prop} {idx : Nat}
theorem Wk.getI {i : Nat} {n d : String} {x : Int32} (ht : (i, n, d) ∈ cd.2.1) (wl : (Cond.fieldLink cd.1 idx cd.1 n d).before a0 Z = true) (hd : InsA md pc (.getfield idx) 3 pc') (hx : F i = x) (h : Wk l Z (MoC Z cd) md pc' L (.int x :: S) (k, F, G, A, B) cu su Q) : Wk l Z (MoC Z cd) md pc L (.ref 0 :: S) (k, F, G, A, B) cu su Q :=
  fun en p e s m args below meth c T locs r X K hz hF hR hL => by
  obtain ⟨hd, rfl⟩ := hd
  subst hx
  obtain ⟨T1, X1, e1, st⟩ := getF X K.1 K.2.1 K.2.2.1 (host := "") (Or.inl wl) Via.refl rfl (hR.2.2.1 _ ht) (g := mkF m pc r (.ref en.1 :: S.map (rv ((MoC Z cd).rho en)))) rfl rfl (hb K.by hd)
  refine (h en p e s m args below meth c T1 locs r X1 K (by rw [e1]; exact hz) hF (by rw [e1]; exact hR) hL).pre (fun _ q => by rw [e1] at q; exact q) fun t q => st t q
theorem Wk.getJ {i : Nat} {n : String} {x : Int64} (ht : (i, n) ∈ cd.2.2.1) (wl : (Cond.fieldLink cd.1 idx cd.1 n "J").before a0 Z = true) (hd : InsA md pc (.getfield idx) 3 pc') (hx : G i = x) (h : Wk l Z (MoC Z cd) md pc' L (.long x :: S) (k, F, G, A, B) cu su Q) : Wk l Z (MoC Z cd) md pc L (.ref 0 :: S) (k, F, G, A, B) cu su Q :=
  fun en p e s m args below meth c T locs r X K hz hF hR hL => by
  obtain ⟨hd, rfl⟩ := hd
  subst hx
  obtain ⟨T1, X1, e1, st⟩ := getF X K.1 K.2.1 K.2.2.1 (host := "") (Or.inl wl) Via.refl rfl (hR.2.2.2.1 _ ht) (g := mkF m pc r (.ref en.1 :: S.map (rv ((MoC Z cd).rho en)))) rfl rfl (hb K.by hd)
  refine (h en p e s m args below meth c T1 locs r X1 K (by rw [e1]; exact hz) hF (by rw [e1]; exact hR) hL).pre (fun _ q => by rw [e1] at q; exact q) fun t q => st t q
theorem Wk.getA {i i' : Nat} {n d : String} {ty : FieldType} {len : Int32} (ht : (i, n, d, ty, len) ∈ cd.2.2.2) (hi : i < k) (hi' : i + 1 = i') (wl : (Cond.fieldLink cd.1 idx cd.1 n d).before a0 Z = true) (hd : InsA md pc (.getfield idx) 3 pc') (h : Wk l Z (MoC Z cd) md pc' L (.ref i' :: S) (k, F, G, A, B) cu su Q) : Wk l Z (MoC Z cd) md pc L (.ref 0 :: S) (k, F, G, A, B) cu su Q :=
  fun en p e s m args below meth c T locs r X K hz hF hR hL => by
  obtain ⟨hd, rfl⟩ := hd
  subst hi'
  obtain ⟨T1, X1, e1, st⟩ := getF X K.1 K.2.1 K.2.2.1 (host := "") (Or.inl wl) Via.refl rfl ((hR.2.2.2.2.1 _ ht).1 hi).1 (g := mkF m pc r (.ref en.1 :: S.map (rv ((MoC Z cd).rho en)))) rfl rfl (hb K.by hd)
  refine (h en p e s m args below meth c T1 locs r X1 K (by rw [e1]; exact hz) hF (by rw [e1]; exact hR) hL).pre (fun _ q => by rw [e1] at q; exact q) fun t q => st t q
theorem Wk.putI (ok : CO Z a0 cd) {i : Nat} {n : String} {x : Int32} (ht : (i, n, "I") ∈ cd.2.1) (wl : (Cond.fieldLink cd.1 idx cd.1 n "I").before a0 Z = true) (wy : (Cond.lays cd.1 cd.1 n "I").before a0 Z = true ∨ ((Cond.laysFinal cd.1 cd.1 n "I").before a0 Z = true ∧ (nmOf md).name = "<init>")) (hd : InsA md pc (.putfield idx) 3 pc') (h : Wk l Z (MoC Z cd) md pc' L S (k, ups F i x, G, A, B) cu su Q) : Wk l Z (MoC Z cd) md pc L (.int x :: .ref 0 :: S) (k, F, G, A, B) cu su Q :=
  fun en p e s m args below meth c T locs r X K hz hF hR hL => by
  obtain ⟨hd, rfl⟩ := hd
  obtain ⟨kk, wi⟩ := ok.1
  obtain ⟨T1, h1, X1, e1, W1, st⟩ := putF X K.1 K.2.1 K.2.2.1 (host := "") (Or.inl wl) Via.refl rfl (hR.2.2.1 _ ht) hR.2.1 (wy.imp id fun q => ⟨q.1, rfl, K.2.2.2.1.trans q.2⟩) wi (ty := .int) (v := .int x) (by decide +kernel) rfl rfl (g := mkF m pc r (.int x :: .ref en.1 :: S.map (rv ((MoC Z cd).rho en)))) rfl rfl (hb K.by hd)
  subst e1
  exact (h en p e s m args below meth c T1 _ r X1 K (by rw [W1.size]; exact hz) (Fr.snoc X1 hF hR.1) (relC.putI ok hR ht W1) hL).pre (fun _ q => (frmC.wr W1 (Nat.le_refl _) (Nat.le_add_right _ _)).trans q) fun t q => st t q
theorem Wk.putZ (ok : CO Z a0 cd) {i : Nat} {n : String} {x y : Int32} (hy : nar .boolean x = y) (ht : (i, n, "Z") ∈ cd.2.1) (wl : (Cond.fieldLink cd.1 idx cd.1 n "Z").before a0 Z = true) (wy : (Cond.lays cd.1 cd.1 n "Z").before a0 Z = true ∨ ((Cond.laysFinal cd.1 cd.1 n "Z").before a0 Z = true ∧ (nmOf md).name = "<init>")) (hd : InsA md pc (.putfield idx) 3 pc') (h : Wk l Z (MoC Z cd) md pc' L S (k, ups F i y, G, A, B) cu su Q) : Wk l Z (MoC Z cd) md pc L (.int x :: .ref 0 :: S) (k, F, G, A, B) cu su Q :=
  fun en p e s m args below meth c T locs r X K hz hF hR hL => by
  obtain ⟨hd, rfl⟩ := hd
  subst hy
  obtain ⟨kk, wi⟩ := ok.1
  obtain ⟨T1, h1, X1, e1, W1, st⟩ := putFN X K.1 K.2.1 K.2.2.1 wl Via.refl rfl (hR.2.2.1 _ ht) hR.2.1 (wy.imp id fun q => ⟨q.1, rfl, K.2.2.2.1.trans q.2⟩) wi (ty := .boolean) (v := .int x) (v' := .int (nar .boolean x)) (by decide +kernel) rfl (fits_nar_bool x) (g := mkF m pc r (.int x :: .ref en.1 :: S.map (rv ((MoC Z cd).rho en)))) rfl rfl (hb K.by hd)
  subst e1
  exact (h en p e s m args below meth c T1 _ r X1 K (by rw [W1.size]; exact hz) (Fr.snoc X1 hF hR.1) (relC.putI ok hR ht W1) hL).pre (fun _ q => (frmC.wr W1 (Nat.le_refl _) (Nat.le_add_right _ _)).trans q) fun t q => st t q
theorem Wk.putJ (ok : CO Z a0 cd) {i : Nat} {n : String} {x : Int64} (ht : (i, n) ∈ cd.2.2.1) (wl : (Cond.fieldLink cd.1 idx cd.1 n "J").before a0 Z = true) (wy : (Cond.lays cd.1 cd.1 n "J").before a0 Z = true ∨ ((Cond.laysFinal cd.1 cd.1 n "J").before a0 Z = true ∧ (nmOf md).name = "<init>")) (hd : InsA md pc (.putfield idx) 3 pc') (h : Wk l Z (MoC Z cd) md pc' L S (k, F, ups G i x, A, B) cu su Q) : Wk l Z (MoC Z cd) md pc L (.long x :: .ref 0 :: S) (k, F, G, A, B) cu su Q :=
  fun en p e s m args below meth c T locs r X K hz hF hR hL => by
  obtain ⟨hd, rfl⟩ := hd
  obtain ⟨kk, wi⟩ := ok.1
  obtain ⟨T1, h1, X1, e1, W1, st⟩ := putF X K.1 K.2.1 K.2.2.1 (host := "") (Or.inl wl) Via.refl rfl (hR.2.2.2.1 _ ht) hR.2.1 (wy.imp id fun q => ⟨q.1, rfl, K.2.2.2.1.trans q.2⟩) wi (ty := .long) (v := .long x) (by decide +kernel) rfl rfl (g := mkF m pc r (.long x :: .ref en.1 :: S.map (rv ((MoC Z cd).rho en)))) rfl rfl (hb K.by hd)
  subst e1
  exact (h en p e s m args below meth c T1 _ r X1 K (by rw [W1.size]; exact hz) (Fr.snoc X1 hF hR.1) (relC.putJ ok hR ht W1) hL).pre (fun _ q => (frmC.wr W1 (Nat.le_refl _) (Nat.le_add_right _ _)).trans q) fun t q => st t q
/-- an array is made and laid into its field at once -/
theorem Wk.newA (ok : CO Z a0 cd) {aty : ArrayType} {len : Int32} {n d : String} {ty : FieldType} {k' : Nat} (hty : newarray.typeOf aty = ty) (wa : (Cond.arrayClass (newarray.typeOf aty)).before a0 Z = true) (ht : (k, n, d, ty, len) ∈ cd.2.2.2) (wl : (Cond.fieldLink cd.1 idx cd.1 n d).before a0 Z = true)
    (wy : (Cond.lays cd.1 cd.1 n d).before a0 Z = true ∨ ((Cond.laysFinal cd.1 cd.1 n d).before a0 Z = true ∧ (nmOf md).name = "<init>")) (hd : InsA md pc (.newarray aty) 2 pc1) (hd2 : InsA md pc1 (.putfield idx) 3 pc') (hA : A k = fun _ => 0) (hB : B k = fun _ => 0) (hk : k + 1 = k') (hcu : cu + 1 = cu') (hsu : su + len.toNatClampNeg = su')
    (hcap : len.toNatClampNeg * 8 ≤ 536870912) (hc : cu' ≤ (rmOf md).cells) (hs : su' ≤ (rmOf md).slots) (h : Wk l Z (MoC Z cd) md pc' L S (k', F, G, A, B) cu' su' Q) : Wk l Z (MoC Z cd) md pc L (.int len :: .ref 0 :: S) (k, F, G, A, B) cu su Q :=
  fun en p e s m args below meth c T locs r X K hz hF hR hL => by
  obtain ⟨hd, rfl⟩ := hd
  obtain ⟨hd2, rfl⟩ := hd2
  subst hk hcu hsu hty
  obtain ⟨kk, wi⟩ := ok.1
  have p8 := ok.2.2.2.2.2.2.2.2.2.2.2 _ ht
  obtain ⟨T1, h1, cA, X1, e1, E1, N1, st1⟩ := newP X K.1 K.2.1 wa rfl (g := mkF m pc r (.int len :: .ref en.1 :: S.map (rv ((MoC Z cd).rho en)))) rfl (hb K.by hd) rfl p8.2.2.2 (cap := len.toNatClampNeg) (Nat.le_refl _) hcap hc hs
  subst e1
  obtain ⟨T2, h2, X2, e2, W2, st2⟩ := putF X1 K.1 K.2.1 K.2.2.1 (host := "") (Or.inl wl) Via.refl rfl (((hR.2.2.2.2.1 _ ht).2 (Nat.lt_irrefl k)).ext E1) (hR.2.1.ext E1) (wy.imp id fun q => ⟨q.1, rfl, K.2.2.2.1.trans q.2⟩) wi (v := .ref T.heap.size) p8.1 rfl rfl (g := mkF m (pc + 2) r (.ref T.heap.size :: .ref en.1 :: S.map (rv ((MoC Z cd).rho en)))) rfl rfl (hb K.by hd2)
  subst e2
  have z1 := X1.heapSize
  have z2 : (T.heap.size : Nat) < T1.heap.size := N1.lt
  have z3 := W2.size
  exact (h en p e s m args below meth c T2 _ r X2 K (by omega) (Fr.snoc X2 hF hR.1) (relC.newA ok hR ht hA hB E1 N1 W2 (by omega)) hL).pre (fun _ q => ((frmC.ext E1).trans (frmC.wr W2 (Nat.le_refl _) (Nat.le_add_right _ _))).trans q) fun t q => st1 t (st2 t q)
theorem relC.arr {en : Nat × Nat} {h : Heap} {i : Nat} {n d : String} {ty : FieldType} {len : Int32} (hR : relC Z cd en (k, F, G, A, B) h) (ht : (i, n, d, ty, len) ∈ cd.2.2.2) (hi : i < k) : AtA Z h (en.1 + (i + 1)) ty len (A i) (B i) := ((hR.2.2.2.2.1 _ ht).1 hi).2
theorem Wk.iaload {i i' : Nat} {n d : String} {len x : Int32} {y : Int32} (ht : (i, n, d, .int, len) ∈ cd.2.2.2) (hi : i < k) (hi' : i + 1 = i') (h0 : ¬ x < 0) (h1 : x < len) (hd : InsA md pc .iaload 1 pc') (hy : A i x = y) (h : Wk l Z (MoC Z cd) md pc' L (.int y :: S) (k, F, G, A, B) cu su Q) : Wk l Z (MoC Z cd) md pc L (.int x :: .ref i' :: S) (k, F, G, A, B) cu su Q :=
  fun en p e s m args below meth c T locs r X K hz hF hR hL => by
  obtain ⟨hd, rfl⟩ := hd
  subst hi' hy
  obtain ⟨cl, g1, g2, g3⟩ := relC.arr hR ht hi
  exact (h en p e s m args below meth c T locs r X K hz hF hR hL).pre (fun _ q => q) fun t q => X.iaload K.1 (j := x) (v := .int (A i x)) g1.1 (State.isArrayOf_alike K.2.1.alike g1.2.1) g1.2.2 (in_of g2 h0 h1) (g3 x h0 h1) (g := mkF m pc r (.int x :: .ref (en.1 + (i + 1)) :: S.map (rv ((MoC Z cd).rho en)))) rfl rfl (hb K.by hd) _ q
theorem Wk.baload {i i' : Nat} {n d : String} {len x : Int32} {y : Int32} (ht : (i, n, d, .boolean, len) ∈ cd.2.2.2) (hi : i < k) (hi' : i + 1 = i') (h0 : ¬ x < 0) (h1 : x < len) (hd : InsA md pc .baload 1 pc') (hy : A i x = y) (h : Wk l Z (MoC Z cd) md pc' L (.int y :: S) (k, F, G, A, B) cu su Q) : Wk l Z (MoC Z cd) md pc L (.int x :: .ref i' :: S) (k, F, G, A, B) cu su Q :=
  fun en p e s m args below meth c T locs r X K hz hF hR hL => by
  obtain ⟨hd, rfl⟩ := hd
  subst hi' hy
  obtain ⟨cl, g1, g2, g3⟩ := relC.arr hR ht hi
  exact (h en p e s m args below meth c T locs r X K hz hF hR hL).pre (fun _ q => q) fun t q => X.baloadBooleans K.1 (j := x) (v := .int (A i x)) g1.1 (State.isArrayOf_alike K.2.1.alike g1.2.1) g1.2.2 (in_of g2 h0 h1) (g3 x h0 h1) (g := mkF m pc r (.int x :: .ref (en.1 + (i + 1)) :: S.map (rv ((MoC Z cd).rho en)))) rfl rfl (hb K.by hd) _ q
theorem Wk.laload {i i' : Nat} {n d : String} {len x : Int32} {y : Int64} (ht : (i, n, d, .long, len) ∈ cd.2.2.2) (hi : i < k) (hi' : i + 1 = i') (h0 : ¬ x < 0) (h1 : x < len) (hd : InsA md pc .laload 1 pc') (hy : B i x = y) (h : Wk l Z (MoC Z cd) md pc' L (.long y :: S) (k, F, G, A, B) cu su Q) : Wk l Z (MoC Z cd) md pc L (.int x :: .ref i' :: S) (k, F, G, A, B) cu su Q :=
  fun en p e s m args below meth c T locs r X K hz hF hR hL => by
  obtain ⟨hd, rfl⟩ := hd
  subst hi' hy
  obtain ⟨cl, g1, g2, g3⟩ := relC.arr hR ht hi
  exact (h en p e s m args below meth c T locs r X K hz hF hR hL).pre (fun _ q => q) fun t q => X.laload K.1 (j := x) (v := .long (B i x)) g1.1 (State.isArrayOf_alike K.2.1.alike g1.2.1) g1.2.2 (in_of g2 h0 h1) (g3 x h0 h1) (g := mkF m pc r (.int x :: .ref (en.1 + (i + 1)) :: S.map (rv ((MoC Z cd).rho en)))) rfl rfl (hb K.by hd) _ q
theorem Wk.iastore (ok : CO Z a0 cd) {f : Int32 → Int32} {i i' : Nat} {n d : String} {len x v : Int32} (ht : (i, n, d, .int, len) ∈ cd.2.2.2) (hf : A i = f) (hi : i < k) (hi' : i + 1 = i') (h0 : ¬ x < 0) (h1 : x < len) (hd : InsA md pc .iastore 1 pc') (h : Wk l Z (MoC Z cd) md pc' L S (k, F, G, ups A i (ups f x v), B) cu su Q) : Wk l Z (MoC Z cd) md pc L (.int v :: .int x :: .ref i' :: S) (k, F, G, A, B) cu su Q :=
  fun en p e s m args below meth c T locs r X K hz hF hR hL => by
  obtain ⟨hd, rfl⟩ := hd
  subst hi' hf
  obtain ⟨cl, g1, g2, g3⟩ := relC.arr hR ht hi
  obtain ⟨T1, e1', X1, e1, W1, st⟩ := stI X K.1 K.2.1 rfl g1 (in_of g2 h0 h1) (g := mkF m pc r (.int v :: .int x :: .ref (en.1 + (i + 1)) :: S.map (rv ((MoC Z cd).rho en)))) rfl rfl (hb K.by hd)
  subst e1
  have p8 := (ok.2.2.2.2.2.2.2.2.2.2.2 _ ht).2.1
  exact (h en p e s m args below meth c T1 _ r X1 K (by rw [W1.size]; exact hz) (Fr.snoc X1 hF (Nat.le_trans hR.1 (Nat.le_add_right _ _))) (relC.stI ok (by decide) h0 h1 hR ht W1) hL).pre (fun _ q => (frmC.wr W1 (Nat.le_add_right _ _) (Nat.add_le_add_left (show i + 1 ≤ cd.2.2.2.length from p8) _)).trans q) fun t q => st t q
theorem Wk.bastore (ok : CO Z a0 cd) {f : Int32 → Int32} {i i' : Nat} {n d : String} {len x v v' : Int32} (hv : nar .boolean v = v') (ht : (i, n, d, .boolean, len) ∈ cd.2.2.2) (hf : A i = f) (hi : i < k) (hi' : i + 1 = i') (h0 : ¬ x < 0) (h1 : x < len) (hd : InsA md pc .bastore 1 pc') (h : Wk l Z (MoC Z cd) md pc' L S (k, F, G, ups A i (ups f x v'), B) cu su Q) : Wk l Z (MoC Z cd) md pc L (.int v :: .int x :: .ref i' :: S) (k, F, G, A, B) cu su Q :=
  fun en p e s m args below meth c T locs r X K hz hF hR hL => by
  obtain ⟨hd, rfl⟩ := hd
  subst hi' hv hf
  obtain ⟨cl, g1, g2, g3⟩ := relC.arr hR ht hi
  obtain ⟨T1, e1', X1, e1, W1, st⟩ := stZ X K.1 K.2.1 rfl g1 (in_of g2 h0 h1) (g := mkF m pc r (.int v :: .int x :: .ref (en.1 + (i + 1)) :: S.map (rv ((MoC Z cd).rho en)))) rfl rfl (hb K.by hd)
  subst e1
  have p8 := (ok.2.2.2.2.2.2.2.2.2.2.2 _ ht).2.1
  exact (h en p e s m args below meth c T1 _ r X1 K (by rw [W1.size]; exact hz) (Fr.snoc X1 hF (Nat.le_trans hR.1 (Nat.le_add_right _ _))) (relC.stI ok (by decide) h0 h1 hR ht W1) hL).pre (fun _ q => (frmC.wr W1 (Nat.le_add_right _ _) (Nat.add_le_add_left (show i + 1 ≤ cd.2.2.2.length from p8) _)).trans q) fun t q => st t q
theorem Wk.lastore (ok : CO Z a0 cd) {f : Int32 → Int64} {i i' : Nat} {n d : String} {len x : Int32} {v : Int64} (ht : (i, n, d, .long, len) ∈ cd.2.2.2) (hf : B i = f) (hi : i < k) (hi' : i + 1 = i') (h0 : ¬ x < 0) (h1 : x < len) (hd : InsA md pc .lastore 1 pc') (h : Wk l Z (MoC Z cd) md pc' L S (k, F, G, A, ups B i (ups f x v)) cu su Q) : Wk l Z (MoC Z cd) md pc L (.long v :: .int x :: .ref i' :: S) (k, F, G, A, B) cu su Q :=
  fun en p e s m args below meth c T locs r X K hz hF hR hL => by
  obtain ⟨hd, rfl⟩ := hd
  subst hi' hf
  obtain ⟨cl, g1, g2, g3⟩ := relC.arr hR ht hi
  obtain ⟨T1, e1', X1, e1, W1, st⟩ := stJ X K.1 K.2.1 rfl g1 (in_of g2 h0 h1) (g := mkF m pc r (.long v :: .int x :: .ref (en.1 + (i + 1)) :: S.map (rv ((MoC Z cd).rho en)))) rfl rfl (hb K.by hd)
  subst e1
  have p8 := (ok.2.2.2.2.2.2.2.2.2.2.2 _ ht).2.1
  exact (h en p e s m args below meth c T1 _ r X1 K (by rw [W1.size]; exact hz) (Fr.snoc X1 hF (Nat.le_trans hR.1 (Nat.le_add_right _ _))) (relC.stJ ok h0 h1 hR ht W1) hL).pre (fun _ q => (frmC.wr W1 (Nat.le_add_right _ _) (Nat.add_le_add_left (show i + 1 ≤ cd.2.2.2.length from p8) _)).trans q) fun t q => st t q
/-- Object.<init> -/
theorem Wk.initO {μ E : Type} {M : Mode μ E} {w : μ} {Q : Option Value → μ → Prop} {v : Nat} (w1 : (Cond.methodLink M.own idx Lib.objectInit).before a0 Z = true) (w2 : (Cond.instanceMethod Lib.objectInit).before a0 Z = true) (w3 : (Cond.code Lib.objectInit ⟨#[0xb1]⟩ 1 none).before a0 Z = true) (hd : InsA md pc (.invokespecial idx) 3 pc') (hl : L.length = mxOf md) (hf : 1 ≤ (rmOf md).frames) (hW : (S.map fun v => v.category).sum + 12 ≤ (rmOf md).locals)
    (h : Wk l Z M md pc' L S w cu su Q) : Wk l Z M md pc L (.ref v :: S) w cu su Q :=
  fun en p e s m args below meth c T locs r X K hz hF hR hL => by
  obtain ⟨hd, rfl⟩ := hd
  have cs : ∀ S : List Value, ((S.map (rv (M.rho en))).map fun v => v.category).sum = (S.map fun v => v.category).sum := fun S => by rw [List.map_map]; congr 1; exact List.map_congr_left fun v _ => rv_cat _ v
  obtain ⟨T1, X1, e1, st⟩ := Jvm.RoadKit.initO X K.1 K.2.1 K.2.2.1 w1 w2 w3 rfl (g := mkF m pc r (.ref (M.rho en v) :: S.map (rv (M.rho en)))) rfl (by show r.size = _; rw [hL.1, hl]; exact K.2.2.2.2.2.2.2.symm) rfl (hb K.by hd) hf (W := (S.map fun v => v.category).sum) (by show 2 * 0 + _ ≤ _; rw [cs]; omega) hW
  exact (h en p e s m args below meth c T1 locs r X1 K (by rw [e1]; exact hz) hF (by rw [e1]; exact hR) hL).pre (fun _ q => by rw [e1] at q; exact q) fun t q => st t q
end StepsC
end Jvm.Own

namespace Jvm.Own
open Jvm Jvm.ClassFile Sem Op Lib Jvm.Free Jvm.Stand Jvm.LawKit Jvm.RoadKit
/-! ## 4. Calls -/
def noRef : List Value → Bool
  | [] => true
  | .ref _ :: _ => false
  | _ :: t => noRef t
theorem noRef.map : (as : List Value) → noRef as = true → ∀ ρ, as.map (rv ρ) = as
  | [], _, _ => rfl
  | .ref _ :: _, h, _ => by cases h
  | .int _ :: t, h, ρ => by rw [List.map_cons, noRef.map t h ρ]; rfl
  | .long _ :: t, h, ρ => by rw [List.map_cons, noRef.map t h ρ]; rfl
  | .float _ :: t, h, ρ => by rw [List.map_cons, noRef.map t h ρ]; rfl
  | .double _ :: t, h, ρ => by rw [List.map_cons, noRef.map t h ρ]; rfl
  | .null :: t, h, ρ => by rw [List.map_cons, noRef.map t h ρ]; rfl
  | .retAddr _ :: t, h, ρ => by rw [List.map_cons, noRef.map t h ρ]; rfl
/-- what the words say of a callee: an instance method -/
def CalV (Z : State) (a0 : Array Value) (md : MD) (n : Nat) : Prop :=
  plainName (nmOf md).cls = true ∧ ((nmOf md).cls ≠ "java/lang/invoke/MethodHandle" ∧ (nmOf md).cls ≠ "java/lang/invoke/VarHandle") ∧ (∀ sig, parseMethodDescriptor (nmOf md).desc = some sig → n = sig.parameters.length) ∧
  (Cond.instanceMethod (nmOf md)).before a0 Z = true ∧ (Cond.code (nmOf md) (byOf md) (mxOf md) (rtOf md)).before a0 Z = true ∧ (Cond.initialized (nmOf md).cls).before a0 Z = true ∧
  (((Cond.declares (nmOf md)).before a0 Z = true ∧ (Cond.selects (nmOf md).cls (nmOf md) (nmOf md)).before a0 Z = true) ∨ ((Cond.privateMethod (nmOf md)).before a0 Z = true ∧ ∃ kk, (Cond.instantiable (nmOf md).cls kk).before a0 Z = true))
/-- a constructor -/
def CalI (Z : State) (a0 : Array Value) (md : MD) (n : Nat) : Prop :=
  plainName (nmOf md).cls = true ∧ ((nmOf md).cls ≠ "java/lang/invoke/MethodHandle" ∧ (nmOf md).cls ≠ "java/lang/invoke/VarHandle") ∧ (∀ sig, parseMethodDescriptor (nmOf md).desc = some sig → n = sig.parameters.length) ∧
  (Cond.instanceMethod (nmOf md)).before a0 Z = true ∧ (Cond.code (nmOf md) (byOf md) (mxOf md) (rtOf md)).before a0 Z = true ∧ (Cond.initialized (nmOf md).cls).before a0 Z = true ∧ (nmOf md).name = "<init>" ∧ rtOf md = none
/-- a static method -/
def CalS (Z : State) (a0 : Array Value) (md : MD) (n : Nat) : Prop :=
  plainName (nmOf md).cls = true ∧ ((nmOf md).cls ≠ "java/lang/invoke/MethodHandle" ∧ (nmOf md).cls ≠ "java/lang/invoke/VarHandle") ∧ (∀ sig, parseMethodDescriptor (nmOf md).desc = some sig → n = sig.parameters.length) ∧
  (Cond.static (nmOf md)).before a0 Z = true ∧ (Cond.code (nmOf md) (byOf md) (mxOf md) (rtOf md)).before a0 Z = true ∧ (Cond.initialized (nmOf md).cls).before a0 Z = true
/-- the figures of a call: the operands under it weigh wt -/
def Fits (md md' : MD) (wt cu su cu' su' : Nat) : Prop :=
  (rmOf md').frames + 1 ≤ (rmOf md).frames ∧ wt + (mxOf md' + 11) + (rmOf md').locals ≤ (rmOf md).locals ∧ cu + (rmOf md').cells = cu' ∧ su + (rmOf md').slots = su' ∧ cu' ≤ (rmOf md).cells ∧ su' ≤ (rmOf md).slots ∧ exOf md' = (rmOf md').cells
instance (md md' : MD) (wt cu su cu' su' : Nat) : Decidable (Fits md md' wt cu su cu' su') := by unfold Fits; infer_instance
section Core
variable {μ E : Type} {l : Launch} {Z : State} {a0 : Array Value} {M' : Mode μ E} {md md' : MD} {own : String} {p : Program} {e : Env} {s : State} {m : MethodId} {args : Array Value} {below : List Frame} {meth : Method} {c : Code} {T : State} {locs : List Loc} {cu su cu' su' wt pc idx : Nat} {as : List Value} {L' : List Slot} {w : μ} {Q' : Option Value → μ → Prop} {en : E} {a : Addr} {r : Array Slot} {rest : List Value}
theorem coreV (X : Stand p l e (rmOf md) s m args below meth c T locs cu su) (K : Kn Z own md p s m meth c) (hd : decode (byOf md) pc = .ok (.invokevirtual idx, 3)) (wl : (Cond.methodLink own idx (nmOf md')).before a0 Z = true) (cv : CalV Z a0 md' as.length) (hcal : Wk l Z M' md' 0 L' [] w 0 0 Q') (ho : M'.own = (nmOf md').cls) (hR : M'.rel en w T.heap) (hE : Exa Z T.heap a (nmOf md').cls) (ha : M'.rho en 0 = a)
    (hL : (argsToLocals (.ref 0 :: as).toArray (mxOf md')).toList = L') (hw : wfL L' = true) (ft : Fits md md' wt cu su cu' su') (hr : r.size = mxOf md) (hrest : (rest.map fun v => v.category).sum ≤ wt) :
    ∃ v T1 Lc w1, Stand p l e (rmOf md) s m args below meth c T1 (locs ++ Lc) cu' su' ∧ Q' v w1 ∧ M'.rel en w1 T1.heap ∧ M'.frm en T.heap T1.heap ∧ Fr (M'.lo en) Lc ∧ T1.heap.size = T.heap.size + exOf md' ∧ (∀ ρ x, v = some x → rv ρ x = x) ∧
      ∀ t, Steps p.tables e below (T1.setTop (mkF m (pc + 3) r (v.toList ++ rest))) t → Steps p.tables e below (T.setTop (mkF m pc r ((as.map (rv (M'.rho en))).reverse ++ .ref a :: rest))) t := by
  obtain ⟨v1, v2, v3, v4, v5, v6, v7⟩ := cv
  obtain ⟨f1, f2, f3, f4, f5, f6, f7⟩ := ft
  subst f3 f4 ha
  obtain ⟨hx, hZ, hown, -, -, -, hby, hml⟩ := K
  have bk := backOf (s := s) (args := args) (p := p) (e := e) (below := below) (len := 3) (W := wt) (R := rmOf md) (Q := fun v hh Lc => ∃ w', Q' v w' ∧ M'.rel en w' hh ∧ M'.frm en T.heap hh ∧ Fr (M'.lo en) Lc ∧ hh.size = T.heap.size + exOf md' ∧ ∀ ρ x, v = some x → rv ρ x = x) (hcal.met v1 ho hR (.ref 0 :: as) hL hw []) hZ v5 v6 f1 f2
  have hlen : ∀ sig, parseMethodDescriptor (nmOf md').desc = some sig → (as.map (rv (M'.rho en))).length = sig.parameters.length := fun sig q => by rw [List.length_map]; exact v3 sig q
  rcases v7 with ⟨d1, d2⟩ | ⟨d1, kk, d2⟩
  · obtain ⟨cq, kq, qa, qb, qc⟩ := isOf (T := T) hZ rfl hE
    obtain ⟨v, _, ⟨T1, L1, k1, n1⟩, -, X1, ⟨Lc, hQ, l1, y1, z1⟩, st⟩ := X.virtualBack hx (y := nmOf md') (z := nmOf md') hown (mvT hZ wl) (mvT hZ d1) (notFace_of_selects (args := #[]) (mvT hZ d2)) (mvT hZ d2) (mvT hZ v4) v2 bk qa qc (g := mkF m pc r ((as.map (rv (M'.rho en))).reverse ++ .ref (M'.rho en 0) :: rest)) rfl (hr.trans hml.symm) (Steps.refl _) (argsL := as.map (rv (M'.rho en))) (rest := rest) hlen rfl (by show 2 * 0 + _ ≤ _; omega) (hb hby hd) (fun _ _ => ⟨rfl, rfl, f5, f6⟩)
    dsimp only [Pt.U, Pt.locs, Pt.cells, Pt.slots] at X1 l1 y1 z1 st hQ
    subst l1 y1 z1
    obtain ⟨w1, q1, q2, q3, q4, q5, q6⟩ := hQ
    exact ⟨v, T1, Lc, w1, X1, q1, q2, q3, q4, q5, q6, fun t q => st.trans q⟩
  · obtain ⟨cc, kc, i1, i2, i3, i4, -⟩ := Cond.instantiable_spec (mvT (s := s) (args := #[]) hZ d2)
    have hni : kc.isInterface = false := by cases hq : kc.isInterface <;> simp [hq] at i4 ⊢
    have pv : s.PrivateAt (nmOf md') := Cond.privateMethod_at (mvP hZ d1 (args := #[]))
    have sel : (Cond.selects (nmOf md').cls (nmOf md') (nmOf md')).before args s = true := selects_self_of_private i1 i2 hni pv (mvT hZ v4) v2
    obtain ⟨cq, q7, q7'⟩ := hE.cell
    obtain ⟨v, _, ⟨T1, L1, k1, n1⟩, -, X1, ⟨Lc, hQ, l1, y1, z1⟩, st⟩ := X.privateBack hx (y := nmOf md') hown (mvT hZ wl) (mvT hZ v4) sel pv (mvT hZ v5) v2 bk (g := mkF m pc r ((as.map (rv (M'.rho en))).reverse ++ .ref (M'.rho en 0) :: rest)) rfl (hr.trans hml.symm) (Steps.refl _) (a := M'.rho en 0) q7 q7' (argsL := as.map (rv (M'.rho en))) (rest := rest) hlen rfl (by show 2 * 0 + _ ≤ _; omega) (hb hby hd) (fun _ _ => ⟨rfl, rfl, f5, f6⟩)
    dsimp only [Pt.U, Pt.locs, Pt.cells, Pt.slots] at X1 l1 y1 z1 st hQ
    subst l1 y1 z1
    obtain ⟨w1, q1, q2, q3, q4, q5, q6⟩ := hQ
    exact ⟨v, T1, Lc, w1, X1, q1, q2, q3, q4, q5, q6, fun t q => st.trans q⟩
theorem coreI (X : Stand p l e (rmOf md) s m args below meth c T locs cu su) (K : Kn Z own md p s m meth c) (hd : decode (byOf md) pc = .ok (.invokespecial idx, 3)) (wl : (Cond.methodLink own idx (nmOf md')).before a0 Z = true) (cv : CalI Z a0 md' as.length) (hcal : Wk l Z M' md' 0 L' [] w 0 0 Q') (ho : M'.own = (nmOf md').cls) (hR : M'.rel en w T.heap) (ha : M'.rho en 0 = a)
    (hL : (argsToLocals (.ref 0 :: as).toArray (mxOf md')).toList = L') (hw : wfL L' = true) (ft : Fits md md' wt cu su cu' su') (hr : r.size = mxOf md) (hrest : (rest.map fun v => v.category).sum ≤ wt) :
    ∃ v T1 Lc w1, Stand p l e (rmOf md) s m args below meth c T1 (locs ++ Lc) cu' su' ∧ Q' v w1 ∧ M'.rel en w1 T1.heap ∧ M'.frm en T.heap T1.heap ∧ Fr (M'.lo en) Lc ∧ T1.heap.size = T.heap.size + exOf md' ∧ (∀ ρ x, v = some x → rv ρ x = x) ∧
      ∀ t, Steps p.tables e below (T1.setTop (mkF m (pc + 3) r (v.toList ++ rest))) t → Steps p.tables e below (T.setTop (mkF m pc r ((as.map (rv (M'.rho en))).reverse ++ .ref a :: rest))) t := by
  obtain ⟨v1, v2, v3, v4, v5, v6, v7, v8⟩ := cv
  obtain ⟨f1, f2, f3, f4, f5, f6, f7⟩ := ft
  subst f3 f4 ha
  obtain ⟨hx, hZ, hown, -, -, -, hby, hml⟩ := K
  have bk := backOf (s := s) (args := args) (p := p) (e := e) (below := below) (len := 3) (W := wt) (R := rmOf md) (Q := fun v hh Lc => ∃ w', Q' v w' ∧ M'.rel en w' hh ∧ M'.frm en T.heap hh ∧ Fr (M'.lo en) Lc ∧ hh.size = T.heap.size + exOf md' ∧ ∀ ρ x, v = some x → rv ρ x = x) (hcal.met v1 ho hR (.ref 0 :: as) hL hw []) hZ v5 v6 f1 f2
  have hlen : ∀ sig, parseMethodDescriptor (nmOf md').desc = some sig → (as.map (rv (M'.rho en))).length = sig.parameters.length := fun sig q => by rw [List.length_map]; exact v3 sig q
  rw [v8] at v5
  obtain ⟨v, _, ⟨T1, L1, k1, n1⟩, -, X1, ⟨Lc, hQ, l1, y1, z1⟩, st⟩ := X.specialBack hx (y := nmOf md') v7 hown (mvT hZ wl) (mvT hZ v4) (mvT hZ v5) v2 bk (g := mkF m pc r ((as.map (rv (M'.rho en))).reverse ++ .ref (M'.rho en 0) :: rest)) rfl (hr.trans hml.symm) (Steps.refl _) (a := M'.rho en 0) (argsL := as.map (rv (M'.rho en))) (rest := rest) hlen rfl (by show 2 * 0 + _ ≤ _; omega) (hb hby hd) (fun _ _ => ⟨rfl, rfl, f5, f6⟩)
  dsimp only [Pt.U, Pt.locs, Pt.cells, Pt.slots] at X1 l1 y1 z1 st hQ
  subst l1 y1 z1
  obtain ⟨w1, q1, q2, q3, q4, q5, q6⟩ := hQ
  exact ⟨v, T1, Lc, w1, X1, q1, q2, q3, q4, q5, q6, fun t q => st.trans q⟩
theorem coreS (X : Stand p l e (rmOf md) s m args below meth c T locs cu su) (K : Kn Z own md p s m meth c) (hd : decode (byOf md) pc = .ok (.invokestatic idx, 3)) (wl : (Cond.methodLink own idx (nmOf md')).before a0 Z = true) (cv : CalS Z a0 md' as.length) (hcal : Wk l Z M' md' 0 L' [] w 0 0 Q') (ho : M'.own = (nmOf md').cls) (hR : M'.rel en w T.heap)
    (hL : (argsToLocals as.toArray (mxOf md')).toList = L') (hw : wfL L' = true) (ft : Fits md md' wt cu su cu' su') (hr : r.size = mxOf md) (hrest : (rest.map fun v => v.category).sum ≤ wt) :
    ∃ v T1 Lc w1, Stand p l e (rmOf md) s m args below meth c T1 (locs ++ Lc) cu' su' ∧ Q' v w1 ∧ M'.rel en w1 T1.heap ∧ M'.frm en T.heap T1.heap ∧ Fr (M'.lo en) Lc ∧ T1.heap.size = T.heap.size + exOf md' ∧ (∀ ρ x, v = some x → rv ρ x = x) ∧
      ∀ t, Steps p.tables e below (T1.setTop (mkF m (pc + 3) r (v.toList ++ rest))) t → Steps p.tables e below (T.setTop (mkF m pc r ((as.map (rv (M'.rho en))).reverse ++ rest))) t := by
  obtain ⟨v1, v2, v3, v4, v5, v6⟩ := cv
  obtain ⟨f1, f2, f3, f4, f5, f6, f7⟩ := ft
  subst f3 f4
  obtain ⟨hx, hZ, hown, -, -, -, hby, hml⟩ := K
  have bk := backOf (s := s) (args := args) (p := p) (e := e) (below := below) (len := 3) (W := wt) (R := rmOf md) (Q := fun v hh Lc => ∃ w', Q' v w' ∧ M'.rel en w' hh ∧ M'.frm en T.heap hh ∧ Fr (M'.lo en) Lc ∧ hh.size = T.heap.size + exOf md' ∧ ∀ ρ x, v = some x → rv ρ x = x) (hcal.met v1 ho hR as hL hw []) hZ v5 v6 f1 f2
  have hlen : ∀ sig, parseMethodDescriptor (nmOf md').desc = some sig → (as.map (rv (M'.rho en))).length = sig.parameters.length := fun sig q => by rw [List.length_map]; exact v3 sig q
  obtain ⟨v, _, ⟨T1, L1, k1, n1⟩, -, X1, ⟨Lc, hQ, l1, y1, z1⟩, st⟩ := Jvm.LawKit.callS X hx (y := nmOf md') hown (mvT hZ wl) (mvT hZ v4) (mvT hZ v6) (mvT hZ v5) v2 bk (g := mkF m pc r ((as.map (rv (M'.rho en))).reverse ++ rest)) rfl (hr.trans hml.symm) (argsL := as.map (rv (M'.rho en))) (rest := rest) hlen rfl (by show 2 * 0 + _ ≤ _; omega) (hb hby hd) (fun _ _ => ⟨rfl, rfl, f5, f6⟩)
  dsimp only [Pt.U, Pt.locs, Pt.cells, Pt.slots] at X1 l1 y1 z1 st hQ
  subst l1 y1 z1
  obtain ⟨w1, q1, q2, q3, q4, q5, q6⟩ := hQ
  exact ⟨v, T1, Lc, w1, X1, q1, q2, q3, q4, q5, q6, fun t q => st t q⟩
end Core
theorem cat_map (ρ : Nat → Addr) (S : List Value) : ((S.map (rv ρ)).map fun v => v.category).sum = (S.map fun v => v.category).sum := by
  rw [List.map_map]; congr 1; exact List.map_congr_left fun v _ => rv_cat _ v
theorem res_map {ρ : Nat → Addr} {v : Option Value} (h : ∀ ρ x, v = some x → rv ρ x = x) (S : List Value) : (v.toList ++ S).map (rv ρ) = v.toList ++ S.map (rv ρ) := by
  cases v with
  | none => rfl
  | some x => simp [h ρ x rfl]
section CallsC
variable {l : Launch} {Z : State} {a0 : Array Value} {cd : CD} {md md' : MD} {pc pc' wt idx : Nat} {L L' : List Slot} {S stk as : List Value} {w : WO} {cu su cu' su' : Nat} {Q Q' : Option Value → WO → Prop}
/-- a method of the same object -/
theorem Wk.callC (as : List Value) (S : List Value) (hs : stk = as.reverse ++ .ref 0 :: S) (wl : (Cond.methodLink cd.1 idx (nmOf md')).before a0 Z = true) (cv : CalV Z a0 md' as.length) (hc : (nmOf md').cls = cd.1) (nr : noRef as = true) (hcal : Wk l Z (MoC Z cd) md' 0 L' [] w 0 0 Q') (hL' : (argsToLocals (.ref 0 :: as).toArray (mxOf md')).toList = L') (hw : wfL L' = true) (hl : L.length = mxOf md)
    (hwt : (S.map fun v => v.category).sum = wt) (ft : Fits md md' wt cu su cu' su') (hd : InsA md pc (.invokevirtual idx) 3 pc') (h : ∀ v w', Q' v w' → Wk l Z (MoC Z cd) md pc' L (v.toList ++ S) w' cu' su' Q) : Wk l Z (MoC Z cd) md pc L stk w cu su Q :=
  fun en p e s m args below meth c T locs r X K hz hF hR hL => by
  obtain ⟨hd, rfl⟩ := hd
  subst hs
  obtain ⟨v, T1, Lc, w1, X1, q1, q2, q3, q4, q5, q6, st⟩ := coreV (M' := MoC Z cd) (en := en) (r := r) (rest := S.map (rv ((MoC Z cd).rho en))) X K hd wl cv hcal hc.symm hR (by rw [hc]; exact hR.2.1) rfl hL' hw ft (hL.1.trans hl) (by rw [cat_map]; omega)
  have f7 := ft.2.2.1
  have f8 := ft.2.2.2.2.2.2
  have em : (as.reverse ++ .ref 0 :: S).map (rv ((MoC Z cd).rho en)) = (as.map (rv ((MoC Z cd).rho en))).reverse ++ .ref ((MoC Z cd).rho en 0) :: S.map (rv ((MoC Z cd).rho en)) := by rw [List.map_append, List.map_reverse]; rfl
  have D := h v w1 q1 en p e s m args below meth c T1 _ r X1 K (by omega) (hF.app q4) q2 hL
  rw [res_map q6] at D
  rw [em]
  exact D.pre (fun _ q => frmC.trans q3 q) st
end CallsC
section CallsS
variable {μ E : Type} {l : Launch} {Z : State} {a0 : Array Value} {M : Mode μ E} {md md' : MD} {pc pc' wt idx : Nat} {L L' : List Slot} {S stk as : List Value} {w : μ} {cu su cu' su' : Nat} {Q Q' : Option Value → μ → Prop}
/-- a static method, in the same mode -/
theorem Wk.callS (hM : ∀ en h1 h2 h3, M.frm en h1 h2 → M.frm en h2 h3 → M.frm en h1 h3) (as : List Value) (S : List Value) (hs : stk = as.reverse ++ S) (wl : (Cond.methodLink M.own idx (nmOf md')).before a0 Z = true) (cv : CalS Z a0 md' as.length) (hc : (nmOf md').cls = M.own) (hcal : Wk l Z M md' 0 L' [] w 0 0 Q') (hL' : (argsToLocals as.toArray (mxOf md')).toList = L') (hw : wfL L' = true) (hl : L.length = mxOf md)
    (hwt : (S.map fun v => v.category).sum = wt) (ft : Fits md md' wt cu su cu' su') (hd : InsA md pc (.invokestatic idx) 3 pc') (h : ∀ v w', Q' v w' → Wk l Z M md pc' L (v.toList ++ S) w' cu' su' Q) : Wk l Z M md pc L stk w cu su Q :=
  fun en p e s m args below meth c T locs r X K hz hF hR hL => by
  obtain ⟨hd, rfl⟩ := hd
  subst hs
  obtain ⟨v, T1, Lc, w1, X1, q1, q2, q3, q4, q5, q6, st⟩ := coreS (M' := M) (en := en) (r := r) (rest := S.map (rv (M.rho en))) X K hd wl cv hcal hc.symm hR hL' hw ft (hL.1.trans hl) (by rw [cat_map]; omega)
  have f7 := ft.2.2.1
  have f8 := ft.2.2.2.2.2.2
  have em : (as.reverse ++ S).map (rv (M.rho en)) = (as.map (rv (M.rho en))).reverse ++ S.map (rv (M.rho en)) := by rw [List.map_append, List.map_reverse]
  have D := h v w1 q1 en p e s m args below meth c T1 _ r X1 K (by omega) (hF.app q4) q2 hL
  rw [res_map q6] at D
  rw [em]
  exact D.pre (fun _ q => hM _ _ _ _ q3 q) st
end CallsS
/-! ## 5. The law's own level: a script of ints (or none) and some objects, made one behind the other -/
abbrev WL : Type := Int32 × (Int32 → Int32) × List WO
def w0 : WO := (0, fun _ => 0, fun _ => 0, fun _ _ => 0, fun _ _ => 0)
def rhoL (cd : CD) (en : Nat × Nat) : Nat → Addr
  | 0 => en.2
  | i + 1 => en.1 + i * (cd.2.2.2.length + 1)
def relL (Z : State) (cd : CD) (sc : Bool) (en : Nat × Nat) (w : WL) (h : Heap) : Prop :=
  (sc = true → en.2 < en.1 ∧ ¬ w.1 < 0 ∧ AtA Z h en.2 .int w.1 w.2.1 (fun _ => 0)) ∧ (∀ i x, w.2.2[i]? = some x → relC Z cd (en.1 + i * (cd.2.2.2.length + 1), en.1) x h) ∧ h.size = en.1 + (w.2.2.map fun x => x.1 + 1).sum
abbrev MoL (Z : State) (cd : CD) (own : String) (sc : Bool) : Mode WL (Nat × Nat) := (own, rhoL cd, fun en => en.1, relL Z cd sc, fun _ _ _ => True)
def allK (n : Nat) : List WO → Prop
  | [] => True
  | x :: t => x.1 = n ∧ allK n t
theorem allK.get {n : Nat} : (ws : List WO) → allK n ws → ∀ (i : Nat) (x : WO), ws[i]? = some x → x.1 = n
  | [], _, i, x, h => by simp at h
  | y :: t, h, i, x, e => by
    cases i with
    | zero => simp at e; rw [← e]; exact h.1
    | succ i => exact allK.get t h.2 i x (by simpa using e)
theorem allK.sum {n : Nat} : {ws : List WO} → allK n ws → (ws.map fun x => x.1 + 1).sum = ws.length * (n + 1)
  | [], _ => by simp
  | y :: t, h => by rw [List.map_cons, List.sum_cons, allK.sum (ws := t) h.2, h.1, List.length_cons, Nat.add_mul]; omega
theorem sum_set : (ws : List WO) → (i : Nat) → (x y : WO) → ws[i]? = some x → ((ws.set i y).map fun x => x.1 + 1).sum + x.1 = (ws.map fun x => x.1 + 1).sum + y.1
  | [], i, x, y, h => by simp at h
  | z :: t, 0, x, y, h => by simp at h; subst h; simp; omega
  | z :: t, i + 1, x, y, h => by have := sum_set t i x y (by simpa using h); simp only [List.set_cons_succ, List.map_cons, List.sum_cons]; omega
section Keep
variable {Z : State} {cd : CD} {en : Nat × Nat} {h h' : Heap} {w : WO}
theorem Fld.cells {a : Addr} {C n d : String} {v : Value} (H : Fld Z h a C n d v) (q : ∀ c, h[a]? = some c → h'[a]? = some c) : Fld Z h' a C n d v := by
  obtain ⟨cell, cf, k, i, f, h1, r⟩ := H; exact ⟨cell, cf, k, i, f, q _ h1, r⟩
theorem Exa.cells {a : Addr} {C : String} (H : Exa Z h a C) (q : ∀ c, h[a]? = some c → h'[a]? = some c) : Exa Z h' a C := by
  obtain ⟨cell, k, h1, r⟩ := H; exact ⟨cell, k, q _ h1, r⟩
theorem AtA.cells {b : Addr} {ty : FieldType} {n : Int32} {f : Int32 → Int32} {g : Int32 → Int64} (H : AtA Z h b ty n f g) (q : ∀ c, h[b]? = some c → h'[b]? = some c) : AtA Z h' b ty n f g := by
  obtain ⟨cl, h1, r⟩ := H; exact ⟨cl, ⟨q _ h1.1, h1.2⟩, r⟩
theorem relC.cells (okA : ∀ t ∈ cd.2.2.2, t.1 < cd.2.2.2.length) (hR : relC Z cd en w h) (hk : w.1 = cd.2.2.2.length) (q : ∀ x c, en.1 ≤ x → x ≤ en.1 + cd.2.2.2.length → h[x]? = some c → h'[x]? = some c) : relC Z cd en w h' := by
  obtain ⟨r1, r2, r3, r4, r5, r6⟩ := hR
  have q0 := fun c => q en.1 c (Nat.le_refl _) (Nat.le_add_right _ _)
  refine ⟨r1, Exa.cells r2 q0, fun t m => Fld.cells (r3 t m) q0, fun t m => Fld.cells (r4 t m) q0, fun t m => ⟨fun k => ⟨Fld.cells ((r5 t m).1 k).1 q0, AtA.cells ((r5 t m).1 k).2 fun c => q _ c (Nat.le_add_right _ _) (by have := okA t m; omega)⟩, fun k => Fld.cells ((r5 t m).2 k) q0⟩, fun k => absurd k (by omega)⟩
end Keep
theorem apart {N i j n x : Nat} (hne : j ≠ i) (h1 : n + j * (N + 1) ≤ x) (h2 : x ≤ n + j * (N + 1) + N) : x < n + i * (N + 1) ∨ n + i * (N + 1) + N < x := by
  rcases Nat.lt_or_gt_of_ne hne with q | q
  · left
    have := Nat.mul_le_mul_right (N + 1) (show j + 1 ≤ i from q)
    rw [Nat.add_mul] at this
    omega
  · right
    have := Nat.mul_le_mul_right (N + 1) (show i + 1 ≤ j from q)
    rw [Nat.add_mul] at this
    omega
/-- one object's walk, seen from the law's level -/
theorem relL.step {Z : State} {cd : CD} {sc : Bool} {en : Nat × Nat} {sl : Int32} {sv : Int32 → Int32} {ws : List WO} {h h' : Heap} {i : Nat} {x y : WO} (okA : ∀ t ∈ cd.2.2.2, t.1 < cd.2.2.2.length) (hR : relL Z cd sc en (sl, sv, ws) h) (hi : ws[i]? = some x) (hoth : ∀ j z, ws[j]? = some z → j ≠ i → z.1 = cd.2.2.2.length)
    (hy : relC Z cd (en.1 + i * (cd.2.2.2.length + 1), en.1) y h') (hf : frmC cd (en.1 + i * (cd.2.2.2.length + 1), en.1) h h') (hz : h'.size + x.1 = h.size + y.1) : relL Z cd sc en (sl, sv, ws.set i y) h' := by
  obtain ⟨r1, r2, r3⟩ := hR
  refine ⟨fun q => ?_, fun j z hj => ?_, ?_⟩
  · obtain ⟨a1, a2, a3⟩ := r1 q
    refine ⟨a1, a2, AtA.cells a3 fun c hc => hf.2 _ c hc (Or.inl ?_)⟩
    show en.2 < en.1 + i * (cd.2.2.2.length + 1)
    omega
  · have hj' : (ws.set i y)[j]? = some z := hj
    rw [List.getElem?_set] at hj'
    by_cases e : i = j
    · subst e
      have : i < ws.length := (List.getElem?_eq_some_iff.mp hi).1
      simp [this] at hj'
      subst hj'
      exact hy
    · rw [if_neg e] at hj'
      exact relC.cells okA (r2 j z hj') (hoth j z hj' (Ne.symm e)) fun a c h1 h2 hc => hf.2 a c hc (apart (Ne.symm e) h1 h2)
  · have s1 := sum_set ws i x y hi
    have s2 : h.size = en.1 + (ws.map fun x => x.1 + 1).sum := r3
    show h'.size = en.1 + ((ws.set i y).map fun x => x.1 + 1).sum
    omega
section StepsL
variable {l : Launch} {Z : State} {a0 : Array Value} {cd : CD} {own : String} {sc : Bool} {md md' : MD} {pc pc' wt idx : Nat} {L L' : List Slot} {S stk as : List Value} {sl : Int32} {sv : Int32 → Int32} {ws ws' : List WO} {cu su cu' su' : Nat} {Q : Option Value → WL → Prop} {Q' : Option Value → WO → Prop}
theorem Wk.lenL (hd : InsA md pc .arraylength 1 pc') (h : Wk l Z (MoL Z cd own true) md pc' L (.int sl :: S) (sl, sv, ws) cu su Q) : Wk l Z (MoL Z cd own true) md pc L (.ref 0 :: S) (sl, sv, ws) cu su Q :=
  fun en p e s m args below meth c T locs r X K hz hF hR hL => by
  obtain ⟨hd, rfl⟩ := hd
  obtain ⟨a1, a2, cl, g1, g2, g3⟩ := hR.1 rfl
  have e1 : cl.slots.size.toInt32 = sl := by rw [g2]; exact (back32 a2).1
  refine (h en p e s m args below meth c T locs r X K hz hF hR hL).pre (fun _ q => q) fun t q => X.arraylength K.1 g1.1 (State.isArrayOf_alike K.2.1.alike g1.2.1) (g := mkF m pc r (.ref en.2 :: S.map (rv (rhoL cd en)))) rfl rfl (hb K.by hd) _ (by rw [e1]; exact q)
theorem Wk.ialoadL {x : Int32} (h0 : ¬ x < 0) (h1 : x < sl) (hd : InsA md pc .iaload 1 pc') (h : Wk l Z (MoL Z cd own true) md pc' L (.int (sv x) :: S) (sl, sv, ws) cu su Q) : Wk l Z (MoL Z cd own true) md pc L (.int x :: .ref 0 :: S) (sl, sv, ws) cu su Q :=
  fun en p e s m args below meth c T locs r X K hz hF hR hL => by
  obtain ⟨hd, rfl⟩ := hd
  obtain ⟨a1, a2, cl, g1, g2, g3⟩ := hR.1 rfl
  exact (h en p e s m args below meth c T locs r X K hz hF hR hL).pre (fun _ q => q) fun t q => X.iaload K.1 (j := x) (v := .int (sv x)) g1.1 (State.isArrayOf_alike K.2.1.alike g1.2.1) g1.2.2 (in_of g2 h0 h1) (g3 x h0 h1) (g := mkF m pc r (.int x :: .ref en.2 :: S.map (rv (rhoL cd en)))) rfl rfl (hb K.by hd) _ q
theorem Wk.newL (ok : CO Z a0 cd) {kk i' : Nat} (wc : (Cond.classLink own idx cd.1).before a0 Z = true) (wi : (Cond.instantiable cd.1 kk).before a0 Z = true) (wz : (Cond.initialized cd.1).before a0 Z = true) (hd : InsA md pc (.new idx) 3 pc') (hall : allK cd.2.2.2.length ws) (hi : ws.length + 1 = i') (hws : ws ++ [w0] = ws') (hcu : cu + 1 = cu') (hsu : su + kk = su') (hc : cu' ≤ (rmOf md).cells) (hs : su' ≤ (rmOf md).slots)
    (h : Wk l Z (MoL Z cd own sc) md pc' L (.ref i' :: S) (sl, sv, ws') cu' su' Q) : Wk l Z (MoL Z cd own sc) md pc L S (sl, sv, ws) cu su Q :=
  fun en p e s m args below meth c T locs r X K hz hF hR hL => by
  obtain ⟨hd, rfl⟩ := hd
  subst hi hws hcu hsu
  obtain ⟨T1, h1, X1, e1, E1, A1, D1, -, st⟩ := newO X K.1 K.2.1 K.2.2.1 wc wi wz rfl (g := mkF m pc r (S.map (rv (rhoL cd en)))) rfl (hb K.by hd) hc hs
  subst e1
  obtain ⟨r1, r2, r3⟩ := hR
  have r3' : T.heap.size = en.1 + (ws.map fun x => x.1 + 1).sum := r3
  have sm := hall.sum
  have z1 := X1.heapSize
  have z2 : (T.heap.size : Nat) < T1.heap.size := A1.lt
  have ea : T.heap.size = en.1 + ws.length * (cd.2.2.2.length + 1) := by rw [r3', sm]
  have okp := ok.2.2.2.2
  obtain ⟨q1, q2, q3, q4, q5, q6, q7, q8⟩ := okp
  have rel1 : relL Z cd sc en (sl, sv, ws ++ [w0]) T1.heap := by
    refine ⟨fun q => ⟨(r1 q).1, (r1 q).2.1, (r1 q).2.2.ext E1⟩, fun j z hj => ?_, ?_⟩
    · have hj' : (ws ++ [w0])[j]? = some z := hj
      by_cases e : j < ws.length
      · rw [List.getElem?_append_left e] at hj'
        exact relC.cells (fun t m => (q8 t m).2.1) (r2 j z hj') (allK.get _ hall _ _ hj') fun a c _ _ hc => E1.2 a c hc
      · have e2 : j = ws.length := by
          have := (List.getElem?_eq_some_iff.mp hj').1
          simp at this; omega
        subst e2
        simp at hj'
        subst hj'
        rw [← ea]
        refine ⟨by show en.1 ≤ T.heap.size; omega, A1, fun t m => ?_, fun t m => ?_, fun t m => ⟨fun k => absurd k (Nat.not_lt_zero _), fun _ => ?_⟩, fun _ => by show T1.heap.size = T.heap.size + 1 + 0; omega⟩
        · rcases q7 t m with q | q
          · exact D1 (ok.2.1 t m) q
          · exact D1 (ok.2.1 t m) q
        · exact D1 (ok.2.2.1 t m) pJ
        · exact D1 (ok.2.2.2.1 t m) (q8 t m).1
    · show T1.heap.size = en.1 + ((ws ++ [w0]).map fun x => x.1 + 1).sum
      rw [List.map_append, List.sum_append]
      show T1.heap.size = en.1 + ((ws.map fun x => x.1 + 1).sum + 1)
      omega
  refine (h en p e s m args below meth c T1 locs r X1 K (by omega) hF rel1 hL).pre (fun _ _ => trivial) fun t q => st t ?_
  rw [ea]
  exact q
theorem Wk.callLC (ok : CO Z a0 cd) (as : List Value) (i : Nat) (S : List Value) {i' : Nat} {x : WO} (hi' : i + 1 = i') (hs : stk = as.reverse ++ .ref i' :: S) (hx : ws[i]? = some x) (hoth : allK cd.2.2.2.length (ws.eraseIdx i)) (wl : (Cond.methodLink own idx (nmOf md')).before a0 Z = true) (cv : CalV Z a0 md' as.length) (hc : (nmOf md').cls = cd.1) (nr : noRef as = true) (hcal : Wk l Z (MoC Z cd) md' 0 L' [] x 0 0 Q') (hL' : (argsToLocals (.ref 0 :: as).toArray (mxOf md')).toList = L') (hw : wfL L' = true) (hl : L.length = mxOf md)
    (hwt : (S.map fun v => v.category).sum = wt) (ft : Fits md md' wt cu su cu' su') (hd : InsA md pc (.invokevirtual idx) 3 pc') (hk : ∀ v y, Q' v y → y.1 = x.1 + exOf md') (h : ∀ v y, Q' v y → Wk l Z (MoL Z cd own sc) md pc' L (v.toList ++ S) (sl, sv, ws.set i y) cu' su' Q) : Wk l Z (MoL Z cd own sc) md pc L stk (sl, sv, ws) cu su Q :=
  fun en p e s m args below meth c T locs r X K hz hF hR hL => by
  obtain ⟨hd, rfl⟩ := hd
  subst hs hi'
  have rx := hR.2.1 i x hx
  obtain ⟨v, T1, Lc, w1, X1, p1, p2, p3, p4, p5, p6, st⟩ := coreV (M' := MoC Z cd) (en := (en.1 + i * (cd.2.2.2.length + 1), en.1)) (r := r) (rest := S.map (rv (rhoL cd en))) X K hd wl cv hcal hc.symm rx (by rw [hc]; exact rx.2.1) rfl hL' hw ft (hL.1.trans hl) (by rw [cat_map]; omega)
  have f7 := ft.2.2.1
  have f8 := ft.2.2.2.2.2.2
  have em : (as.reverse ++ .ref (i + 1) :: S).map (rv (rhoL cd en)) = (as.map (rv ((MoC Z cd).rho (en.1 + i * (cd.2.2.2.length + 1), en.1)))).reverse ++ .ref ((MoC Z cd).rho (en.1 + i * (cd.2.2.2.length + 1), en.1) 0) :: S.map (rv (rhoL cd en)) := by
    rw [List.map_append, List.map_reverse, noRef.map as nr, noRef.map as nr]; rfl
  have oth : ∀ j z, ws[j]? = some z → j ≠ i → z.1 = cd.2.2.2.length := by
    intro j z hj hne
    by_cases e : j < i
    · exact allK.get _ hoth j z (by rw [List.getElem?_eraseIdx]; simp [e, hj])
    · refine allK.get _ hoth (j - 1) z ?_
      rw [List.getElem?_eraseIdx, if_neg (by omega), show j - 1 + 1 = j by omega]; exact hj
  have hkk := hk v w1 p1
  have okA : ∀ t ∈ cd.2.2.2, t.1 < cd.2.2.2.length := fun t m => (ok.2.2.2.2.2.2.2.2.2.2.2 t m).2.1
  have D := h v w1 p1 en p e s m args below meth c T1 _ r X1 K (by omega) (hF.app p4) (relL.step okA hR hx oth p2 p3 (by omega)) hL
  rw [res_map p6] at D
  show Done _ _ _ _ _ _ _ _ _ _ _ _ _ _ (mkF m pc r ((as.reverse ++ .ref (i + 1) :: S).map (rv (rhoL cd en))))
  rw [em]
  exact D.pre (fun _ _ => trivial) st
theorem Wk.ctorL (ok : CO Z a0 cd) (as : List Value) (i : Nat) (S : List Value) {i' : Nat} {x : WO} (hi' : i + 1 = i') (hs : stk = as.reverse ++ .ref i' :: S) (hx : ws[i]? = some x) (hoth : allK cd.2.2.2.length (ws.eraseIdx i)) (wl : (Cond.methodLink own idx (nmOf md')).before a0 Z = true) (cv : CalI Z a0 md' as.length) (hc : (nmOf md').cls = cd.1) (nr : noRef as = true) (hcal : Wk l Z (MoC Z cd) md' 0 L' [] x 0 0 Q') (hL' : (argsToLocals (.ref 0 :: as).toArray (mxOf md')).toList = L') (hw : wfL L' = true) (hl : L.length = mxOf md)
    (hwt : (S.map fun v => v.category).sum = wt) (ft : Fits md md' wt cu su cu' su') (hd : InsA md pc (.invokespecial idx) 3 pc') (hk : ∀ v y, Q' v y → y.1 = x.1 + exOf md') (h : ∀ v y, Q' v y → Wk l Z (MoL Z cd own sc) md pc' L (v.toList ++ S) (sl, sv, ws.set i y) cu' su' Q) : Wk l Z (MoL Z cd own sc) md pc L stk (sl, sv, ws) cu su Q :=
  fun en p e s m args below meth c T locs r X K hz hF hR hL => by
  obtain ⟨hd, rfl⟩ := hd
  subst hs hi'
  have rx := hR.2.1 i x hx
  obtain ⟨v, T1, Lc, w1, X1, p1, p2, p3, p4, p5, p6, st⟩ := coreI (M' := MoC Z cd) (en := (en.1 + i * (cd.2.2.2.length + 1), en.1)) (r := r) (rest := S.map (rv (rhoL cd en))) X K hd wl cv hcal hc.symm rx rfl hL' hw ft (hL.1.trans hl) (by rw [cat_map]; omega)
  have f7 := ft.2.2.1
  have f8 := ft.2.2.2.2.2.2
  have em : (as.reverse ++ .ref (i + 1) :: S).map (rv (rhoL cd en)) = (as.map (rv ((MoC Z cd).rho (en.1 + i * (cd.2.2.2.length + 1), en.1)))).reverse ++ .ref ((MoC Z cd).rho (en.1 + i * (cd.2.2.2.length + 1), en.1) 0) :: S.map (rv (rhoL cd en)) := by
    rw [List.map_append, List.map_reverse, noRef.map as nr, noRef.map as nr]; rfl
  have oth : ∀ j z, ws[j]? = some z → j ≠ i → z.1 = cd.2.2.2.length := by
    intro j z hj hne
    by_cases e : j < i
    · exact allK.get _ hoth j z (by rw [List.getElem?_eraseIdx]; simp [e, hj])
    · refine allK.get _ hoth (j - 1) z ?_
      rw [List.getElem?_eraseIdx, if_neg (by omega), show j - 1 + 1 = j by omega]; exact hj
  have hkk := hk v w1 p1
  have okA : ∀ t ∈ cd.2.2.2, t.1 < cd.2.2.2.length := fun t m => (ok.2.2.2.2.2.2.2.2.2.2.2 t m).2.1
  have D := h v w1 p1 en p e s m args below meth c T1 _ r X1 K (by omega) (hF.app p4) (relL.step okA hR hx oth p2 p3 (by omega)) hL
  rw [res_map p6] at D
  show Done _ _ _ _ _ _ _ _ _ _ _ _ _ _ (mkF m pc r ((as.reverse ++ .ref (i + 1) :: S).map (rv (rhoL cd en))))
  rw [em]
  exact D.pre (fun _ _ => trivial) st
end StepsL
end Jvm.Own

namespace Jvm.Own
open Jvm Jvm.ClassFile Sem Op Lib Jvm.Free Jvm.Stand Jvm.LawKit Jvm.RoadKit
/-- the class's list of fields, looked at -/
def okB (cd : CD) : Bool :=
  cd.2.1.all (fun (t : Nat × String × String) => cd.2.1.all fun t' => if t.1 = t'.1 then decide (t = t') else t.2.1 != t'.2.1) && cd.2.2.1.all (fun (t : Nat × String) => cd.2.2.1.all fun t' => if t.1 = t'.1 then decide (t = t') else t.2 != t'.2) && cd.2.2.2.all (fun (t : Nat × String × String × FieldType × Int32) => cd.2.2.2.all fun t' => if t.1 = t'.1 then decide (t = t') else t.2.1 != t'.2.1) &&
  cd.2.1.all (fun (t : Nat × String × String) => cd.2.2.1.all fun (t' : Nat × String) => t.2.1 != t'.2) && cd.2.1.all (fun (t : Nat × String × String) => cd.2.2.2.all fun (t' : Nat × String × String × FieldType × Int32) => t.2.1 != t'.2.1) && cd.2.2.1.all (fun (t : Nat × String) => cd.2.2.2.all fun (t' : Nat × String × String × FieldType × Int32) => t.2 != t'.2.1) &&
  cd.2.1.all (fun (t : Nat × String × String) => decide (parseFieldDescriptor t.2.2 = some .int) || decide (parseFieldDescriptor t.2.2 = some .boolean)) &&
  cd.2.2.2.all (fun (t : Nat × String × String × FieldType × Int32) => decide (parseFieldDescriptor t.2.2.1 = some (.array t.2.2.2.1)) && decide (t.1 < cd.2.2.2.length) && (decide (t.2.2.2.1 = .int) || decide (t.2.2.2.1 = .boolean) || decide (t.2.2.2.1 = .long)) && !decide (t.2.2.2.2 < 0))
theorem pair_of {α : Type} {L : List α} {f : α → Nat} {g : α → String} [DecidableEq α] (h : L.all (fun t => L.all fun t' => if f t = f t' then decide (t = t') else g t != g t') = true) : ∀ t ∈ L, ∀ t' ∈ L, (f t = f t' → t = t') ∧ (f t ≠ f t' → g t ≠ g t') := by
  intro t m t' m'
  have q := List.all_eq_true.mp (List.all_eq_true.mp h t m) t' m'
  constructor
  · intro e; rw [if_pos e] at q; exact of_decide_eq_true q
  · intro e; rw [if_neg e] at q; simpa using q
theorem apart_of {α β : Type} {L : List α} {L' : List β} {g : α → String} {g' : β → String} (h : L.all (fun t => L'.all fun t' => g t != g' t') = true) : ∀ t ∈ L, ∀ t' ∈ L', g t ≠ g' t' := by
  intro t m t' m'
  have q := List.all_eq_true.mp (List.all_eq_true.mp h t m) t' m'
  simpa using q
theorem okC.of {cd : CD} (h : okB cd = true) : okC cd := by
  unfold okB at h
  simp only [Bool.and_eq_true] at h
  obtain ⟨⟨⟨⟨⟨⟨⟨h1, h2⟩, h3⟩, h4⟩, h5⟩, h6⟩, h7⟩, h8⟩ := h
  refine ⟨pair_of (L := cd.2.1) (f := fun (t : Nat × String × String) => t.1) (g := fun (t : Nat × String × String) => t.2.1) h1, pair_of (L := cd.2.2.1) (f := fun (t : Nat × String) => t.1) (g := fun (t : Nat × String) => t.2) h2, pair_of (L := cd.2.2.2) (f := fun (t : Nat × String × String × FieldType × Int32) => t.1) (g := fun (t : Nat × String × String × FieldType × Int32) => t.2.1) h3, apart_of (L := cd.2.1) (L' := cd.2.2.1) (g := fun (t : Nat × String × String) => t.2.1) (g' := fun (t : Nat × String) => t.2) h4, apart_of (L := cd.2.1) (L' := cd.2.2.2) (g := fun (t : Nat × String × String) => t.2.1) (g' := fun (t : Nat × String × String × FieldType × Int32) => t.2.1) h5, apart_of (L := cd.2.2.1) (L' := cd.2.2.2) (g := fun (t : Nat × String) => t.2) (g' := fun (t : Nat × String × String × FieldType × Int32) => t.2.1) h6, fun t m => ?_, fun t m => ?_⟩
  · have q := List.all_eq_true.mp h7 t m
    simpa using q
  · have q := List.all_eq_true.mp h8 t m
    simp only [Bool.and_eq_true, Bool.or_eq_true, decide_eq_true_eq, Bool.not_eq_true', decide_eq_false_iff_not] at q
    exact ⟨q.1.1.1, q.1.1.2, by rcases q.1.2 with (a | a) | a <;> simp [a], q.2⟩
theorem nar1 : nar .boolean 1 = 1 := by decide
theorem nar0 : nar .boolean 0 = 0 := by decide
theorem nar_nar (x : Int32) : nar .boolean (nar .boolean x) = nar .boolean x := by
  show (x &&& 1) &&& 1 = x &&& 1
  rw [Int32.and_assoc]; rfl
theorem ne_toInt {x n : Int32} (q : ¬ x = n) : x.toInt ≠ n.toInt := fun h => q (Int32.toInt_inj.mp h)
/-! ## 6. The same calls where the callee's answer is known as a term -/
section FunC
variable {l : Launch} {Z : State} {a0 : Array Value} {cd : CD} {md md' : MD} {pc pc' wt idx : Nat} {L L' : List Slot} {S stk as : List Value} {w w1 : WO} {cu su cu' su' : Nat} {Q : Option Value → WO → Prop} {x : Value}
theorem Wk.callF (as : List Value) (S : List Value) (wl : (Cond.methodLink cd.1 idx (nmOf md')).before a0 Z = true) (cv : CalV Z a0 md' as.length) (hd : InsA md pc (.invokevirtual idx) 3 pc') (hcal : Wk l Z (MoC Z cd) md' 0 L' [] w 0 0 (fun v w' => v = some x ∧ w' = w1)) (ft : Fits md md' wt cu su cu' su') (hs : stk = as.reverse ++ .ref 0 :: S) (hc : (nmOf md').cls = cd.1) (nr : noRef as = true) (hL' : (argsToLocals (.ref 0 :: as).toArray (mxOf md')).toList = L') (hw : wfL L' = true) (hl : L.length = mxOf md)
    (hwt : (S.map fun v => v.category).sum = wt) (h : Wk l Z (MoC Z cd) md pc' L (x :: S) w1 cu' su' Q) : Wk l Z (MoC Z cd) md pc L stk w cu su Q :=
  Wk.callC as S hs wl cv hc nr hcal hL' hw hl hwt ft hd fun v w' q => by obtain ⟨rfl, rfl⟩ := q; exact h
theorem Wk.callU (as : List Value) (S : List Value) (wl : (Cond.methodLink cd.1 idx (nmOf md')).before a0 Z = true) (cv : CalV Z a0 md' as.length) (hd : InsA md pc (.invokevirtual idx) 3 pc') (hcal : Wk l Z (MoC Z cd) md' 0 L' [] w 0 0 (fun v w' => v = none ∧ w' = w1)) (ft : Fits md md' wt cu su cu' su') (hs : stk = as.reverse ++ .ref 0 :: S) (hc : (nmOf md').cls = cd.1) (nr : noRef as = true) (hL' : (argsToLocals (.ref 0 :: as).toArray (mxOf md')).toList = L') (hw : wfL L' = true) (hl : L.length = mxOf md)
    (hwt : (S.map fun v => v.category).sum = wt) (h : Wk l Z (MoC Z cd) md pc' L S w1 cu' su' Q) : Wk l Z (MoC Z cd) md pc L stk w cu su Q :=
  Wk.callC as S hs wl cv hc nr hcal hL' hw hl hwt ft hd fun v w' q => by obtain ⟨rfl, rfl⟩ := q; exact h
end FunC
section FunS
variable {μ E : Type} {l : Launch} {Z : State} {a0 : Array Value} {M : Mode μ E} {md md' : MD} {pc pc' wt idx : Nat} {L L' : List Slot} {S stk as : List Value} {w w1 : μ} {cu su cu' su' : Nat} {Q : Option Value → μ → Prop} {x : Value}
theorem Wk.callSF (hM : ∀ en h1 h2 h3, M.frm en h1 h2 → M.frm en h2 h3 → M.frm en h1 h3) (as : List Value) (S : List Value) (wl : (Cond.methodLink M.own idx (nmOf md')).before a0 Z = true) (cv : CalS Z a0 md' as.length) (hd : InsA md pc (.invokestatic idx) 3 pc') (hcal : Wk l Z M md' 0 L' [] w 0 0 (fun v w' => v = some x ∧ w' = w1)) (ft : Fits md md' wt cu su cu' su') (hs : stk = as.reverse ++ S) (hc : (nmOf md').cls = M.own) (hL' : (argsToLocals as.toArray (mxOf md')).toList = L') (hw : wfL L' = true) (hl : L.length = mxOf md)
    (hwt : (S.map fun v => v.category).sum = wt) (h : Wk l Z M md pc' L (x :: S) w1 cu' su' Q) : Wk l Z M md pc L stk w cu su Q :=
  Wk.callS hM as S hs wl cv hc hcal hL' hw hl hwt ft hd fun v w' q => by obtain ⟨rfl, rfl⟩ := q; exact h
theorem Wk.callSU (hM : ∀ en h1 h2 h3, M.frm en h1 h2 → M.frm en h2 h3 → M.frm en h1 h3) (as : List Value) (S : List Value) (wl : (Cond.methodLink M.own idx (nmOf md')).before a0 Z = true) (cv : CalS Z a0 md' as.length) (hd : InsA md pc (.invokestatic idx) 3 pc') (hcal : Wk l Z M md' 0 L' [] w 0 0 (fun v w' => v = none ∧ w' = w1)) (ft : Fits md md' wt cu su cu' su') (hs : stk = as.reverse ++ S) (hc : (nmOf md').cls = M.own) (hL' : (argsToLocals as.toArray (mxOf md')).toList = L') (hw : wfL L' = true) (hl : L.length = mxOf md)
    (hwt : (S.map fun v => v.category).sum = wt) (h : Wk l Z M md pc' L S w1 cu' su' Q) : Wk l Z M md pc L stk w cu su Q :=
  Wk.callS hM as S hs wl cv hc hcal hL' hw hl hwt ft hd fun v w' q => by obtain ⟨rfl, rfl⟩ := q; exact h
end FunS
section FunL
variable {l : Launch} {Z : State} {a0 : Array Value} {cd : CD} {own : String} {sc : Bool} {md md' : MD} {pc pc' wt idx : Nat} {L L' : List Slot} {S stk as : List Value} {sl : Int32} {sv : Int32 → Int32} {ws ws' : List WO} {cu su cu' su' : Nat} {Q : Option Value → WL → Prop} {v : Value} {y : WO}
theorem Wk.callLF (ok : CO Z a0 cd) (as : List Value) (i : Nat) (S : List Value) {i' : Nat} {x : WO} (wl : (Cond.methodLink own idx (nmOf md')).before a0 Z = true) (cv : CalV Z a0 md' as.length) (hd : InsA md pc (.invokevirtual idx) 3 pc') (hcal : Wk l Z (MoC Z cd) md' 0 L' [] x 0 0 (fun v' w' => v' = some v ∧ w' = y)) (ft : Fits md md' wt cu su cu' su') (hoth : allK cd.2.2.2.length (ws.eraseIdx i)) (hi' : i + 1 = i') (hs : stk = as.reverse ++ .ref i' :: S) (hx : ws[i]? = some x) (hc : (nmOf md').cls = cd.1) (nr : noRef as = true) (hL' : (argsToLocals (.ref 0 :: as).toArray (mxOf md')).toList = L') (hw : wfL L' = true) (hl : L.length = mxOf md)
    (hwt : (S.map fun v => v.category).sum = wt) (hk : y.1 = x.1 + exOf md') (hws : ws.set i y = ws') (h : Wk l Z (MoL Z cd own sc) md pc' L (v :: S) (sl, sv, ws') cu' su' Q) : Wk l Z (MoL Z cd own sc) md pc L stk (sl, sv, ws) cu su Q :=
  Wk.callLC ok as i S hi' hs hx hoth wl cv hc nr hcal hL' hw hl hwt ft hd (fun v' y' q => by obtain ⟨rfl, rfl⟩ := q; exact hk) fun v' y' q => by obtain ⟨rfl, rfl⟩ := q; subst hws; exact h
theorem Wk.callLU (ok : CO Z a0 cd) (as : List Value) (i : Nat) (S : List Value) {i' : Nat} {x : WO} (wl : (Cond.methodLink own idx (nmOf md')).before a0 Z = true) (cv : CalV Z a0 md' as.length) (hd : InsA md pc (.invokevirtual idx) 3 pc') (hcal : Wk l Z (MoC Z cd) md' 0 L' [] x 0 0 (fun v' w' => v' = none ∧ w' = y)) (ft : Fits md md' wt cu su cu' su') (hoth : allK cd.2.2.2.length (ws.eraseIdx i)) (hi' : i + 1 = i') (hs : stk = as.reverse ++ .ref i' :: S) (hx : ws[i]? = some x) (hc : (nmOf md').cls = cd.1) (nr : noRef as = true) (hL' : (argsToLocals (.ref 0 :: as).toArray (mxOf md')).toList = L') (hw : wfL L' = true) (hl : L.length = mxOf md)
    (hwt : (S.map fun v => v.category).sum = wt) (hk : y.1 = x.1 + exOf md') (hws : ws.set i y = ws') (h : Wk l Z (MoL Z cd own sc) md pc' L S (sl, sv, ws') cu' su' Q) : Wk l Z (MoL Z cd own sc) md pc L stk (sl, sv, ws) cu su Q :=
  Wk.callLC ok as i S hi' hs hx hoth wl cv hc nr hcal hL' hw hl hwt ft hd (fun v' y' q => by obtain ⟨rfl, rfl⟩ := q; exact hk) fun v' y' q => by obtain ⟨rfl, rfl⟩ := q; subst hws; exact h
theorem Wk.ctorLU (ok : CO Z a0 cd) (as : List Value) (i : Nat) (S : List Value) {i' : Nat} {x : WO} (wl : (Cond.methodLink own idx (nmOf md')).before a0 Z = true) (cv : CalI Z a0 md' as.length) (hd : InsA md pc (.invokespecial idx) 3 pc') (hcal : Wk l Z (MoC Z cd) md' 0 L' [] x 0 0 (fun v' w' => v' = none ∧ w' = y)) (ft : Fits md md' wt cu su cu' su') (hoth : allK cd.2.2.2.length (ws.eraseIdx i)) (hi' : i + 1 = i') (hs : stk = as.reverse ++ .ref i' :: S) (hx : ws[i]? = some x) (hc : (nmOf md').cls = cd.1) (nr : noRef as = true) (hL' : (argsToLocals (.ref 0 :: as).toArray (mxOf md')).toList = L') (hw : wfL L' = true) (hl : L.length = mxOf md)
    (hwt : (S.map fun v => v.category).sum = wt) (hk : y.1 = x.1 + exOf md') (hws : ws.set i y = ws') (h : Wk l Z (MoL Z cd own sc) md pc' L S (sl, sv, ws') cu' su' Q) : Wk l Z (MoL Z cd own sc) md pc L stk (sl, sv, ws) cu su Q :=
  Wk.ctorL ok as i S hi' hs hx hoth wl cv hc nr hcal hL' hw hl hwt ft hd (fun v' y' q => by obtain ⟨rfl, rfl⟩ := q; exact hk) fun v' y' q => by obtain ⟨rfl, rfl⟩ := q; subst hws; exact h
end FunL
end Jvm.Own

namespace Jvm.Own
open Jvm
/-! ## 7. Plain helpers -/
theorem lt_i {x y : Int32} : x < y ↔ x.toInt < y.toInt := Int32.lt_iff_toInt_lt
theorem add_toInt {x y : Int32} (h1 : -2147483648 ≤ x.toInt + y.toInt) (h2 : x.toInt + y.toInt < 2147483648) : (x + y).toInt = x.toInt + y.toInt := by
  rw [Int32.toInt_add]
  exact Int.bmod_eq_of_le (by omega) (by omega)
theorem sub_toInt {x y : Int32} (h1 : -2147483648 ≤ x.toInt - y.toInt) (h2 : x.toInt - y.toInt < 2147483648) : (x - y).toInt = x.toInt - y.toInt := by
  rw [Int32.toInt_sub]
  exact Int.bmod_eq_of_le (by omega) (by omega)
theorem succ_toInt {i n : Int32} (h : i < n) : (i + 1).toInt = i.toInt + 1 := by
  have h1 := lt_i.mp h
  have h2 := Int32.toInt_lt n
  have h3 := Int32.le_toInt i
  exact add_toInt (x := i) (y := 1) (by show -2147483648 ≤ i.toInt + 1; omega) (by show i.toInt + 1 < 2147483648; omega)
/-- a loop that counts up to n: backwards from its end -/
theorem loopUp {n : Int32} {P : Int32 → Prop} (hend : P n) (hstep : ∀ i, ¬ i < 0 → i < n → P (i + 1) → P i) : ∀ i, ¬ i < 0 → ¬ n < i → P i := by
  have key : ∀ (k : Nat) (i : Int32), ¬ i < 0 → ¬ n < i → (n.toInt - i.toInt).toNat = k → P i := by
    intro k
    induction k with
    | zero =>
      intro i h0 h1 hk
      have e : i = n := by
        rw [lt_i] at h1
        exact Int32.toInt_inj.mp (by omega)
      subst e; exact hend
    | succ k ih =>
      intro i h0 h1 hk
      rw [lt_i] at h1
      have hlt : i < n := lt_i.mpr (by omega)
      have hs := succ_toInt hlt
      have h0' : ¬ i.toInt < 0 := fun q => h0 (lt_i.mpr q)
      refine hstep i h0 hlt (ih (i + 1) ?_ ?_ ?_)
      · rw [lt_i, hs]; show ¬ i.toInt + 1 < 0; omega
      · rw [lt_i, hs]; omega
      · rw [hs]; omega
  exact fun i h0 h1 => key _ i h0 h1 rfl
/-- the first n places hold c -/
def fill {α : Type} (f : Int32 → α) (n : Int32) (c : α) : Int32 → α := fun x => if ¬ x < 0 ∧ x < n then c else f x
theorem fill_zero {α : Type} (f : Int32 → α) (c : α) : fill f 0 c = f := by
  funext x; exact if_neg fun q => q.1 q.2
theorem fill_succ {α : Type} (f : Int32 → α) (c : α) {i n : Int32} (h0 : ¬ i < 0) (h : i < n) : ups (fill f i c) i c = fill f (i + 1) c := by
  funext x
  have hs := succ_toInt h
  have h0' : ¬ i.toInt < 0 := fun q => h0 (lt_i.mpr q)
  unfold ups fill
  by_cases e : x = i
  · rw [if_pos e, if_pos]
    subst e
    exact ⟨h0, lt_i.mpr (by omega)⟩
  · rw [if_neg e]
    have e' : x.toInt ≠ i.toInt := fun q => e (Int32.toInt_inj.mp q)
    by_cases q : ¬ x < 0 ∧ x < i
    · rw [if_pos q, if_pos ⟨q.1, lt_i.mpr (by have := lt_i.mp q.2; omega)⟩]
    · rw [if_neg q, if_neg]
      rintro ⟨a, b⟩
      exact q ⟨a, lt_i.mpr (by have := lt_i.mp b; omega)⟩
theorem fill_in {α : Type} (f : Int32 → α) (c : α) {x n : Int32} (h0 : ¬ x < 0) (h : x < n) : fill f n c x = c := if_pos ⟨h0, h⟩
theorem ups_self {κ α : Type} [DecidableEq κ] (f : κ → α) (i : κ) : ups f i (f i) = f := by
  funext k; unfold ups; by_cases e : k = i
  · rw [if_pos e, e]
  · rw [if_neg e]
theorem ups_upd {κ α : Type} [DecidableEq κ] (f : κ → α) (i : κ) (x y : α) : ups (ups f i x) i y = ups f i y := by
  funext k; unfold ups; by_cases e : k = i
  · rw [if_pos e, if_pos e]
  · rw [if_neg e, if_neg e, if_neg e]
theorem ups_comm {κ α : Type} [DecidableEq κ] (f : κ → α) {i j : κ} (x y : α) (h : i ≠ j) : ups (ups f i x) j y = ups (ups f j y) i x := by
  funext k; unfold ups; by_cases e : k = i
  · have : k ≠ j := fun q => h (e.symm.trans q)
    rw [if_neg this, if_pos e, if_pos e]
  · by_cases e2 : k = j
    · rw [if_pos e2, if_neg e, if_pos e2]
    · rw [if_neg e2, if_neg e, if_neg e, if_neg e2]
end Jvm.Own

namespace Jvm.Own
open Jvm Jvm.Free
/-! ## 8. Bits -/
theorem toNat_toInt (x : Int32) : (x.toBitVec.toNat : Int) = x.toInt % 4294967296 := by
  have h1 : x.toInt = x.toBitVec.toInt := rfl
  rw [h1, BitVec.toInt_eq_toNat_bmod]
  have h2 := x.toBitVec.isLt
  have h3 := Int.bmod_emod (x := (x.toBitVec.toNat : Int)) (m := 2 ^ 32)
  have h4 : ((2 ^ 32 : Nat) : Int) = 4294967296 := rfl
  rw [h4] at h3
  rw [h3]; omega
theorem and_mask (x m : Int32) (k : Nat) (hk : k < 31) (hm : m.toBitVec.toNat = 2 ^ k - 1) : (x &&& m).toInt = x.toInt % ((2 ^ k : Nat) : Int) := by
  have h1 : (x &&& m).toInt = (x.toBitVec &&& m.toBitVec).toInt := rfl
  have h2 : (x.toBitVec &&& m.toBitVec).toNat = x.toBitVec.toNat % 2 ^ k := by rw [BitVec.toNat_and, hm, Nat.and_two_pow_sub_one_eq_mod]
  have h3 : (2 ^ k : Nat) ≤ 2 ^ 30 := Nat.pow_le_pow_right (by decide) (by omega)
  have h4 : x.toBitVec.toNat % 2 ^ k < 2 ^ k := Nat.mod_lt _ (Nat.two_pow_pos k)
  have h5 : (2 ^ k : Nat) ∣ 4294967296 := ⟨2 ^ (32 - k), by rw [← Nat.pow_add]; have : k + (32 - k) = 32 := by omega
                                                            rw [this]⟩
  rw [h1, BitVec.toInt_eq_toNat_of_lt (by rw [h2]; omega), h2, Int.natCast_emod, toNat_toInt]
  exact Int.emod_emod_of_dvd _ (Int.natCast_dvd_natCast.mpr h5)
theorem sar_toInt (x y : Int32) (k : Nat) (hy : y.toBitVec.smod 32#32 = BitVec.ofNat 32 k) (hk : k < 32) : (x >>> y).toInt = x.toInt / ((2 ^ k : Nat) : Int) := by
  have h1 : (x >>> y).toInt = (x.toBitVec.sshiftRight' (y.toBitVec.smod 32#32)).toInt := rfl
  rw [h1, hy, BitVec.sshiftRight_eq', BitVec.toInt_sshiftRight, BitVec.toNat_ofNat, Nat.mod_eq_of_lt (by omega), Int.shiftRight_eq_div_pow]
  rfl
theorem ushr_pos (x y : Int32) (k : Nat) (hy : (y &&& 31).toBitVec.toNat = k) (hx : ¬ x < 0) : (XT.ushr x y).toInt = x.toInt / ((2 ^ k : Nat) : Int) := by
  have hx' : 0 ≤ x.toInt := by rw [lt_i] at hx; have z : (0 : Int32).toInt = 0 := rfl; omega
  have h0 : (x.toBitVec.toNat : Int) = x.toInt := by rw [toNat_toInt]; have := Int32.toInt_lt x; omega
  have hy' : k < 32 := by
    rw [← hy]
    have : (y &&& 31).toBitVec.toNat = y.toBitVec.toNat % 2 ^ 5 := by
      show (y.toBitVec &&& 31#32).toNat = _
      rw [BitVec.toNat_and]; exact Nat.and_two_pow_sub_one_eq_mod _ 5
    omega
  have h1 : (XT.ushr x y).toBitVec = x.toBitVec >>> k := by
    show x.toBitVec >>> ((y &&& 31).toBitVec % 32#32) = _
    rw [BitVec.ushiftRight_eq', BitVec.toNat_umod, hy]
    show x.toBitVec >>> (k % 32) = _
    rw [Nat.mod_eq_of_lt hy']
  have h2 : (x.toBitVec >>> k).toNat = x.toBitVec.toNat / 2 ^ k := by rw [BitVec.toNat_ushiftRight, Nat.shiftRight_eq_div_pow]
  have h3 : (XT.ushr x y).toInt = (x.toBitVec >>> k).toInt := by rw [← h1]; rfl
  have h4 : x.toBitVec.toNat / 2 ^ k ≤ x.toBitVec.toNat := Nat.div_le_self _ _
  rw [h3, BitVec.toInt_eq_toNat_of_lt (by rw [h2]; have := Int32.toInt_lt x; omega), h2, Int.natCast_ediv, h0]
end Jvm.Own
namespace Jvm.Pilot.@@N@@
open Jvm Jvm.ClassFile Sem Op Lib Jvm.Free Jvm.Stand Jvm.LawKit Jvm.RoadKit Bundle Jvm.Own Jvm.Pilot.@@N@@.Jvm.D
def OK (Z : State) (a0 : Array Value) : Prop := ∀ d ∈ tables_1, d.before a0 Z = true
theorem OK.w {Z : State} {a0 : Array Value} (H : OK Z a0) (i : Nat) {d : Jvm.Cond} (h : tables_1[i]? = some d) : d.before a0 Z = true := H _ (List.mem_of_getElem? h)
abbrev cdC : CD := ("RebaseLoader", [(0, "cap", "I"), (1, "maxRec", "I"), (2, "nSec", "I"), (3, "imgSize", "I"), (4, "nRec", "I"), (5, "state", "I"), (6, "baseAddr", "I"), (7, "pcReg", "I")], [], [(0, "secStart", "[I", .int, 4), (1, "secSize", "[I", .int, 4), (2, "raw", "[I", .int, 64), (3, "cur", "[I", .int, 64), (4, "taken", "[Z", .boolean, 64), (5, "recKind", "[I", .int, 32), (6, "recOff", "[I", .int, 32), (7, "recTarget", "[I", .int, 32), (8, "recLoOff", "[I", .int, 32), (9, "regs", "[I", .int, 8)])
theorem okcC : okC cdC := okC.of (by decide +kernel)
theorem mI_cap : (0, "cap", "I") ∈ cdC.2.1 := List.mem_of_getElem? (i := 0) rfl
theorem mI_maxRec : (1, "maxRec", "I") ∈ cdC.2.1 := List.mem_of_getElem? (i := 1) rfl
theorem mI_nSec : (2, "nSec", "I") ∈ cdC.2.1 := List.mem_of_getElem? (i := 2) rfl
theorem mI_imgSize : (3, "imgSize", "I") ∈ cdC.2.1 := List.mem_of_getElem? (i := 3) rfl
theorem mI_nRec : (4, "nRec", "I") ∈ cdC.2.1 := List.mem_of_getElem? (i := 4) rfl
theorem mI_state : (5, "state", "I") ∈ cdC.2.1 := List.mem_of_getElem? (i := 5) rfl
theorem mI_baseAddr : (6, "baseAddr", "I") ∈ cdC.2.1 := List.mem_of_getElem? (i := 6) rfl
theorem mI_pcReg : (7, "pcReg", "I") ∈ cdC.2.1 := List.mem_of_getElem? (i := 7) rfl
theorem mA_secStart : (0, "secStart", "[I", FieldType.int, (4 : Int32)) ∈ cdC.2.2.2 := List.mem_of_getElem? (i := 0) rfl
theorem mA_secSize : (1, "secSize", "[I", FieldType.int, (4 : Int32)) ∈ cdC.2.2.2 := List.mem_of_getElem? (i := 1) rfl
theorem mA_raw : (2, "raw", "[I", FieldType.int, (64 : Int32)) ∈ cdC.2.2.2 := List.mem_of_getElem? (i := 2) rfl
theorem mA_cur : (3, "cur", "[I", FieldType.int, (64 : Int32)) ∈ cdC.2.2.2 := List.mem_of_getElem? (i := 3) rfl
theorem mA_taken : (4, "taken", "[Z", FieldType.boolean, (64 : Int32)) ∈ cdC.2.2.2 := List.mem_of_getElem? (i := 4) rfl
theorem mA_recKind : (5, "recKind", "[I", FieldType.int, (32 : Int32)) ∈ cdC.2.2.2 := List.mem_of_getElem? (i := 5) rfl
theorem mA_recOff : (6, "recOff", "[I", FieldType.int, (32 : Int32)) ∈ cdC.2.2.2 := List.mem_of_getElem? (i := 6) rfl
theorem mA_recTarget : (7, "recTarget", "[I", FieldType.int, (32 : Int32)) ∈ cdC.2.2.2 := List.mem_of_getElem? (i := 7) rfl
theorem mA_recLoOff : (8, "recLoOff", "[I", FieldType.int, (32 : Int32)) ∈ cdC.2.2.2 := List.mem_of_getElem? (i := 8) rfl
theorem mA_regs : (9, "regs", "[I", FieldType.int, (8 : Int32)) ∈ cdC.2.2.2 := List.mem_of_getElem? (i := 9) rfl
theorem wf_secStart {Z : State} {a0 : Array Value} (H : OK Z a0) : (Cond.fieldLink "RebaseLoader" 7 "RebaseLoader" "secStart" "[I").before a0 Z = true := H.w 10 rfl
theorem wf_secSize {Z : State} {a0 : Array Value} (H : OK Z a0) : (Cond.fieldLink "RebaseLoader" 13 "RebaseLoader" "secSize" "[I").before a0 Z = true := H.w 12 rfl
theorem wf_raw {Z : State} {a0 : Array Value} (H : OK Z a0) : (Cond.fieldLink "RebaseLoader" 16 "RebaseLoader" "raw" "[I").before a0 Z = true := H.w 14 rfl
theorem wf_cur {Z : State} {a0 : Array Value} (H : OK Z a0) : (Cond.fieldLink "RebaseLoader" 19 "RebaseLoader" "cur" "[I").before a0 Z = true := H.w 16 rfl
theorem wf_taken {Z : State} {a0 : Array Value} (H : OK Z a0) : (Cond.fieldLink "RebaseLoader" 22 "RebaseLoader" "taken" "[Z").before a0 Z = true := H.w 19 rfl
theorem wf_recKind {Z : State} {a0 : Array Value} (H : OK Z a0) : (Cond.fieldLink "RebaseLoader" 26 "RebaseLoader" "recKind" "[I").before a0 Z = true := H.w 21 rfl
theorem wf_recOff {Z : State} {a0 : Array Value} (H : OK Z a0) : (Cond.fieldLink "RebaseLoader" 29 "RebaseLoader" "recOff" "[I").before a0 Z = true := H.w 23 rfl
theorem wf_recTarget {Z : State} {a0 : Array Value} (H : OK Z a0) : (Cond.fieldLink "RebaseLoader" 32 "RebaseLoader" "recTarget" "[I").before a0 Z = true := H.w 25 rfl
theorem wf_recLoOff {Z : State} {a0 : Array Value} (H : OK Z a0) : (Cond.fieldLink "RebaseLoader" 35 "RebaseLoader" "recLoOff" "[I").before a0 Z = true := H.w 27 rfl
theorem wf_regs {Z : State} {a0 : Array Value} (H : OK Z a0) : (Cond.fieldLink "RebaseLoader" 38 "RebaseLoader" "regs" "[I").before a0 Z = true := H.w 29 rfl
theorem wf_cap {Z : State} {a0 : Array Value} (H : OK Z a0) : (Cond.fieldLink "RebaseLoader" 45 "RebaseLoader" "cap" "I").before a0 Z = true := H.w 35 rfl
theorem wf_maxRec {Z : State} {a0 : Array Value} (H : OK Z a0) : (Cond.fieldLink "RebaseLoader" 49 "RebaseLoader" "maxRec" "I").before a0 Z = true := H.w 37 rfl
theorem wf_state {Z : State} {a0 : Array Value} (H : OK Z a0) : (Cond.fieldLink "RebaseLoader" 52 "RebaseLoader" "state" "I").before a0 Z = true := H.w 39 rfl
theorem wf_nSec {Z : State} {a0 : Array Value} (H : OK Z a0) : (Cond.fieldLink "RebaseLoader" 55 "RebaseLoader" "nSec" "I").before a0 Z = true := H.w 41 rfl
theorem wf_nRec {Z : State} {a0 : Array Value} (H : OK Z a0) : (Cond.fieldLink "RebaseLoader" 58 "RebaseLoader" "nRec" "I").before a0 Z = true := H.w 43 rfl
theorem wf_imgSize {Z : State} {a0 : Array Value} (H : OK Z a0) : (Cond.fieldLink "RebaseLoader" 61 "RebaseLoader" "imgSize" "I").before a0 Z = true := H.w 45 rfl
theorem wf_baseAddr {Z : State} {a0 : Array Value} (H : OK Z a0) : (Cond.fieldLink "RebaseLoader" 64 "RebaseLoader" "baseAddr" "I").before a0 Z = true := H.w 47 rfl
theorem wf_pcReg {Z : State} {a0 : Array Value} (H : OK Z a0) : (Cond.fieldLink "RebaseLoader" 67 "RebaseLoader" "pcReg" "I").before a0 Z = true := H.w 49 rfl
theorem wy_secStart {Z : State} {a0 : Array Value} (H : OK Z a0) : (Cond.lays "RebaseLoader" "RebaseLoader" "secStart" "[I").before a0 Z = true := H.w 11 rfl
theorem wy_secSize {Z : State} {a0 : Array Value} (H : OK Z a0) : (Cond.lays "RebaseLoader" "RebaseLoader" "secSize" "[I").before a0 Z = true := H.w 13 rfl
theorem wy_raw {Z : State} {a0 : Array Value} (H : OK Z a0) : (Cond.lays "RebaseLoader" "RebaseLoader" "raw" "[I").before a0 Z = true := H.w 15 rfl
theorem wy_cur {Z : State} {a0 : Array Value} (H : OK Z a0) : (Cond.lays "RebaseLoader" "RebaseLoader" "cur" "[I").before a0 Z = true := H.w 17 rfl
theorem wy_taken {Z : State} {a0 : Array Value} (H : OK Z a0) : (Cond.lays "RebaseLoader" "RebaseLoader" "taken" "[Z").before a0 Z = true := H.w 20 rfl
theorem wy_recKind {Z : State} {a0 : Array Value} (H : OK Z a0) : (Cond.lays "RebaseLoader" "RebaseLoader" "recKind" "[I").before a0 Z = true := H.w 22 rfl
theorem wy_recOff {Z : State} {a0 : Array Value} (H : OK Z a0) : (Cond.lays "RebaseLoader" "RebaseLoader" "recOff" "[I").before a0 Z = true := H.w 24 rfl
theorem wy_recTarget {Z : State} {a0 : Array Value} (H : OK Z a0) : (Cond.lays "RebaseLoader" "RebaseLoader" "recTarget" "[I").before a0 Z = true := H.w 26 rfl
theorem wy_recLoOff {Z : State} {a0 : Array Value} (H : OK Z a0) : (Cond.lays "RebaseLoader" "RebaseLoader" "recLoOff" "[I").before a0 Z = true := H.w 28 rfl
theorem wy_regs {Z : State} {a0 : Array Value} (H : OK Z a0) : (Cond.lays "RebaseLoader" "RebaseLoader" "regs" "[I").before a0 Z = true := H.w 30 rfl
theorem wy_cap {Z : State} {a0 : Array Value} (H : OK Z a0) : (Cond.lays "RebaseLoader" "RebaseLoader" "cap" "I").before a0 Z = true := H.w 36 rfl
theorem wy_maxRec {Z : State} {a0 : Array Value} (H : OK Z a0) : (Cond.lays "RebaseLoader" "RebaseLoader" "maxRec" "I").before a0 Z = true := H.w 38 rfl
theorem wy_state {Z : State} {a0 : Array Value} (H : OK Z a0) : (Cond.lays "RebaseLoader" "RebaseLoader" "state" "I").before a0 Z = true := H.w 40 rfl
theorem wy_nSec {Z : State} {a0 : Array Value} (H : OK Z a0) : (Cond.lays "RebaseLoader" "RebaseLoader" "nSec" "I").before a0 Z = true := H.w 42 rfl
theorem wy_nRec {Z : State} {a0 : Array Value} (H : OK Z a0) : (Cond.lays "RebaseLoader" "RebaseLoader" "nRec" "I").before a0 Z = true := H.w 44 rfl
theorem wy_imgSize {Z : State} {a0 : Array Value} (H : OK Z a0) : (Cond.lays "RebaseLoader" "RebaseLoader" "imgSize" "I").before a0 Z = true := H.w 46 rfl
theorem wy_baseAddr {Z : State} {a0 : Array Value} (H : OK Z a0) : (Cond.lays "RebaseLoader" "RebaseLoader" "baseAddr" "I").before a0 Z = true := H.w 48 rfl
theorem wy_pcReg {Z : State} {a0 : Array Value} (H : OK Z a0) : (Cond.lays "RebaseLoader" "RebaseLoader" "pcReg" "I").before a0 Z = true := H.w 50 rfl
theorem wa_int {Z : State} {a0 : Array Value} (H : OK Z a0) : (Cond.arrayClass (newarray.typeOf .int)).before a0 Z = true := H.w 9 rfl
theorem wa_boolean {Z : State} {a0 : Array Value} (H : OK Z a0) : (Cond.arrayClass (newarray.typeOf .boolean)).before a0 Z = true := H.w 18 rfl
theorem wz_C {Z : State} {a0 : Array Value} (H : OK Z a0) : (Cond.initialized "RebaseLoader").before a0 Z = true := H.w 2 rfl
theorem coC {Z : State} {a0 : Array Value} (H : OK Z a0) : CO Z a0 cdC := by
  refine ⟨⟨18, H.w 1 rfl⟩, ?_, ?_, ?_, okcC⟩
  · intro t m; simp only [cdC, List.mem_cons, List.not_mem_nil, or_false] at m
    rcases m with rfl | rfl | rfl | rfl | rfl | rfl | rfl | rfl
    · exact Or.inl (wy_cap H)
    · exact Or.inl (wy_maxRec H)
    · exact Or.inl (wy_nSec H)
    · exact Or.inl (wy_imgSize H)
    · exact Or.inl (wy_nRec H)
    · exact Or.inl (wy_state H)
    · exact Or.inl (wy_baseAddr H)
    · exact Or.inl (wy_pcReg H)
  · intro t m; cases m
  · intro t m; simp only [cdC, List.mem_cons, List.not_mem_nil, or_false] at m
    rcases m with rfl | rfl | rfl | rfl | rfl | rfl | rfl | rfl | rfl | rfl
    · exact Or.inl (wy_secStart H)
    · exact Or.inl (wy_secSize H)
    · exact Or.inl (wy_raw H)
    · exact Or.inl (wy_cur H)
    · exact Or.inl (wy_taken H)
    · exact Or.inl (wy_recKind H)
    · exact Or.inl (wy_recOff H)
    · exact Or.inl (wy_recTarget H)
    · exact Or.inl (wy_recLoOff H)
    · exact Or.inl (wy_regs H)
theorem mrC {Z : State} (en : Nat × Nat) (h : Heap) : (MoC Z cdC).frm en h h := frmC.refl _ _ _
theorem mtC {Z : State} (en : Nat × Nat) (h1 h2 h3 : Heap) (a : (MoC Z cdC).frm en h1 h2) (b : (MoC Z cdC).frm en h2 h3) : (MoC Z cdC).frm en h1 h3 := frmC.trans a b
theorem mrL {Z : State} (en : Nat × Nat) (h : Heap) : (MoL Z cdC "RebaseLoaderL3" false).frm en h h := trivial
theorem mtL {Z : State} (en : Nat × Nat) (h1 h2 h3 : Heap) (a : (MoL Z cdC "RebaseLoaderL3" false).frm en h1 h2) (b : (MoL Z cdC "RebaseLoaderL3" false).frm en h2 h3) : (MoL Z cdC "RebaseLoaderL3" false).frm en h1 h3 := trivial
theorem pn_RebaseLoader : plainName "RebaseLoader" = true := by first | (simp [plainName, overriddenIn]; done) | decide +kernel
theorem pn_RebaseLoaderL3 : plainName "RebaseLoaderL3" = true := by first | (simp [plainName, overriddenIn]; done) | decide +kernel
theorem pd___I : ∀ sig, parseMethodDescriptor "()I" = some sig → 0 = sig.parameters.length := fun sig h => by
  have q : parseMethodDescriptor "()I" = some ⟨[], some .int⟩ := by decide +kernel
  cases q.symm.trans h; rfl
theorem pd___V : ∀ sig, parseMethodDescriptor "()V" = some sig → 0 = sig.parameters.length := fun sig h => by
  have q : parseMethodDescriptor "()V" = some ⟨[], none⟩ := by decide +kernel
  cases q.symm.trans h; rfl
theorem pd__I_I : ∀ sig, parseMethodDescriptor "(I)I" = some sig → 1 = sig.parameters.length := fun sig h => by
  have q : parseMethodDescriptor "(I)I" = some ⟨[.int], some .int⟩ := by decide +kernel
  cases q.symm.trans h; rfl
theorem pd__I_V : ∀ sig, parseMethodDescriptor "(I)V" = some sig → 1 = sig.parameters.length := fun sig h => by
  have q : parseMethodDescriptor "(I)V" = some ⟨[.int], none⟩ := by decide +kernel
  cases q.symm.trans h; rfl
theorem pd__I_Z : ∀ sig, parseMethodDescriptor "(I)Z" = some sig → 1 = sig.parameters.length := fun sig h => by
  have q : parseMethodDescriptor "(I)Z" = some ⟨[.int], some .boolean⟩ := by decide +kernel
  cases q.symm.trans h; rfl
theorem pd__II_I : ∀ sig, parseMethodDescriptor "(II)I" = some sig → 2 = sig.parameters.length := fun sig h => by
  have q : parseMethodDescriptor "(II)I" = some ⟨[.int, .int], some .int⟩ := by decide +kernel
  cases q.symm.trans h; rfl
theorem pd__II_V : ∀ sig, parseMethodDescriptor "(II)V" = some sig → 2 = sig.parameters.length := fun sig h => by
  have q : parseMethodDescriptor "(II)V" = some ⟨[.int, .int], none⟩ := by decide +kernel
  cases q.symm.trans h; rfl
theorem pd__III_I : ∀ sig, parseMethodDescriptor "(III)I" = some sig → 3 = sig.parameters.length := fun sig h => by
  have q : parseMethodDescriptor "(III)I" = some ⟨[.int, .int, .int], some .int⟩ := by decide +kernel
  cases q.symm.trans h; rfl
theorem pd__III_V : ∀ sig, parseMethodDescriptor "(III)V" = some sig → 3 = sig.parameters.length := fun sig h => by
  have q : parseMethodDescriptor "(III)V" = some ⟨[.int, .int, .int], none⟩ := by decide +kernel
  cases q.symm.trans h; rfl
theorem pd__III_Z : ∀ sig, parseMethodDescriptor "(III)Z" = some sig → 3 = sig.parameters.length := fun sig h => by
  have q : parseMethodDescriptor "(III)Z" = some ⟨[.int, .int, .int], some .boolean⟩ := by decide +kernel
  cases q.symm.trans h; rfl
theorem pd__IIII_I : ∀ sig, parseMethodDescriptor "(IIII)I" = some sig → 4 = sig.parameters.length := fun sig h => by
  have q : parseMethodDescriptor "(IIII)I" = some ⟨[.int, .int, .int, .int], some .int⟩ := by decide +kernel
  cases q.symm.trans h; rfl
theorem pd__IIIII_V : ∀ sig, parseMethodDescriptor "(IIIII)V" = some sig → 5 = sig.parameters.length := fun sig h => by
  have q : parseMethodDescriptor "(IIIII)V" = some ⟨[.int, .int, .int, .int, .int], none⟩ := by decide +kernel
  cases q.symm.trans h; rfl
abbrev md_init : MD := (⟨"RebaseLoader", "<init>", "(II)V"⟩, prog_1_method_1_code, 3, none, { frames := 1, cells := 10, slots := 336, locals := 16 }, 10)
theorem cv_init {Z : State} {a0 : Array Value} (H : OK Z a0) : CalI Z a0 md_init 2 := ⟨pn_RebaseLoader, by decide, pd__II_V, H.w 4 rfl, H.w 5 rfl, H.w 2 rfl, rfl, rfl⟩
theorem o_init_0 : InsA md_init 0 (.aload_n 0) 1 1 := ⟨by decide +kernel, rfl⟩
theorem o_init_1 : InsA md_init 1 (.invokespecial 1) 3 4 := ⟨by decide +kernel, rfl⟩
theorem o_init_4 : InsA md_init 4 (.aload_n 0) 1 5 := ⟨by decide +kernel, rfl⟩
theorem o_init_5 : InsA md_init 5 (.iconst 4) 1 6 := ⟨by decide +kernel, rfl⟩
theorem o_init_6 : InsA md_init 6 (.newarray .int) 2 8 := ⟨by decide +kernel, rfl⟩
theorem o_init_8 : InsA md_init 8 (.putfield 7) 3 11 := ⟨by decide +kernel, rfl⟩
theorem o_init_11 : InsA md_init 11 (.aload_n 0) 1 12 := ⟨by decide +kernel, rfl⟩
theorem o_init_12 : InsA md_init 12 (.iconst 4) 1 13 := ⟨by decide +kernel, rfl⟩
theorem o_init_13 : InsA md_init 13 (.newarray .int) 2 15 := ⟨by decide +kernel, rfl⟩
theorem o_init_15 : InsA md_init 15 (.putfield 13) 3 18 := ⟨by decide +kernel, rfl⟩
theorem o_init_18 : InsA md_init 18 (.aload_n 0) 1 19 := ⟨by decide +kernel, rfl⟩
theorem o_init_19 : InsA md_init 19 (.bipush 64) 2 21 := ⟨by decide +kernel, rfl⟩
theorem o_init_21 : InsA md_init 21 (.newarray .int) 2 23 := ⟨by decide +kernel, rfl⟩
theorem o_init_23 : InsA md_init 23 (.putfield 16) 3 26 := ⟨by decide +kernel, rfl⟩
theorem o_init_26 : InsA md_init 26 (.aload_n 0) 1 27 := ⟨by decide +kernel, rfl⟩
theorem o_init_27 : InsA md_init 27 (.bipush 64) 2 29 := ⟨by decide +kernel, rfl⟩
theorem o_init_29 : InsA md_init 29 (.newarray .int) 2 31 := ⟨by decide +kernel, rfl⟩
theorem o_init_31 : InsA md_init 31 (.putfield 19) 3 34 := ⟨by decide +kernel, rfl⟩
theorem o_init_34 : InsA md_init 34 (.aload_n 0) 1 35 := ⟨by decide +kernel, rfl⟩
theorem o_init_35 : InsA md_init 35 (.bipush 64) 2 37 := ⟨by decide +kernel, rfl⟩
theorem o_init_37 : InsA md_init 37 (.newarray .boolean) 2 39 := ⟨by decide +kernel, rfl⟩
theorem o_init_39 : InsA md_init 39 (.putfield 22) 3 42 := ⟨by decide +kernel, rfl⟩
theorem o_init_42 : InsA md_init 42 (.aload_n 0) 1 43 := ⟨by decide +kernel, rfl⟩
theorem o_init_43 : InsA md_init 43 (.bipush 32) 2 45 := ⟨by decide +kernel, rfl⟩
theorem o_init_45 : InsA md_init 45 (.newarray .int) 2 47 := ⟨by decide +kernel, rfl⟩
theorem o_init_47 : InsA md_init 47 (.putfield 26) 3 50 := ⟨by decide +kernel, rfl⟩
theorem o_init_50 : InsA md_init 50 (.aload_n 0) 1 51 := ⟨by decide +kernel, rfl⟩
theorem o_init_51 : InsA md_init 51 (.bipush 32) 2 53 := ⟨by decide +kernel, rfl⟩
theorem o_init_53 : InsA md_init 53 (.newarray .int) 2 55 := ⟨by decide +kernel, rfl⟩
theorem o_init_55 : InsA md_init 55 (.putfield 29) 3 58 := ⟨by decide +kernel, rfl⟩
theorem o_init_58 : InsA md_init 58 (.aload_n 0) 1 59 := ⟨by decide +kernel, rfl⟩
theorem o_init_59 : InsA md_init 59 (.bipush 32) 2 61 := ⟨by decide +kernel, rfl⟩
theorem o_init_61 : InsA md_init 61 (.newarray .int) 2 63 := ⟨by decide +kernel, rfl⟩
theorem o_init_63 : InsA md_init 63 (.putfield 32) 3 66 := ⟨by decide +kernel, rfl⟩
theorem o_init_66 : InsA md_init 66 (.aload_n 0) 1 67 := ⟨by decide +kernel, rfl⟩
theorem o_init_67 : InsA md_init 67 (.bipush 32) 2 69 := ⟨by decide +kernel, rfl⟩
theorem o_init_69 : InsA md_init 69 (.newarray .int) 2 71 := ⟨by decide +kernel, rfl⟩
theorem o_init_71 : InsA md_init 71 (.putfield 35) 3 74 := ⟨by decide +kernel, rfl⟩
theorem o_init_74 : InsA md_init 74 (.aload_n 0) 1 75 := ⟨by decide +kernel, rfl⟩
theorem o_init_75 : InsA md_init 75 (.bipush 8) 2 77 := ⟨by decide +kernel, rfl⟩
theorem o_init_77 : InsA md_init 77 (.newarray .int) 2 79 := ⟨by decide +kernel, rfl⟩
theorem o_init_79 : InsA md_init 79 (.putfield 38) 3 82 := ⟨by decide +kernel, rfl⟩
theorem o_init_82 : InsA md_init 82 (.aload_n 0) 1 83 := ⟨by decide +kernel, rfl⟩
theorem o_init_83 : InsA md_init 83 (.aload_n 0) 1 84 := ⟨by decide +kernel, rfl⟩
theorem o_init_84 : InsA md_init 84 (.iload_n 1) 1 85 := ⟨by decide +kernel, rfl⟩
theorem o_init_85 : InsA md_init 85 (.bipush 16) 2 87 := ⟨by decide +kernel, rfl⟩
theorem o_init_87 : InsA md_init 87 (.bipush 64) 2 89 := ⟨by decide +kernel, rfl⟩
theorem o_init_89 : InsA md_init 89 (.invokevirtual 41) 3 92 := ⟨by decide +kernel, rfl⟩
theorem o_init_92 : InsA md_init 92 (.putfield 45) 3 95 := ⟨by decide +kernel, rfl⟩
theorem o_init_95 : InsA md_init 95 (.aload_n 0) 1 96 := ⟨by decide +kernel, rfl⟩
theorem o_init_96 : InsA md_init 96 (.aload_n 0) 1 97 := ⟨by decide +kernel, rfl⟩
theorem o_init_97 : InsA md_init 97 (.iload_n 2) 1 98 := ⟨by decide +kernel, rfl⟩
theorem o_init_98 : InsA md_init 98 (.iconst 4) 1 99 := ⟨by decide +kernel, rfl⟩
theorem o_init_99 : InsA md_init 99 (.bipush 32) 2 101 := ⟨by decide +kernel, rfl⟩
theorem o_init_101 : InsA md_init 101 (.invokevirtual 41) 3 104 := ⟨by decide +kernel, rfl⟩
theorem o_init_104 : InsA md_init 104 (.putfield 49) 3 107 := ⟨by decide +kernel, rfl⟩
theorem o_init_107 : InsA md_init 107 (.aload_n 0) 1 108 := ⟨by decide +kernel, rfl⟩
theorem o_init_108 : InsA md_init 108 (.iconst 0) 1 109 := ⟨by decide +kernel, rfl⟩
theorem o_init_109 : InsA md_init 109 (.putfield 52) 3 112 := ⟨by decide +kernel, rfl⟩
theorem o_init_112 : InsA md_init 112 (.aload_n 0) 1 113 := ⟨by decide +kernel, rfl⟩
theorem o_init_113 : InsA md_init 113 (.iconst 0) 1 114 := ⟨by decide +kernel, rfl⟩
theorem o_init_114 : InsA md_init 114 (.putfield 55) 3 117 := ⟨by decide +kernel, rfl⟩
theorem o_init_117 : InsA md_init 117 (.aload_n 0) 1 118 := ⟨by decide +kernel, rfl⟩
theorem o_init_118 : InsA md_init 118 (.iconst 0) 1 119 := ⟨by decide +kernel, rfl⟩
theorem o_init_119 : InsA md_init 119 (.putfield 58) 3 122 := ⟨by decide +kernel, rfl⟩
theorem o_init_122 : InsA md_init 122 (.aload_n 0) 1 123 := ⟨by decide +kernel, rfl⟩
theorem o_init_123 : InsA md_init 123 (.iconst 0) 1 124 := ⟨by decide +kernel, rfl⟩
theorem o_init_124 : InsA md_init 124 (.putfield 61) 3 127 := ⟨by decide +kernel, rfl⟩
theorem o_init_127 : InsA md_init 127 (.aload_n 0) 1 128 := ⟨by decide +kernel, rfl⟩
theorem o_init_128 : InsA md_init 128 (.iconst 0) 1 129 := ⟨by decide +kernel, rfl⟩
theorem o_init_129 : InsA md_init 129 (.putfield 64) 3 132 := ⟨by decide +kernel, rfl⟩
theorem o_init_132 : InsA md_init 132 (.aload_n 0) 1 133 := ⟨by decide +kernel, rfl⟩
theorem o_init_133 : InsA md_init 133 (.iconst 0) 1 134 := ⟨by decide +kernel, rfl⟩
theorem o_init_134 : InsA md_init 134 (.putfield 67) 3 137 := ⟨by decide +kernel, rfl⟩
theorem o_init_137 : InsA md_init 137 (.return_) 1 138 := ⟨by decide +kernel, rfl⟩
abbrev md_clamp : MD := (⟨"RebaseLoader", "clamp", "(III)I"⟩, prog_1_method_2_code, 4, some .int, { frames := 0, cells := 0, slots := 0, locals := 0 }, 0)
theorem cv_clamp {Z : State} {a0 : Array Value} (H : OK Z a0) : CalV Z a0 md_clamp 3 := ⟨pn_RebaseLoader, by decide, pd__III_I, H.w 32 rfl, H.w 34 rfl, H.w 2 rfl, Or.inr ⟨H.w 33 rfl, 18, H.w 1 rfl⟩⟩
theorem o_clamp_0 : InsA md_clamp 0 (.iload_n 1) 1 1 := ⟨by decide +kernel, rfl⟩
theorem o_clamp_1 : InsA md_clamp 1 (.iload_n 2) 1 2 := ⟨by decide +kernel, rfl⟩
theorem o_clamp_2 : InsB md_clamp 2 (.if_icmp .ge 5) 3 5 (5) 7 := ⟨by decide +kernel, rfl, by decide, by decide⟩
theorem o_clamp_5 : InsA md_clamp 5 (.iload_n 2) 1 6 := ⟨by decide +kernel, rfl⟩
theorem o_clamp_6 : InsA md_clamp 6 (.ireturn) 1 7 := ⟨by decide +kernel, rfl⟩
theorem o_clamp_7 : InsA md_clamp 7 (.iload_n 1) 1 8 := ⟨by decide +kernel, rfl⟩
theorem o_clamp_8 : InsA md_clamp 8 (.iload_n 3) 1 9 := ⟨by decide +kernel, rfl⟩
theorem o_clamp_9 : InsB md_clamp 9 (.if_icmp .le 5) 3 12 (5) 14 := ⟨by decide +kernel, rfl, by decide, by decide⟩
theorem o_clamp_12 : InsA md_clamp 12 (.iload_n 3) 1 13 := ⟨by decide +kernel, rfl⟩
theorem o_clamp_13 : InsA md_clamp 13 (.ireturn) 1 14 := ⟨by decide +kernel, rfl⟩
theorem o_clamp_14 : InsA md_clamp 14 (.iload_n 1) 1 15 := ⟨by decide +kernel, rfl⟩
theorem o_clamp_15 : InsA md_clamp 15 (.ireturn) 1 16 := ⟨by decide +kernel, rfl⟩
abbrev md_addSection : MD := (⟨"RebaseLoader", "addSection", "(II)I"⟩, prog_1_method_12_code, 5, some .int, { frames := 1, cells := 0, slots := 0, locals := 15 }, 0)
theorem cv_addSection {Z : State} {a0 : Array Value} (H : OK Z a0) : CalV Z a0 md_addSection 2 := ⟨pn_RebaseLoader, by decide, pd__II_I, H.w 53 rfl, H.w 55 rfl, H.w 2 rfl, Or.inl ⟨H.w 52 rfl, H.w 54 rfl⟩⟩
theorem o_addSection_0 : InsA md_addSection 0 (.aload_n 0) 1 1 := ⟨by decide +kernel, rfl⟩
theorem o_addSection_1 : InsA md_addSection 1 (.getfield 52) 3 4 := ⟨by decide +kernel, rfl⟩
theorem o_addSection_4 : InsB md_addSection 4 (.ifCond .eq 5) 3 7 (5) 9 := ⟨by decide +kernel, rfl, by decide, by decide⟩
theorem o_addSection_7 : InsA md_addSection 7 (.iconst (-1)) 1 8 := ⟨by decide +kernel, rfl⟩
theorem o_addSection_8 : InsA md_addSection 8 (.ireturn) 1 9 := ⟨by decide +kernel, rfl⟩
theorem o_addSection_9 : InsA md_addSection 9 (.aload_n 0) 1 10 := ⟨by decide +kernel, rfl⟩
theorem o_addSection_10 : InsA md_addSection 10 (.getfield 55) 3 13 := ⟨by decide +kernel, rfl⟩
theorem o_addSection_13 : InsA md_addSection 13 (.iconst 4) 1 14 := ⟨by decide +kernel, rfl⟩
theorem o_addSection_14 : InsB md_addSection 14 (.if_icmp .lt 6) 3 17 (6) 20 := ⟨by decide +kernel, rfl, by decide, by decide⟩
theorem o_addSection_17 : InsA md_addSection 17 (.bipush (-3)) 2 19 := ⟨by decide +kernel, rfl⟩
theorem o_addSection_19 : InsA md_addSection 19 (.ireturn) 1 20 := ⟨by decide +kernel, rfl⟩
theorem o_addSection_20 : InsA md_addSection 20 (.iload_n 1) 1 21 := ⟨by decide +kernel, rfl⟩
theorem o_addSection_21 : InsA md_addSection 21 (.iconst 1) 1 22 := ⟨by decide +kernel, rfl⟩
theorem o_addSection_22 : InsB md_addSection 22 (.if_icmp .lt 11) 3 25 (11) 33 := ⟨by decide +kernel, rfl, by decide, by decide⟩
theorem o_addSection_25 : InsA md_addSection 25 (.aload_n 0) 1 26 := ⟨by decide +kernel, rfl⟩
theorem o_addSection_26 : InsA md_addSection 26 (.iload_n 2) 1 27 := ⟨by decide +kernel, rfl⟩
theorem o_addSection_27 : InsA md_addSection 27 (.invokevirtual 74) 3 30 := ⟨by decide +kernel, rfl⟩
theorem o_addSection_30 : InsB md_addSection 30 (.ifCond .ne 6) 3 33 (6) 36 := ⟨by decide +kernel, rfl, by decide, by decide⟩
theorem o_addSection_33 : InsA md_addSection 33 (.bipush (-2)) 2 35 := ⟨by decide +kernel, rfl⟩
theorem o_addSection_35 : InsA md_addSection 35 (.ireturn) 1 36 := ⟨by decide +kernel, rfl⟩
theorem o_addSection_36 : InsA md_addSection 36 (.aload_n 0) 1 37 := ⟨by decide +kernel, rfl⟩
theorem o_addSection_37 : InsA md_addSection 37 (.getfield 61) 3 40 := ⟨by decide +kernel, rfl⟩
theorem o_addSection_40 : InsA md_addSection 40 (.iload_n 2) 1 41 := ⟨by decide +kernel, rfl⟩
theorem o_addSection_41 : InsA md_addSection 41 (.iadd) 1 42 := ⟨by decide +kernel, rfl⟩
theorem o_addSection_42 : InsA md_addSection 42 (.iconst 1) 1 43 := ⟨by decide +kernel, rfl⟩
theorem o_addSection_43 : InsA md_addSection 43 (.isub) 1 44 := ⟨by decide +kernel, rfl⟩
theorem o_addSection_44 : InsA md_addSection 44 (.iload_n 2) 1 45 := ⟨by decide +kernel, rfl⟩
theorem o_addSection_45 : InsA md_addSection 45 (.iconst 1) 1 46 := ⟨by decide +kernel, rfl⟩
theorem o_addSection_46 : InsA md_addSection 46 (.isub) 1 47 := ⟨by decide +kernel, rfl⟩
theorem o_addSection_47 : InsA md_addSection 47 (.iconst (-1)) 1 48 := ⟨by decide +kernel, rfl⟩
theorem o_addSection_48 : InsA md_addSection 48 (.ixor) 1 49 := ⟨by decide +kernel, rfl⟩
theorem o_addSection_49 : InsA md_addSection 49 (.iand) 1 50 := ⟨by decide +kernel, rfl⟩
theorem o_addSection_50 : InsA md_addSection 50 (.istore_n 3) 1 51 := ⟨by decide +kernel, rfl⟩
theorem o_addSection_51 : InsA md_addSection 51 (.iload_n 1) 1 52 := ⟨by decide +kernel, rfl⟩
theorem o_addSection_52 : InsA md_addSection 52 (.aload_n 0) 1 53 := ⟨by decide +kernel, rfl⟩
theorem o_addSection_53 : InsA md_addSection 53 (.getfield 45) 3 56 := ⟨by decide +kernel, rfl⟩
theorem o_addSection_56 : InsA md_addSection 56 (.iload_n 3) 1 57 := ⟨by decide +kernel, rfl⟩
theorem o_addSection_57 : InsA md_addSection 57 (.isub) 1 58 := ⟨by decide +kernel, rfl⟩
theorem o_addSection_58 : InsB md_addSection 58 (.if_icmp .le 6) 3 61 (6) 64 := ⟨by decide +kernel, rfl, by decide, by decide⟩
theorem o_addSection_61 : InsA md_addSection 61 (.bipush (-3)) 2 63 := ⟨by decide +kernel, rfl⟩
theorem o_addSection_63 : InsA md_addSection 63 (.ireturn) 1 64 := ⟨by decide +kernel, rfl⟩
theorem o_addSection_64 : InsA md_addSection 64 (.aload_n 0) 1 65 := ⟨by decide +kernel, rfl⟩
theorem o_addSection_65 : InsA md_addSection 65 (.getfield 55) 3 68 := ⟨by decide +kernel, rfl⟩
theorem o_addSection_68 : InsA md_addSection 68 (.istore 4) 2 70 := ⟨by decide +kernel, rfl⟩
theorem o_addSection_70 : InsA md_addSection 70 (.aload_n 0) 1 71 := ⟨by decide +kernel, rfl⟩
theorem o_addSection_71 : InsA md_addSection 71 (.getfield 7) 3 74 := ⟨by decide +kernel, rfl⟩
theorem o_addSection_74 : InsA md_addSection 74 (.iload 4) 2 76 := ⟨by decide +kernel, rfl⟩
theorem o_addSection_76 : InsA md_addSection 76 (.iload_n 3) 1 77 := ⟨by decide +kernel, rfl⟩
theorem o_addSection_77 : InsA md_addSection 77 (.iastore) 1 78 := ⟨by decide +kernel, rfl⟩
theorem o_addSection_78 : InsA md_addSection 78 (.aload_n 0) 1 79 := ⟨by decide +kernel, rfl⟩
theorem o_addSection_79 : InsA md_addSection 79 (.getfield 13) 3 82 := ⟨by decide +kernel, rfl⟩
theorem o_addSection_82 : InsA md_addSection 82 (.iload 4) 2 84 := ⟨by decide +kernel, rfl⟩
theorem o_addSection_84 : InsA md_addSection 84 (.iload_n 1) 1 85 := ⟨by decide +kernel, rfl⟩
theorem o_addSection_85 : InsA md_addSection 85 (.iastore) 1 86 := ⟨by decide +kernel, rfl⟩
theorem o_addSection_86 : InsA md_addSection 86 (.aload_n 0) 1 87 := ⟨by decide +kernel, rfl⟩
theorem o_addSection_87 : InsA md_addSection 87 (.aload_n 0) 1 88 := ⟨by decide +kernel, rfl⟩
theorem o_addSection_88 : InsA md_addSection 88 (.getfield 55) 3 91 := ⟨by decide +kernel, rfl⟩
theorem o_addSection_91 : InsA md_addSection 91 (.iconst 1) 1 92 := ⟨by decide +kernel, rfl⟩
theorem o_addSection_92 : InsA md_addSection 92 (.iadd) 1 93 := ⟨by decide +kernel, rfl⟩
theorem o_addSection_93 : InsA md_addSection 93 (.putfield 55) 3 96 := ⟨by decide +kernel, rfl⟩
theorem o_addSection_96 : InsA md_addSection 96 (.aload_n 0) 1 97 := ⟨by decide +kernel, rfl⟩
theorem o_addSection_97 : InsA md_addSection 97 (.aload_n 0) 1 98 := ⟨by decide +kernel, rfl⟩
theorem o_addSection_98 : InsA md_addSection 98 (.getfield 61) 3 101 := ⟨by decide +kernel, rfl⟩
theorem o_addSection_101 : InsA md_addSection 101 (.iload_n 3) 1 102 := ⟨by decide +kernel, rfl⟩
theorem o_addSection_102 : InsA md_addSection 102 (.iload_n 1) 1 103 := ⟨by decide +kernel, rfl⟩
theorem o_addSection_103 : InsA md_addSection 103 (.iadd) 1 104 := ⟨by decide +kernel, rfl⟩
theorem o_addSection_104 : InsA md_addSection 104 (.invokevirtual 78) 3 107 := ⟨by decide +kernel, rfl⟩
theorem o_addSection_107 : InsA md_addSection 107 (.aload_n 0) 1 108 := ⟨by decide +kernel, rfl⟩
theorem o_addSection_108 : InsA md_addSection 108 (.iload_n 3) 1 109 := ⟨by decide +kernel, rfl⟩
theorem o_addSection_109 : InsA md_addSection 109 (.iload_n 1) 1 110 := ⟨by decide +kernel, rfl⟩
theorem o_addSection_110 : InsA md_addSection 110 (.iadd) 1 111 := ⟨by decide +kernel, rfl⟩
theorem o_addSection_111 : InsA md_addSection 111 (.putfield 61) 3 114 := ⟨by decide +kernel, rfl⟩
theorem o_addSection_114 : InsA md_addSection 114 (.iload 4) 2 116 := ⟨by decide +kernel, rfl⟩
theorem o_addSection_116 : InsA md_addSection 116 (.ireturn) 1 117 := ⟨by decide +kernel, rfl⟩
abbrev md_validAlign : MD := (⟨"RebaseLoader", "validAlign", "(I)Z"⟩, prog_1_method_7_code, 2, some .boolean, { frames := 0, cells := 0, slots := 0, locals := 0 }, 0)
theorem cv_validAlign {Z : State} {a0 : Array Value} (H : OK Z a0) : CalV Z a0 md_validAlign 1 := ⟨pn_RebaseLoader, by decide, pd__I_Z, H.w 57 rfl, H.w 59 rfl, H.w 2 rfl, Or.inr ⟨H.w 58 rfl, 18, H.w 1 rfl⟩⟩
theorem o_validAlign_0 : InsA md_validAlign 0 (.iload_n 1) 1 1 := ⟨by decide +kernel, rfl⟩
theorem o_validAlign_1 : InsA md_validAlign 1 (.iconst 1) 1 2 := ⟨by decide +kernel, rfl⟩
theorem o_validAlign_2 : InsB md_validAlign 2 (.if_icmp .eq 25) 3 5 (25) 27 := ⟨by decide +kernel, rfl, by decide, by decide⟩
theorem o_validAlign_5 : InsA md_validAlign 5 (.iload_n 1) 1 6 := ⟨by decide +kernel, rfl⟩
theorem o_validAlign_6 : InsA md_validAlign 6 (.iconst 2) 1 7 := ⟨by decide +kernel, rfl⟩
theorem o_validAlign_7 : InsB md_validAlign 7 (.if_icmp .eq 20) 3 10 (20) 27 := ⟨by decide +kernel, rfl, by decide, by decide⟩
theorem o_validAlign_10 : InsA md_validAlign 10 (.iload_n 1) 1 11 := ⟨by decide +kernel, rfl⟩
theorem o_validAlign_11 : InsA md_validAlign 11 (.iconst 4) 1 12 := ⟨by decide +kernel, rfl⟩
theorem o_validAlign_12 : InsB md_validAlign 12 (.if_icmp .eq 15) 3 15 (15) 27 := ⟨by decide +kernel, rfl, by decide, by decide⟩
theorem o_validAlign_15 : InsA md_validAlign 15 (.iload_n 1) 1 16 := ⟨by decide +kernel, rfl⟩
theorem o_validAlign_16 : InsA md_validAlign 16 (.bipush 8) 2 18 := ⟨by decide +kernel, rfl⟩
theorem o_validAlign_18 : InsB md_validAlign 18 (.if_icmp .eq 9) 3 21 (9) 27 := ⟨by decide +kernel, rfl, by decide, by decide⟩
theorem o_validAlign_21 : InsA md_validAlign 21 (.iload_n 1) 1 22 := ⟨by decide +kernel, rfl⟩
theorem o_validAlign_22 : InsA md_validAlign 22 (.bipush 16) 2 24 := ⟨by decide +kernel, rfl⟩
theorem o_validAlign_24 : InsB md_validAlign 24 (.if_icmp .ne 7) 3 27 (7) 31 := ⟨by decide +kernel, rfl, by decide, by decide⟩
theorem o_validAlign_27 : InsA md_validAlign 27 (.iconst 1) 1 28 := ⟨by decide +kernel, rfl⟩
theorem o_validAlign_28 : InsB md_validAlign 28 (.goto 4) 3 31 (4) 32 := ⟨by decide +kernel, rfl, by decide, by decide⟩
theorem o_validAlign_31 : InsA md_validAlign 31 (.iconst 0) 1 32 := ⟨by decide +kernel, rfl⟩
theorem o_validAlign_32 : InsA md_validAlign 32 (.ireturn) 1 33 := ⟨by decide +kernel, rfl⟩
abbrev md_clearWords : MD := (⟨"RebaseLoader", "clearWords", "(II)V"⟩, prog_1_method_13_code, 4, none, { frames := 0, cells := 0, slots := 0, locals := 0 }, 0)
theorem cv_clearWords {Z : State} {a0 : Array Value} (H : OK Z a0) : CalV Z a0 md_clearWords 2 := ⟨pn_RebaseLoader, by decide, pd__II_V, H.w 61 rfl, H.w 63 rfl, H.w 2 rfl, Or.inr ⟨H.w 62 rfl, 18, H.w 1 rfl⟩⟩
theorem o_clearWords_0 : InsA md_clearWords 0 (.iload_n 1) 1 1 := ⟨by decide +kernel, rfl⟩
theorem o_clearWords_1 : InsA md_clearWords 1 (.istore_n 3) 1 2 := ⟨by decide +kernel, rfl⟩
theorem o_clearWords_2 : InsA md_clearWords 2 (.iload_n 3) 1 3 := ⟨by decide +kernel, rfl⟩
theorem o_clearWords_3 : InsA md_clearWords 3 (.iload_n 2) 1 4 := ⟨by decide +kernel, rfl⟩
theorem o_clearWords_4 : InsB md_clearWords 4 (.if_icmp .ge 40) 3 7 (40) 44 := ⟨by decide +kernel, rfl, by decide, by decide⟩
theorem o_clearWords_7 : InsA md_clearWords 7 (.iload_n 3) 1 8 := ⟨by decide +kernel, rfl⟩
theorem o_clearWords_8 : InsA md_clearWords 8 (.bipush 64) 2 10 := ⟨by decide +kernel, rfl⟩
theorem o_clearWords_10 : InsB md_clearWords 10 (.if_icmp .ge 34) 3 13 (34) 44 := ⟨by decide +kernel, rfl, by decide, by decide⟩
theorem o_clearWords_13 : InsA md_clearWords 13 (.iload_n 3) 1 14 := ⟨by decide +kernel, rfl⟩
theorem o_clearWords_14 : InsB md_clearWords 14 (.ifCond .lt 24) 3 17 (24) 38 := ⟨by decide +kernel, rfl, by decide, by decide⟩
theorem o_clearWords_17 : InsA md_clearWords 17 (.aload_n 0) 1 18 := ⟨by decide +kernel, rfl⟩
theorem o_clearWords_18 : InsA md_clearWords 18 (.getfield 16) 3 21 := ⟨by decide +kernel, rfl⟩
theorem o_clearWords_21 : InsA md_clearWords 21 (.iload_n 3) 1 22 := ⟨by decide +kernel, rfl⟩
theorem o_clearWords_22 : InsA md_clearWords 22 (.iconst 0) 1 23 := ⟨by decide +kernel, rfl⟩
theorem o_clearWords_23 : InsA md_clearWords 23 (.iastore) 1 24 := ⟨by decide +kernel, rfl⟩
theorem o_clearWords_24 : InsA md_clearWords 24 (.aload_n 0) 1 25 := ⟨by decide +kernel, rfl⟩
theorem o_clearWords_25 : InsA md_clearWords 25 (.getfield 19) 3 28 := ⟨by decide +kernel, rfl⟩
theorem o_clearWords_28 : InsA md_clearWords 28 (.iload_n 3) 1 29 := ⟨by decide +kernel, rfl⟩
theorem o_clearWords_29 : InsA md_clearWords 29 (.iconst 0) 1 30 := ⟨by decide +kernel, rfl⟩
theorem o_clearWords_30 : InsA md_clearWords 30 (.iastore) 1 31 := ⟨by decide +kernel, rfl⟩
theorem o_clearWords_31 : InsA md_clearWords 31 (.aload_n 0) 1 32 := ⟨by decide +kernel, rfl⟩
theorem o_clearWords_32 : InsA md_clearWords 32 (.getfield 22) 3 35 := ⟨by decide +kernel, rfl⟩
theorem o_clearWords_35 : InsA md_clearWords 35 (.iload_n 3) 1 36 := ⟨by decide +kernel, rfl⟩
theorem o_clearWords_36 : InsA md_clearWords 36 (.iconst 0) 1 37 := ⟨by decide +kernel, rfl⟩
theorem o_clearWords_37 : InsA md_clearWords 37 (.bastore) 1 38 := ⟨by decide +kernel, rfl⟩
theorem o_clearWords_38 : InsA md_clearWords 38 (.iinc 3 1) 3 41 := ⟨by decide +kernel, rfl⟩
theorem o_clearWords_41 : InsB md_clearWords 41 (.goto (-39)) 3 44 (-39) 2 := ⟨by decide +kernel, rfl, by decide, by decide⟩
theorem o_clearWords_44 : InsA md_clearWords 44 (.return_) 1 45 := ⟨by decide +kernel, rfl⟩
abbrev md_setWord : MD := (⟨"RebaseLoader", "setWord", "(II)I"⟩, prog_1_method_14_code, 4, some .int, { frames := 1, cells := 0, slots := 0, locals := 14 }, 0)
theorem cv_setWord {Z : State} {a0 : Array Value} (H : OK Z a0) : CalV Z a0 md_setWord 2 := ⟨pn_RebaseLoader, by decide, pd__II_I, H.w 67 rfl, H.w 69 rfl, H.w 2 rfl, Or.inl ⟨H.w 66 rfl, H.w 68 rfl⟩⟩
theorem o_setWord_0 : InsA md_setWord 0 (.aload_n 0) 1 1 := ⟨by decide +kernel, rfl⟩
theorem o_setWord_1 : InsA md_setWord 1 (.getfield 52) 3 4 := ⟨by decide +kernel, rfl⟩
theorem o_setWord_4 : InsB md_setWord 4 (.ifCond .eq 5) 3 7 (5) 9 := ⟨by decide +kernel, rfl, by decide, by decide⟩
theorem o_setWord_7 : InsA md_setWord 7 (.iconst (-1)) 1 8 := ⟨by decide +kernel, rfl⟩
theorem o_setWord_8 : InsA md_setWord 8 (.ireturn) 1 9 := ⟨by decide +kernel, rfl⟩
theorem o_setWord_9 : InsA md_setWord 9 (.aload_n 0) 1 10 := ⟨by decide +kernel, rfl⟩
theorem o_setWord_10 : InsA md_setWord 10 (.iload_n 1) 1 11 := ⟨by decide +kernel, rfl⟩
theorem o_setWord_11 : InsA md_setWord 11 (.invokevirtual 82) 3 14 := ⟨by decide +kernel, rfl⟩
theorem o_setWord_14 : InsB md_setWord 14 (.ifCond .ne 6) 3 17 (6) 20 := ⟨by decide +kernel, rfl, by decide, by decide⟩
theorem o_setWord_17 : InsA md_setWord 17 (.bipush (-2)) 2 19 := ⟨by decide +kernel, rfl⟩
theorem o_setWord_19 : InsA md_setWord 19 (.ireturn) 1 20 := ⟨by decide +kernel, rfl⟩
theorem o_setWord_20 : InsA md_setWord 20 (.aload_n 0) 1 21 := ⟨by decide +kernel, rfl⟩
theorem o_setWord_21 : InsA md_setWord 21 (.iload_n 1) 1 22 := ⟨by decide +kernel, rfl⟩
theorem o_setWord_22 : InsA md_setWord 22 (.invokevirtual 85) 3 25 := ⟨by decide +kernel, rfl⟩
theorem o_setWord_25 : InsA md_setWord 25 (.istore_n 3) 1 26 := ⟨by decide +kernel, rfl⟩
theorem o_setWord_26 : InsA md_setWord 26 (.aload_n 0) 1 27 := ⟨by decide +kernel, rfl⟩
theorem o_setWord_27 : InsA md_setWord 27 (.getfield 16) 3 30 := ⟨by decide +kernel, rfl⟩
theorem o_setWord_30 : InsA md_setWord 30 (.iload_n 3) 1 31 := ⟨by decide +kernel, rfl⟩
theorem o_setWord_31 : InsA md_setWord 31 (.iload_n 2) 1 32 := ⟨by decide +kernel, rfl⟩
theorem o_setWord_32 : InsA md_setWord 32 (.iastore) 1 33 := ⟨by decide +kernel, rfl⟩
theorem o_setWord_33 : InsA md_setWord 33 (.iconst 0) 1 34 := ⟨by decide +kernel, rfl⟩
theorem o_setWord_34 : InsA md_setWord 34 (.ireturn) 1 35 := ⟨by decide +kernel, rfl⟩
abbrev md_validPos : MD := (⟨"RebaseLoader", "validPos", "(I)Z"⟩, prog_1_method_8_code, 3, some .boolean, { frames := 0, cells := 0, slots := 0, locals := 0 }, 0)
theorem cv_validPos {Z : State} {a0 : Array Value} (H : OK Z a0) : CalV Z a0 md_validPos 1 := ⟨pn_RebaseLoader, by decide, pd__I_Z, H.w 71 rfl, H.w 73 rfl, H.w 2 rfl, Or.inr ⟨H.w 72 rfl, 18, H.w 1 rfl⟩⟩
theorem o_validPos_0 : InsA md_validPos 0 (.iload_n 1) 1 1 := ⟨by decide +kernel, rfl⟩
theorem o_validPos_1 : InsB md_validPos 1 (.ifCond .ge 5) 3 4 (5) 6 := ⟨by decide +kernel, rfl, by decide, by decide⟩
theorem o_validPos_4 : InsA md_validPos 4 (.iconst 0) 1 5 := ⟨by decide +kernel, rfl⟩
theorem o_validPos_5 : InsA md_validPos 5 (.ireturn) 1 6 := ⟨by decide +kernel, rfl⟩
theorem o_validPos_6 : InsA md_validPos 6 (.iload_n 1) 1 7 := ⟨by decide +kernel, rfl⟩
theorem o_validPos_7 : InsA md_validPos 7 (.bipush 8) 2 9 := ⟨by decide +kernel, rfl⟩
theorem o_validPos_9 : InsA md_validPos 9 (.ishr) 1 10 := ⟨by decide +kernel, rfl⟩
theorem o_validPos_10 : InsA md_validPos 10 (.istore_n 2) 1 11 := ⟨by decide +kernel, rfl⟩
theorem o_validPos_11 : InsA md_validPos 11 (.iload_n 2) 1 12 := ⟨by decide +kernel, rfl⟩
theorem o_validPos_12 : InsA md_validPos 12 (.aload_n 0) 1 13 := ⟨by decide +kernel, rfl⟩
theorem o_validPos_13 : InsA md_validPos 13 (.getfield 55) 3 16 := ⟨by decide +kernel, rfl⟩
theorem o_validPos_16 : InsB md_validPos 16 (.if_icmp .lt 5) 3 19 (5) 21 := ⟨by decide +kernel, rfl, by decide, by decide⟩
theorem o_validPos_19 : InsA md_validPos 19 (.iconst 0) 1 20 := ⟨by decide +kernel, rfl⟩
theorem o_validPos_20 : InsA md_validPos 20 (.ireturn) 1 21 := ⟨by decide +kernel, rfl⟩
theorem o_validPos_21 : InsA md_validPos 21 (.iload_n 1) 1 22 := ⟨by decide +kernel, rfl⟩
theorem o_validPos_22 : InsA md_validPos 22 (.sipush 255) 3 25 := ⟨by decide +kernel, rfl⟩
theorem o_validPos_25 : InsA md_validPos 25 (.iand) 1 26 := ⟨by decide +kernel, rfl⟩
theorem o_validPos_26 : InsA md_validPos 26 (.aload_n 0) 1 27 := ⟨by decide +kernel, rfl⟩
theorem o_validPos_27 : InsA md_validPos 27 (.getfield 13) 3 30 := ⟨by decide +kernel, rfl⟩
theorem o_validPos_30 : InsA md_validPos 30 (.iload_n 2) 1 31 := ⟨by decide +kernel, rfl⟩
theorem o_validPos_31 : InsA md_validPos 31 (.iaload) 1 32 := ⟨by decide +kernel, rfl⟩
theorem o_validPos_32 : InsB md_validPos 32 (.if_icmp .ge 7) 3 35 (7) 39 := ⟨by decide +kernel, rfl, by decide, by decide⟩
theorem o_validPos_35 : InsA md_validPos 35 (.iconst 1) 1 36 := ⟨by decide +kernel, rfl⟩
theorem o_validPos_36 : InsB md_validPos 36 (.goto 4) 3 39 (4) 40 := ⟨by decide +kernel, rfl, by decide, by decide⟩
theorem o_validPos_39 : InsA md_validPos 39 (.iconst 0) 1 40 := ⟨by decide +kernel, rfl⟩
theorem o_validPos_40 : InsA md_validPos 40 (.ireturn) 1 41 := ⟨by decide +kernel, rfl⟩
abbrev md_offsetOf : MD := (⟨"RebaseLoader", "offsetOf", "(I)I"⟩, prog_1_method_9_code, 2, some .int, { frames := 0, cells := 0, slots := 0, locals := 0 }, 0)
theorem cv_offsetOf {Z : State} {a0 : Array Value} (H : OK Z a0) : CalV Z a0 md_offsetOf 1 := ⟨pn_RebaseLoader, by decide, pd__I_I, H.w 75 rfl, H.w 77 rfl, H.w 2 rfl, Or.inr ⟨H.w 76 rfl, 18, H.w 1 rfl⟩⟩
theorem o_offsetOf_0 : InsA md_offsetOf 0 (.aload_n 0) 1 1 := ⟨by decide +kernel, rfl⟩
theorem o_offsetOf_1 : InsA md_offsetOf 1 (.getfield 7) 3 4 := ⟨by decide +kernel, rfl⟩
theorem o_offsetOf_4 : InsA md_offsetOf 4 (.iload_n 1) 1 5 := ⟨by decide +kernel, rfl⟩
theorem o_offsetOf_5 : InsA md_offsetOf 5 (.bipush 8) 2 7 := ⟨by decide +kernel, rfl⟩
theorem o_offsetOf_7 : InsA md_offsetOf 7 (.ishr) 1 8 := ⟨by decide +kernel, rfl⟩
theorem o_offsetOf_8 : InsA md_offsetOf 8 (.iaload) 1 9 := ⟨by decide +kernel, rfl⟩
theorem o_offsetOf_9 : InsA md_offsetOf 9 (.iload_n 1) 1 10 := ⟨by decide +kernel, rfl⟩
theorem o_offsetOf_10 : InsA md_offsetOf 10 (.sipush 255) 3 13 := ⟨by decide +kernel, rfl⟩
theorem o_offsetOf_13 : InsA md_offsetOf 13 (.iand) 1 14 := ⟨by decide +kernel, rfl⟩
theorem o_offsetOf_14 : InsA md_offsetOf 14 (.iadd) 1 15 := ⟨by decide +kernel, rfl⟩
theorem o_offsetOf_15 : InsA md_offsetOf 15 (.ireturn) 1 16 := ⟨by decide +kernel, rfl⟩
abbrev md_addReloc : MD := (⟨"RebaseLoader", "addReloc", "(IIII)I"⟩, prog_1_method_15_code, 8, some .int, { frames := 1, cells := 0, slots := 0, locals := 17 }, 0)
theorem al_addReloc (x0 : Int32) (x1 : Int32) (x2 : Int32) (x3 : Int32) : (argsToLocals [.ref 0, .int x0, .int x1, .int x2, .int x3].toArray (mxOf md_addReloc)).toList = [.val (.ref 0), .val (.int x0), .val (.int x1), .val (.int x2), .val (.int x3), .unset, .unset, .unset] := (Jvm.Sym.argsToLocals_toList _ _).trans rfl
theorem cv_addReloc {Z : State} {a0 : Array Value} (H : OK Z a0) : CalV Z a0 md_addReloc 4 := ⟨pn_RebaseLoader, by decide, pd__IIII_I, H.w 87 rfl, H.w 89 rfl, H.w 2 rfl, Or.inl ⟨H.w 86 rfl, H.w 88 rfl⟩⟩
theorem o_addReloc_0 : InsA md_addReloc 0 (.aload_n 0) 1 1 := ⟨by decide +kernel, rfl⟩
theorem o_addReloc_1 : InsA md_addReloc 1 (.getfield 52) 3 4 := ⟨by decide +kernel, rfl⟩
theorem o_addReloc_4 : InsB md_addReloc 4 (.ifCond .eq 5) 3 7 (5) 9 := ⟨by decide +kernel, rfl, by decide, by decide⟩
theorem o_addReloc_7 : InsA md_addReloc 7 (.iconst (-1)) 1 8 := ⟨by decide +kernel, rfl⟩
theorem o_addReloc_8 : InsA md_addReloc 8 (.ireturn) 1 9 := ⟨by decide +kernel, rfl⟩
theorem o_addReloc_9 : InsA md_addReloc 9 (.aload_n 0) 1 10 := ⟨by decide +kernel, rfl⟩
theorem o_addReloc_10 : InsA md_addReloc 10 (.getfield 58) 3 13 := ⟨by decide +kernel, rfl⟩
theorem o_addReloc_13 : InsA md_addReloc 13 (.aload_n 0) 1 14 := ⟨by decide +kernel, rfl⟩
theorem o_addReloc_14 : InsA md_addReloc 14 (.getfield 49) 3 17 := ⟨by decide +kernel, rfl⟩
theorem o_addReloc_17 : InsB md_addReloc 17 (.if_icmp .lt 6) 3 20 (6) 23 := ⟨by decide +kernel, rfl, by decide, by decide⟩
theorem o_addReloc_20 : InsA md_addReloc 20 (.bipush (-3)) 2 22 := ⟨by decide +kernel, rfl⟩
theorem o_addReloc_22 : InsA md_addReloc 22 (.ireturn) 1 23 := ⟨by decide +kernel, rfl⟩
theorem o_addReloc_23 : InsA md_addReloc 23 (.iload_n 1) 1 24 := ⟨by decide +kernel, rfl⟩
theorem o_addReloc_24 : InsA md_addReloc 24 (.iconst 1) 1 25 := ⟨by decide +kernel, rfl⟩
theorem o_addReloc_25 : InsB md_addReloc 25 (.if_icmp .lt 8) 3 28 (8) 33 := ⟨by decide +kernel, rfl, by decide, by decide⟩
theorem o_addReloc_28 : InsA md_addReloc 28 (.iload_n 1) 1 29 := ⟨by decide +kernel, rfl⟩
theorem o_addReloc_29 : InsA md_addReloc 29 (.iconst 4) 1 30 := ⟨by decide +kernel, rfl⟩
theorem o_addReloc_30 : InsB md_addReloc 30 (.if_icmp .le 6) 3 33 (6) 36 := ⟨by decide +kernel, rfl, by decide, by decide⟩
theorem o_addReloc_33 : InsA md_addReloc 33 (.bipush (-2)) 2 35 := ⟨by decide +kernel, rfl⟩
theorem o_addReloc_35 : InsA md_addReloc 35 (.ireturn) 1 36 := ⟨by decide +kernel, rfl⟩
theorem o_addReloc_36 : InsA md_addReloc 36 (.aload_n 0) 1 37 := ⟨by decide +kernel, rfl⟩
theorem o_addReloc_37 : InsA md_addReloc 37 (.iload_n 2) 1 38 := ⟨by decide +kernel, rfl⟩
theorem o_addReloc_38 : InsA md_addReloc 38 (.invokevirtual 82) 3 41 := ⟨by decide +kernel, rfl⟩
theorem o_addReloc_41 : InsB md_addReloc 41 (.ifCond .ne 6) 3 44 (6) 47 := ⟨by decide +kernel, rfl, by decide, by decide⟩
theorem o_addReloc_44 : InsA md_addReloc 44 (.bipush (-2)) 2 46 := ⟨by decide +kernel, rfl⟩
theorem o_addReloc_46 : InsA md_addReloc 46 (.ireturn) 1 47 := ⟨by decide +kernel, rfl⟩
theorem o_addReloc_47 : InsA md_addReloc 47 (.aload_n 0) 1 48 := ⟨by decide +kernel, rfl⟩
theorem o_addReloc_48 : InsA md_addReloc 48 (.iload_n 3) 1 49 := ⟨by decide +kernel, rfl⟩
theorem o_addReloc_49 : InsA md_addReloc 49 (.invokevirtual 89) 3 52 := ⟨by decide +kernel, rfl⟩
theorem o_addReloc_52 : InsB md_addReloc 52 (.ifCond .ne 6) 3 55 (6) 58 := ⟨by decide +kernel, rfl, by decide, by decide⟩
theorem o_addReloc_55 : InsA md_addReloc 55 (.bipush (-2)) 2 57 := ⟨by decide +kernel, rfl⟩
theorem o_addReloc_57 : InsA md_addReloc 57 (.ireturn) 1 58 := ⟨by decide +kernel, rfl⟩
theorem o_addReloc_58 : InsA md_addReloc 58 (.iload_n 1) 1 59 := ⟨by decide +kernel, rfl⟩
theorem o_addReloc_59 : InsA md_addReloc 59 (.iconst 4) 1 60 := ⟨by decide +kernel, rfl⟩
theorem o_addReloc_60 : InsB md_addReloc 60 (.if_icmp .ne 7) 3 63 (7) 67 := ⟨by decide +kernel, rfl, by decide, by decide⟩
theorem o_addReloc_63 : InsA md_addReloc 63 (.iconst 1) 1 64 := ⟨by decide +kernel, rfl⟩
theorem o_addReloc_64 : InsB md_addReloc 64 (.goto 4) 3 67 (4) 68 := ⟨by decide +kernel, rfl, by decide, by decide⟩
theorem o_addReloc_67 : InsA md_addReloc 67 (.iconst 0) 1 68 := ⟨by decide +kernel, rfl⟩
theorem o_addReloc_68 : InsA md_addReloc 68 (.istore 5) 2 70 := ⟨by decide +kernel, rfl⟩
theorem o_addReloc_70 : InsA md_addReloc 70 (.iload 5) 2 72 := ⟨by decide +kernel, rfl⟩
theorem o_addReloc_72 : InsB md_addReloc 72 (.ifCond .eq 21) 3 75 (21) 93 := ⟨by decide +kernel, rfl, by decide, by decide⟩
theorem o_addReloc_75 : InsA md_addReloc 75 (.aload_n 0) 1 76 := ⟨by decide +kernel, rfl⟩
theorem o_addReloc_76 : InsA md_addReloc 76 (.iload 4) 2 78 := ⟨by decide +kernel, rfl⟩
theorem o_addReloc_78 : InsA md_addReloc 78 (.invokevirtual 82) 3 81 := ⟨by decide +kernel, rfl⟩
theorem o_addReloc_81 : InsB md_addReloc 81 (.ifCond .eq 9) 3 84 (9) 90 := ⟨by decide +kernel, rfl, by decide, by decide⟩
theorem o_addReloc_84 : InsA md_addReloc 84 (.iload 4) 2 86 := ⟨by decide +kernel, rfl⟩
theorem o_addReloc_86 : InsA md_addReloc 86 (.iload_n 2) 1 87 := ⟨by decide +kernel, rfl⟩
theorem o_addReloc_87 : InsB md_addReloc 87 (.if_icmp .ne 6) 3 90 (6) 93 := ⟨by decide +kernel, rfl, by decide, by decide⟩
theorem o_addReloc_90 : InsA md_addReloc 90 (.bipush (-2)) 2 92 := ⟨by decide +kernel, rfl⟩
theorem o_addReloc_92 : InsA md_addReloc 92 (.ireturn) 1 93 := ⟨by decide +kernel, rfl⟩
theorem o_addReloc_93 : InsA md_addReloc 93 (.aload_n 0) 1 94 := ⟨by decide +kernel, rfl⟩
theorem o_addReloc_94 : InsA md_addReloc 94 (.iload_n 2) 1 95 := ⟨by decide +kernel, rfl⟩
theorem o_addReloc_95 : InsA md_addReloc 95 (.invokevirtual 85) 3 98 := ⟨by decide +kernel, rfl⟩
theorem o_addReloc_98 : InsA md_addReloc 98 (.istore 6) 2 100 := ⟨by decide +kernel, rfl⟩
theorem o_addReloc_100 : InsA md_addReloc 100 (.iconst (-1)) 1 101 := ⟨by decide +kernel, rfl⟩
theorem o_addReloc_101 : InsA md_addReloc 101 (.istore 7) 2 103 := ⟨by decide +kernel, rfl⟩
theorem o_addReloc_103 : InsA md_addReloc 103 (.iload 5) 2 105 := ⟨by decide +kernel, rfl⟩
theorem o_addReloc_105 : InsB md_addReloc 105 (.ifCond .eq 11) 3 108 (11) 116 := ⟨by decide +kernel, rfl, by decide, by decide⟩
theorem o_addReloc_108 : InsA md_addReloc 108 (.aload_n 0) 1 109 := ⟨by decide +kernel, rfl⟩
theorem o_addReloc_109 : InsA md_addReloc 109 (.iload 4) 2 111 := ⟨by decide +kernel, rfl⟩
theorem o_addReloc_111 : InsA md_addReloc 111 (.invokevirtual 85) 3 114 := ⟨by decide +kernel, rfl⟩
theorem o_addReloc_114 : InsA md_addReloc 114 (.istore 7) 2 116 := ⟨by decide +kernel, rfl⟩
theorem o_addReloc_116 : InsA md_addReloc 116 (.aload_n 0) 1 117 := ⟨by decide +kernel, rfl⟩
theorem o_addReloc_117 : InsA md_addReloc 117 (.getfield 22) 3 120 := ⟨by decide +kernel, rfl⟩
theorem o_addReloc_120 : InsA md_addReloc 120 (.iload 6) 2 122 := ⟨by decide +kernel, rfl⟩
theorem o_addReloc_122 : InsA md_addReloc 122 (.baload) 1 123 := ⟨by decide +kernel, rfl⟩
theorem o_addReloc_123 : InsB md_addReloc 123 (.ifCond .ne 18) 3 126 (18) 141 := ⟨by decide +kernel, rfl, by decide, by decide⟩
theorem o_addReloc_126 : InsA md_addReloc 126 (.iload 5) 2 128 := ⟨by decide +kernel, rfl⟩
theorem o_addReloc_128 : InsB md_addReloc 128 (.ifCond .eq 16) 3 131 (16) 144 := ⟨by decide +kernel, rfl, by decide, by decide⟩
theorem o_addReloc_131 : InsA md_addReloc 131 (.aload_n 0) 1 132 := ⟨by decide +kernel, rfl⟩
theorem o_addReloc_132 : InsA md_addReloc 132 (.getfield 22) 3 135 := ⟨by decide +kernel, rfl⟩
theorem o_addReloc_135 : InsA md_addReloc 135 (.iload 7) 2 137 := ⟨by decide +kernel, rfl⟩
theorem o_addReloc_137 : InsA md_addReloc 137 (.baload) 1 138 := ⟨by decide +kernel, rfl⟩
theorem o_addReloc_138 : InsB md_addReloc 138 (.ifCond .eq 6) 3 141 (6) 144 := ⟨by decide +kernel, rfl, by decide, by decide⟩
theorem o_addReloc_141 : InsA md_addReloc 141 (.bipush (-4)) 2 143 := ⟨by decide +kernel, rfl⟩
theorem o_addReloc_143 : InsA md_addReloc 143 (.ireturn) 1 144 := ⟨by decide +kernel, rfl⟩
theorem o_addReloc_144 : InsA md_addReloc 144 (.aload_n 0) 1 145 := ⟨by decide +kernel, rfl⟩
theorem o_addReloc_145 : InsA md_addReloc 145 (.iload_n 1) 1 146 := ⟨by decide +kernel, rfl⟩
theorem o_addReloc_146 : InsA md_addReloc 146 (.iload 6) 2 148 := ⟨by decide +kernel, rfl⟩
theorem o_addReloc_148 : InsA md_addReloc 148 (.iload_n 3) 1 149 := ⟨by decide +kernel, rfl⟩
theorem o_addReloc_149 : InsA md_addReloc 149 (.iload 7) 2 151 := ⟨by decide +kernel, rfl⟩
theorem o_addReloc_151 : InsA md_addReloc 151 (.invokevirtual 92) 3 154 := ⟨by decide +kernel, rfl⟩
theorem o_addReloc_154 : InsA md_addReloc 154 (.ireturn) 1 155 := ⟨by decide +kernel, rfl⟩
abbrev md_validTarget : MD := (⟨"RebaseLoader", "validTarget", "(I)Z"⟩, prog_1_method_10_code, 2, some .boolean, { frames := 0, cells := 0, slots := 0, locals := 0 }, 0)
theorem cv_validTarget {Z : State} {a0 : Array Value} (H : OK Z a0) : CalV Z a0 md_validTarget 1 := ⟨pn_RebaseLoader, by decide, pd__I_Z, H.w 91 rfl, H.w 93 rfl, H.w 2 rfl, Or.inr ⟨H.w 92 rfl, 18, H.w 1 rfl⟩⟩
theorem o_validTarget_0 : InsA md_validTarget 0 (.iload_n 1) 1 1 := ⟨by decide +kernel, rfl⟩
theorem o_validTarget_1 : InsA md_validTarget 1 (.iconst (-1)) 1 2 := ⟨by decide +kernel, rfl⟩
theorem o_validTarget_2 : InsB md_validTarget 2 (.if_icmp .ne 5) 3 5 (5) 7 := ⟨by decide +kernel, rfl, by decide, by decide⟩
theorem o_validTarget_5 : InsA md_validTarget 5 (.iconst 1) 1 6 := ⟨by decide +kernel, rfl⟩
theorem o_validTarget_6 : InsA md_validTarget 6 (.ireturn) 1 7 := ⟨by decide +kernel, rfl⟩
theorem o_validTarget_7 : InsA md_validTarget 7 (.iload_n 1) 1 8 := ⟨by decide +kernel, rfl⟩
theorem o_validTarget_8 : InsB md_validTarget 8 (.ifCond .lt 15) 3 11 (15) 23 := ⟨by decide +kernel, rfl, by decide, by decide⟩
theorem o_validTarget_11 : InsA md_validTarget 11 (.iload_n 1) 1 12 := ⟨by decide +kernel, rfl⟩
theorem o_validTarget_12 : InsA md_validTarget 12 (.aload_n 0) 1 13 := ⟨by decide +kernel, rfl⟩
theorem o_validTarget_13 : InsA md_validTarget 13 (.getfield 55) 3 16 := ⟨by decide +kernel, rfl⟩
theorem o_validTarget_16 : InsB md_validTarget 16 (.if_icmp .ge 7) 3 19 (7) 23 := ⟨by decide +kernel, rfl, by decide, by decide⟩
theorem o_validTarget_19 : InsA md_validTarget 19 (.iconst 1) 1 20 := ⟨by decide +kernel, rfl⟩
theorem o_validTarget_20 : InsB md_validTarget 20 (.goto 4) 3 23 (4) 24 := ⟨by decide +kernel, rfl, by decide, by decide⟩
theorem o_validTarget_23 : InsA md_validTarget 23 (.iconst 0) 1 24 := ⟨by decide +kernel, rfl⟩
theorem o_validTarget_24 : InsA md_validTarget 24 (.ireturn) 1 25 := ⟨by decide +kernel, rfl⟩
abbrev md_storeRecord : MD := (⟨"RebaseLoader", "storeRecord", "(IIII)I"⟩, prog_1_method_16_code, 6, some .int, { frames := 0, cells := 0, slots := 0, locals := 0 }, 0)
theorem al_storeRecord (x0 : Int32) (x1 : Int32) (x2 : Int32) (x3 : Int32) : (argsToLocals [.ref 0, .int x0, .int x1, .int x2, .int x3].toArray (mxOf md_storeRecord)).toList = [.val (.ref 0), .val (.int x0), .val (.int x1), .val (.int x2), .val (.int x3), .unset] := (Jvm.Sym.argsToLocals_toList _ _).trans rfl
theorem cv_storeRecord {Z : State} {a0 : Array Value} (H : OK Z a0) : CalV Z a0 md_storeRecord 4 := ⟨pn_RebaseLoader, by decide, pd__IIII_I, H.w 95 rfl, H.w 97 rfl, H.w 2 rfl, Or.inr ⟨H.w 96 rfl, 18, H.w 1 rfl⟩⟩
theorem o_storeRecord_0 : InsA md_storeRecord 0 (.aload_n 0) 1 1 := ⟨by decide +kernel, rfl⟩
theorem o_storeRecord_1 : InsA md_storeRecord 1 (.getfield 58) 3 4 := ⟨by decide +kernel, rfl⟩
theorem o_storeRecord_4 : InsA md_storeRecord 4 (.istore 5) 2 6 := ⟨by decide +kernel, rfl⟩
theorem o_storeRecord_6 : InsA md_storeRecord 6 (.aload_n 0) 1 7 := ⟨by decide +kernel, rfl⟩
theorem o_storeRecord_7 : InsA md_storeRecord 7 (.getfield 26) 3 10 := ⟨by decide +kernel, rfl⟩
theorem o_storeRecord_10 : InsA md_storeRecord 10 (.iload 5) 2 12 := ⟨by decide +kernel, rfl⟩
theorem o_storeRecord_12 : InsA md_storeRecord 12 (.iload_n 1) 1 13 := ⟨by decide +kernel, rfl⟩
theorem o_storeRecord_13 : InsA md_storeRecord 13 (.iastore) 1 14 := ⟨by decide +kernel, rfl⟩
theorem o_storeRecord_14 : InsA md_storeRecord 14 (.aload_n 0) 1 15 := ⟨by decide +kernel, rfl⟩
theorem o_storeRecord_15 : InsA md_storeRecord 15 (.getfield 29) 3 18 := ⟨by decide +kernel, rfl⟩
theorem o_storeRecord_18 : InsA md_storeRecord 18 (.iload 5) 2 20 := ⟨by decide +kernel, rfl⟩
theorem o_storeRecord_20 : InsA md_storeRecord 20 (.iload_n 2) 1 21 := ⟨by decide +kernel, rfl⟩
theorem o_storeRecord_21 : InsA md_storeRecord 21 (.iastore) 1 22 := ⟨by decide +kernel, rfl⟩
theorem o_storeRecord_22 : InsA md_storeRecord 22 (.aload_n 0) 1 23 := ⟨by decide +kernel, rfl⟩
theorem o_storeRecord_23 : InsA md_storeRecord 23 (.getfield 32) 3 26 := ⟨by decide +kernel, rfl⟩
theorem o_storeRecord_26 : InsA md_storeRecord 26 (.iload 5) 2 28 := ⟨by decide +kernel, rfl⟩
theorem o_storeRecord_28 : InsA md_storeRecord 28 (.iload_n 3) 1 29 := ⟨by decide +kernel, rfl⟩
theorem o_storeRecord_29 : InsA md_storeRecord 29 (.iastore) 1 30 := ⟨by decide +kernel, rfl⟩
theorem o_storeRecord_30 : InsA md_storeRecord 30 (.aload_n 0) 1 31 := ⟨by decide +kernel, rfl⟩
theorem o_storeRecord_31 : InsA md_storeRecord 31 (.getfield 35) 3 34 := ⟨by decide +kernel, rfl⟩
theorem o_storeRecord_34 : InsA md_storeRecord 34 (.iload 5) 2 36 := ⟨by decide +kernel, rfl⟩
theorem o_storeRecord_36 : InsA md_storeRecord 36 (.iload 4) 2 38 := ⟨by decide +kernel, rfl⟩
theorem o_storeRecord_38 : InsA md_storeRecord 38 (.iastore) 1 39 := ⟨by decide +kernel, rfl⟩
theorem o_storeRecord_39 : InsA md_storeRecord 39 (.aload_n 0) 1 40 := ⟨by decide +kernel, rfl⟩
theorem o_storeRecord_40 : InsA md_storeRecord 40 (.getfield 22) 3 43 := ⟨by decide +kernel, rfl⟩
theorem o_storeRecord_43 : InsA md_storeRecord 43 (.iload_n 2) 1 44 := ⟨by decide +kernel, rfl⟩
theorem o_storeRecord_44 : InsA md_storeRecord 44 (.iconst 1) 1 45 := ⟨by decide +kernel, rfl⟩
theorem o_storeRecord_45 : InsA md_storeRecord 45 (.bastore) 1 46 := ⟨by decide +kernel, rfl⟩
theorem o_storeRecord_46 : InsA md_storeRecord 46 (.iload_n 1) 1 47 := ⟨by decide +kernel, rfl⟩
theorem o_storeRecord_47 : InsA md_storeRecord 47 (.iconst 4) 1 48 := ⟨by decide +kernel, rfl⟩
theorem o_storeRecord_48 : InsB md_storeRecord 48 (.if_icmp .ne 23) 3 51 (23) 71 := ⟨by decide +kernel, rfl, by decide, by decide⟩
theorem o_storeRecord_51 : InsA md_storeRecord 51 (.iload 4) 2 53 := ⟨by decide +kernel, rfl⟩
theorem o_storeRecord_53 : InsB md_storeRecord 53 (.ifCond .lt 18) 3 56 (18) 71 := ⟨by decide +kernel, rfl, by decide, by decide⟩
theorem o_storeRecord_56 : InsA md_storeRecord 56 (.iload 4) 2 58 := ⟨by decide +kernel, rfl⟩
theorem o_storeRecord_58 : InsA md_storeRecord 58 (.bipush 64) 2 60 := ⟨by decide +kernel, rfl⟩
theorem o_storeRecord_60 : InsB md_storeRecord 60 (.if_icmp .ge 11) 3 63 (11) 71 := ⟨by decide +kernel, rfl, by decide, by decide⟩
theorem o_storeRecord_63 : InsA md_storeRecord 63 (.aload_n 0) 1 64 := ⟨by decide +kernel, rfl⟩
theorem o_storeRecord_64 : InsA md_storeRecord 64 (.getfield 22) 3 67 := ⟨by decide +kernel, rfl⟩
theorem o_storeRecord_67 : InsA md_storeRecord 67 (.iload 4) 2 69 := ⟨by decide +kernel, rfl⟩
theorem o_storeRecord_69 : InsA md_storeRecord 69 (.iconst 1) 1 70 := ⟨by decide +kernel, rfl⟩
theorem o_storeRecord_70 : InsA md_storeRecord 70 (.bastore) 1 71 := ⟨by decide +kernel, rfl⟩
theorem o_storeRecord_71 : InsA md_storeRecord 71 (.aload_n 0) 1 72 := ⟨by decide +kernel, rfl⟩
theorem o_storeRecord_72 : InsA md_storeRecord 72 (.aload_n 0) 1 73 := ⟨by decide +kernel, rfl⟩
theorem o_storeRecord_73 : InsA md_storeRecord 73 (.getfield 58) 3 76 := ⟨by decide +kernel, rfl⟩
theorem o_storeRecord_76 : InsA md_storeRecord 76 (.iconst 1) 1 77 := ⟨by decide +kernel, rfl⟩
theorem o_storeRecord_77 : InsA md_storeRecord 77 (.iadd) 1 78 := ⟨by decide +kernel, rfl⟩
theorem o_storeRecord_78 : InsA md_storeRecord 78 (.putfield 58) 3 81 := ⟨by decide +kernel, rfl⟩
theorem o_storeRecord_81 : InsA md_storeRecord 81 (.iload 5) 2 83 := ⟨by decide +kernel, rfl⟩
theorem o_storeRecord_83 : InsA md_storeRecord 83 (.ireturn) 1 84 := ⟨by decide +kernel, rfl⟩
abbrev md_load : MD := (⟨"RebaseLoader", "load", "(I)I"⟩, prog_1_method_17_code, 3, some .int, { frames := 4, cells := 0, slots := 0, locals := 72 }, 0)
theorem cv_load {Z : State} {a0 : Array Value} (H : OK Z a0) : CalV Z a0 md_load 1 := ⟨pn_RebaseLoader, by decide, pd__I_I, H.w 100 rfl, H.w 102 rfl, H.w 2 rfl, Or.inl ⟨H.w 99 rfl, H.w 101 rfl⟩⟩
theorem o_load_0 : InsA md_load 0 (.aload_n 0) 1 1 := ⟨by decide +kernel, rfl⟩
theorem o_load_1 : InsA md_load 1 (.getfield 52) 3 4 := ⟨by decide +kernel, rfl⟩
theorem o_load_4 : InsB md_load 4 (.ifCond .eq 5) 3 7 (5) 9 := ⟨by decide +kernel, rfl, by decide, by decide⟩
theorem o_load_7 : InsA md_load 7 (.iconst (-1)) 1 8 := ⟨by decide +kernel, rfl⟩
theorem o_load_8 : InsA md_load 8 (.ireturn) 1 9 := ⟨by decide +kernel, rfl⟩
theorem o_load_9 : InsA md_load 9 (.aload_n 0) 1 10 := ⟨by decide +kernel, rfl⟩
theorem o_load_10 : InsA md_load 10 (.iload_n 1) 1 11 := ⟨by decide +kernel, rfl⟩
theorem o_load_11 : InsA md_load 11 (.invokevirtual 96) 3 14 := ⟨by decide +kernel, rfl⟩
theorem o_load_14 : InsB md_load 14 (.ifCond .ne 6) 3 17 (6) 20 := ⟨by decide +kernel, rfl, by decide, by decide⟩
theorem o_load_17 : InsA md_load 17 (.bipush (-2)) 2 19 := ⟨by decide +kernel, rfl⟩
theorem o_load_19 : InsA md_load 19 (.ireturn) 1 20 := ⟨by decide +kernel, rfl⟩
theorem o_load_20 : InsA md_load 20 (.iconst 0) 1 21 := ⟨by decide +kernel, rfl⟩
theorem o_load_21 : InsA md_load 21 (.istore_n 2) 1 22 := ⟨by decide +kernel, rfl⟩
theorem o_load_22 : InsA md_load 22 (.iload_n 2) 1 23 := ⟨by decide +kernel, rfl⟩
theorem o_load_23 : InsA md_load 23 (.aload_n 0) 1 24 := ⟨by decide +kernel, rfl⟩
theorem o_load_24 : InsA md_load 24 (.getfield 61) 3 27 := ⟨by decide +kernel, rfl⟩
theorem o_load_27 : InsB md_load 27 (.if_icmp .ge 27) 3 30 (27) 54 := ⟨by decide +kernel, rfl, by decide, by decide⟩
theorem o_load_30 : InsA md_load 30 (.iload_n 2) 1 31 := ⟨by decide +kernel, rfl⟩
theorem o_load_31 : InsA md_load 31 (.bipush 64) 2 33 := ⟨by decide +kernel, rfl⟩
theorem o_load_33 : InsB md_load 33 (.if_icmp .ge 21) 3 36 (21) 54 := ⟨by decide +kernel, rfl, by decide, by decide⟩
theorem o_load_36 : InsA md_load 36 (.aload_n 0) 1 37 := ⟨by decide +kernel, rfl⟩
theorem o_load_37 : InsA md_load 37 (.getfield 19) 3 40 := ⟨by decide +kernel, rfl⟩
theorem o_load_40 : InsA md_load 40 (.iload_n 2) 1 41 := ⟨by decide +kernel, rfl⟩
theorem o_load_41 : InsA md_load 41 (.aload_n 0) 1 42 := ⟨by decide +kernel, rfl⟩
theorem o_load_42 : InsA md_load 42 (.getfield 16) 3 45 := ⟨by decide +kernel, rfl⟩
theorem o_load_45 : InsA md_load 45 (.iload_n 2) 1 46 := ⟨by decide +kernel, rfl⟩
theorem o_load_46 : InsA md_load 46 (.iaload) 1 47 := ⟨by decide +kernel, rfl⟩
theorem o_load_47 : InsA md_load 47 (.iastore) 1 48 := ⟨by decide +kernel, rfl⟩
theorem o_load_48 : InsA md_load 48 (.iinc 2 1) 3 51 := ⟨by decide +kernel, rfl⟩
theorem o_load_51 : InsB md_load 51 (.goto (-29)) 3 54 (-29) 22 := ⟨by decide +kernel, rfl, by decide, by decide⟩
theorem o_load_54 : InsA md_load 54 (.iconst 0) 1 55 := ⟨by decide +kernel, rfl⟩
theorem o_load_55 : InsA md_load 55 (.istore_n 2) 1 56 := ⟨by decide +kernel, rfl⟩
theorem o_load_56 : InsA md_load 56 (.iload_n 2) 1 57 := ⟨by decide +kernel, rfl⟩
theorem o_load_57 : InsA md_load 57 (.aload_n 0) 1 58 := ⟨by decide +kernel, rfl⟩
theorem o_load_58 : InsA md_load 58 (.getfield 58) 3 61 := ⟨by decide +kernel, rfl⟩
theorem o_load_61 : InsB md_load 61 (.if_icmp .ge 21) 3 64 (21) 82 := ⟨by decide +kernel, rfl, by decide, by decide⟩
theorem o_load_64 : InsA md_load 64 (.iload_n 2) 1 65 := ⟨by decide +kernel, rfl⟩
theorem o_load_65 : InsA md_load 65 (.bipush 32) 2 67 := ⟨by decide +kernel, rfl⟩
theorem o_load_67 : InsB md_load 67 (.if_icmp .ge 15) 3 70 (15) 82 := ⟨by decide +kernel, rfl, by decide, by decide⟩
theorem o_load_70 : InsA md_load 70 (.aload_n 0) 1 71 := ⟨by decide +kernel, rfl⟩
theorem o_load_71 : InsA md_load 71 (.iload_n 2) 1 72 := ⟨by decide +kernel, rfl⟩
theorem o_load_72 : InsA md_load 72 (.iload_n 1) 1 73 := ⟨by decide +kernel, rfl⟩
theorem o_load_73 : InsA md_load 73 (.invokevirtual 99) 3 76 := ⟨by decide +kernel, rfl⟩
theorem o_load_76 : InsA md_load 76 (.iinc 2 1) 3 79 := ⟨by decide +kernel, rfl⟩
theorem o_load_79 : InsB md_load 79 (.goto (-23)) 3 82 (-23) 56 := ⟨by decide +kernel, rfl, by decide, by decide⟩
theorem o_load_82 : InsA md_load 82 (.aload_n 0) 1 83 := ⟨by decide +kernel, rfl⟩
theorem o_load_83 : InsA md_load 83 (.iload_n 1) 1 84 := ⟨by decide +kernel, rfl⟩
theorem o_load_84 : InsA md_load 84 (.putfield 64) 3 87 := ⟨by decide +kernel, rfl⟩
theorem o_load_87 : InsA md_load 87 (.aload_n 0) 1 88 := ⟨by decide +kernel, rfl⟩
theorem o_load_88 : InsA md_load 88 (.iconst 1) 1 89 := ⟨by decide +kernel, rfl⟩
theorem o_load_89 : InsA md_load 89 (.invokevirtual 102) 3 92 := ⟨by decide +kernel, rfl⟩
theorem o_load_92 : InsA md_load 92 (.iconst 0) 1 93 := ⟨by decide +kernel, rfl⟩
theorem o_load_93 : InsA md_load 93 (.ireturn) 1 94 := ⟨by decide +kernel, rfl⟩
abbrev md_legalBase : MD := (⟨"RebaseLoader", "legalBase", "(I)Z"⟩, prog_1_method_6_code, 2, some .boolean, { frames := 0, cells := 0, slots := 0, locals := 0 }, 0)
theorem cv_legalBase {Z : State} {a0 : Array Value} (H : OK Z a0) : CalV Z a0 md_legalBase 1 := ⟨pn_RebaseLoader, by decide, pd__I_Z, H.w 104 rfl, H.w 106 rfl, H.w 2 rfl, Or.inr ⟨H.w 105 rfl, 18, H.w 1 rfl⟩⟩
theorem o_legalBase_0 : InsA md_legalBase 0 (.iload_n 1) 1 1 := ⟨by decide +kernel, rfl⟩
theorem o_legalBase_1 : InsA md_legalBase 1 (.bipush 15) 2 3 := ⟨by decide +kernel, rfl⟩
theorem o_legalBase_3 : InsA md_legalBase 3 (.iand) 1 4 := ⟨by decide +kernel, rfl⟩
theorem o_legalBase_4 : InsB md_legalBase 4 (.ifCond .ne 7) 3 7 (7) 11 := ⟨by decide +kernel, rfl, by decide, by decide⟩
theorem o_legalBase_7 : InsA md_legalBase 7 (.iconst 1) 1 8 := ⟨by decide +kernel, rfl⟩
theorem o_legalBase_8 : InsB md_legalBase 8 (.goto 4) 3 11 (4) 12 := ⟨by decide +kernel, rfl, by decide, by decide⟩
theorem o_legalBase_11 : InsA md_legalBase 11 (.iconst 0) 1 12 := ⟨by decide +kernel, rfl⟩
theorem o_legalBase_12 : InsA md_legalBase 12 (.ireturn) 1 13 := ⟨by decide +kernel, rfl⟩
abbrev md_applyLoad : MD := (⟨"RebaseLoader", "applyLoad", "(II)V"⟩, prog_1_method_19_code, 8, none, { frames := 3, cells := 0, slots := 0, locals := 53 }, 0)
theorem cv_applyLoad {Z : State} {a0 : Array Value} (H : OK Z a0) : CalV Z a0 md_applyLoad 2 := ⟨pn_RebaseLoader, by decide, pd__II_V, H.w 108 rfl, H.w 110 rfl, H.w 2 rfl, Or.inr ⟨H.w 109 rfl, 18, H.w 1 rfl⟩⟩
theorem o_applyLoad_0 : InsA md_applyLoad 0 (.aload_n 0) 1 1 := ⟨by decide +kernel, rfl⟩
theorem o_applyLoad_1 : InsA md_applyLoad 1 (.getfield 26) 3 4 := ⟨by decide +kernel, rfl⟩
theorem o_applyLoad_4 : InsA md_applyLoad 4 (.iload_n 1) 1 5 := ⟨by decide +kernel, rfl⟩
theorem o_applyLoad_5 : InsA md_applyLoad 5 (.iaload) 1 6 := ⟨by decide +kernel, rfl⟩
theorem o_applyLoad_6 : InsA md_applyLoad 6 (.istore_n 3) 1 7 := ⟨by decide +kernel, rfl⟩
theorem o_applyLoad_7 : InsA md_applyLoad 7 (.aload_n 0) 1 8 := ⟨by decide +kernel, rfl⟩
theorem o_applyLoad_8 : InsA md_applyLoad 8 (.getfield 29) 3 11 := ⟨by decide +kernel, rfl⟩
theorem o_applyLoad_11 : InsA md_applyLoad 11 (.iload_n 1) 1 12 := ⟨by decide +kernel, rfl⟩
theorem o_applyLoad_12 : InsA md_applyLoad 12 (.iaload) 1 13 := ⟨by decide +kernel, rfl⟩
theorem o_applyLoad_13 : InsA md_applyLoad 13 (.istore 4) 2 15 := ⟨by decide +kernel, rfl⟩
theorem o_applyLoad_15 : InsA md_applyLoad 15 (.aload_n 0) 1 16 := ⟨by decide +kernel, rfl⟩
theorem o_applyLoad_16 : InsA md_applyLoad 16 (.aload_n 0) 1 17 := ⟨by decide +kernel, rfl⟩
theorem o_applyLoad_17 : InsA md_applyLoad 17 (.getfield 32) 3 20 := ⟨by decide +kernel, rfl⟩
theorem o_applyLoad_20 : InsA md_applyLoad 20 (.iload_n 1) 1 21 := ⟨by decide +kernel, rfl⟩
theorem o_applyLoad_21 : InsA md_applyLoad 21 (.iaload) 1 22 := ⟨by decide +kernel, rfl⟩
theorem o_applyLoad_22 : InsA md_applyLoad 22 (.iload_n 2) 1 23 := ⟨by decide +kernel, rfl⟩
theorem o_applyLoad_23 : InsA md_applyLoad 23 (.invokevirtual 106) 3 26 := ⟨by decide +kernel, rfl⟩
theorem o_applyLoad_26 : InsA md_applyLoad 26 (.istore 5) 2 28 := ⟨by decide +kernel, rfl⟩
theorem o_applyLoad_28 : InsA md_applyLoad 28 (.aload_n 0) 1 29 := ⟨by decide +kernel, rfl⟩
theorem o_applyLoad_29 : InsA md_applyLoad 29 (.getfield 16) 3 32 := ⟨by decide +kernel, rfl⟩
theorem o_applyLoad_32 : InsA md_applyLoad 32 (.iload 4) 2 34 := ⟨by decide +kernel, rfl⟩
theorem o_applyLoad_34 : InsA md_applyLoad 34 (.iaload) 1 35 := ⟨by decide +kernel, rfl⟩
theorem o_applyLoad_35 : InsA md_applyLoad 35 (.istore 6) 2 37 := ⟨by decide +kernel, rfl⟩
theorem o_applyLoad_37 : InsA md_applyLoad 37 (.iload_n 3) 1 38 := ⟨by decide +kernel, rfl⟩
theorem o_applyLoad_38 : InsA md_applyLoad 38 (.iconst 1) 1 39 := ⟨by decide +kernel, rfl⟩
theorem o_applyLoad_39 : InsB md_applyLoad 39 (.if_icmp .ne 18) 3 42 (18) 57 := ⟨by decide +kernel, rfl, by decide, by decide⟩
theorem o_applyLoad_42 : InsA md_applyLoad 42 (.aload_n 0) 1 43 := ⟨by decide +kernel, rfl⟩
theorem o_applyLoad_43 : InsA md_applyLoad 43 (.getfield 19) 3 46 := ⟨by decide +kernel, rfl⟩
theorem o_applyLoad_46 : InsA md_applyLoad 46 (.iload 4) 2 48 := ⟨by decide +kernel, rfl⟩
theorem o_applyLoad_48 : InsA md_applyLoad 48 (.iload 5) 2 50 := ⟨by decide +kernel, rfl⟩
theorem o_applyLoad_50 : InsA md_applyLoad 50 (.iload 6) 2 52 := ⟨by decide +kernel, rfl⟩
theorem o_applyLoad_52 : InsA md_applyLoad 52 (.iadd) 1 53 := ⟨by decide +kernel, rfl⟩
theorem o_applyLoad_53 : InsA md_applyLoad 53 (.iastore) 1 54 := ⟨by decide +kernel, rfl⟩
theorem o_applyLoad_54 : InsB md_applyLoad 54 (.goto 62) 3 57 (62) 116 := ⟨by decide +kernel, rfl, by decide, by decide⟩
theorem o_applyLoad_57 : InsA md_applyLoad 57 (.iload_n 3) 1 58 := ⟨by decide +kernel, rfl⟩
theorem o_applyLoad_58 : InsA md_applyLoad 58 (.iconst 2) 1 59 := ⟨by decide +kernel, rfl⟩
theorem o_applyLoad_59 : InsB md_applyLoad 59 (.if_icmp .ne 27) 3 62 (27) 86 := ⟨by decide +kernel, rfl, by decide, by decide⟩
theorem o_applyLoad_62 : InsA md_applyLoad 62 (.iload_n 2) 1 63 := ⟨by decide +kernel, rfl⟩
theorem o_applyLoad_63 : InsA md_applyLoad 63 (.iload 4) 2 65 := ⟨by decide +kernel, rfl⟩
theorem o_applyLoad_65 : InsA md_applyLoad 65 (.iadd) 1 66 := ⟨by decide +kernel, rfl⟩
theorem o_applyLoad_66 : InsA md_applyLoad 66 (.istore 7) 2 68 := ⟨by decide +kernel, rfl⟩
theorem o_applyLoad_68 : InsA md_applyLoad 68 (.aload_n 0) 1 69 := ⟨by decide +kernel, rfl⟩
theorem o_applyLoad_69 : InsA md_applyLoad 69 (.getfield 19) 3 72 := ⟨by decide +kernel, rfl⟩
theorem o_applyLoad_72 : InsA md_applyLoad 72 (.iload 4) 2 74 := ⟨by decide +kernel, rfl⟩
theorem o_applyLoad_74 : InsA md_applyLoad 74 (.iload 5) 2 76 := ⟨by decide +kernel, rfl⟩
theorem o_applyLoad_76 : InsA md_applyLoad 76 (.iload 6) 2 78 := ⟨by decide +kernel, rfl⟩
theorem o_applyLoad_78 : InsA md_applyLoad 78 (.iadd) 1 79 := ⟨by decide +kernel, rfl⟩
theorem o_applyLoad_79 : InsA md_applyLoad 79 (.iload 7) 2 81 := ⟨by decide +kernel, rfl⟩
theorem o_applyLoad_81 : InsA md_applyLoad 81 (.isub) 1 82 := ⟨by decide +kernel, rfl⟩
theorem o_applyLoad_82 : InsA md_applyLoad 82 (.iastore) 1 83 := ⟨by decide +kernel, rfl⟩
theorem o_applyLoad_83 : InsB md_applyLoad 83 (.goto 33) 3 86 (33) 116 := ⟨by decide +kernel, rfl, by decide, by decide⟩
theorem o_applyLoad_86 : InsA md_applyLoad 86 (.iload_n 3) 1 87 := ⟨by decide +kernel, rfl⟩
theorem o_applyLoad_87 : InsA md_applyLoad 87 (.iconst 3) 1 88 := ⟨by decide +kernel, rfl⟩
theorem o_applyLoad_88 : InsB md_applyLoad 88 (.if_icmp .ne 21) 3 91 (21) 109 := ⟨by decide +kernel, rfl, by decide, by decide⟩
theorem o_applyLoad_91 : InsA md_applyLoad 91 (.aload_n 0) 1 92 := ⟨by decide +kernel, rfl⟩
theorem o_applyLoad_92 : InsA md_applyLoad 92 (.getfield 19) 3 95 := ⟨by decide +kernel, rfl⟩
theorem o_applyLoad_95 : InsA md_applyLoad 95 (.iload 4) 2 97 := ⟨by decide +kernel, rfl⟩
theorem o_applyLoad_97 : InsA md_applyLoad 97 (.aload_n 0) 1 98 := ⟨by decide +kernel, rfl⟩
theorem o_applyLoad_98 : InsA md_applyLoad 98 (.iload 6) 2 100 := ⟨by decide +kernel, rfl⟩
theorem o_applyLoad_100 : InsA md_applyLoad 100 (.iload 5) 2 102 := ⟨by decide +kernel, rfl⟩
theorem o_applyLoad_102 : InsA md_applyLoad 102 (.invokevirtual 110) 3 105 := ⟨by decide +kernel, rfl⟩
theorem o_applyLoad_109 : InsA md_applyLoad 109 (.aload_n 0) 1 110 := ⟨by decide +kernel, rfl⟩
theorem o_applyLoad_110 : InsA md_applyLoad 110 (.iload_n 1) 1 111 := ⟨by decide +kernel, rfl⟩
theorem o_applyLoad_111 : InsA md_applyLoad 111 (.iload 5) 2 113 := ⟨by decide +kernel, rfl⟩
theorem o_applyLoad_113 : InsA md_applyLoad 113 (.invokevirtual 113) 3 116 := ⟨by decide +kernel, rfl⟩
theorem o_applyLoad_116 : InsA md_applyLoad 116 (.return_) 1 117 := ⟨by decide +kernel, rfl⟩
abbrev md_symbolAddr : MD := (⟨"RebaseLoader", "symbolAddr", "(II)I"⟩, prog_1_method_18_code, 3, some .int, { frames := 0, cells := 0, slots := 0, locals := 0 }, 0)
theorem cv_symbolAddr {Z : State} {a0 : Array Value} (H : OK Z a0) : CalV Z a0 md_symbolAddr 2 := ⟨pn_RebaseLoader, by decide, pd__II_I, H.w 112 rfl, H.w 114 rfl, H.w 2 rfl, Or.inr ⟨H.w 113 rfl, 18, H.w 1 rfl⟩⟩
theorem o_symbolAddr_0 : InsA md_symbolAddr 0 (.iload_n 1) 1 1 := ⟨by decide +kernel, rfl⟩
theorem o_symbolAddr_1 : InsB md_symbolAddr 1 (.ifCond .lt 11) 3 4 (11) 12 := ⟨by decide +kernel, rfl, by decide, by decide⟩
theorem o_symbolAddr_4 : InsA md_symbolAddr 4 (.iload_n 1) 1 5 := ⟨by decide +kernel, rfl⟩
theorem o_symbolAddr_5 : InsA md_symbolAddr 5 (.aload_n 0) 1 6 := ⟨by decide +kernel, rfl⟩
theorem o_symbolAddr_6 : InsA md_symbolAddr 6 (.getfield 55) 3 9 := ⟨by decide +kernel, rfl⟩
theorem o_symbolAddr_9 : InsB md_symbolAddr 9 (.if_icmp .lt 5) 3 12 (5) 14 := ⟨by decide +kernel, rfl, by decide, by decide⟩
theorem o_symbolAddr_12 : InsA md_symbolAddr 12 (.iconst 0) 1 13 := ⟨by decide +kernel, rfl⟩
theorem o_symbolAddr_13 : InsA md_symbolAddr 13 (.ireturn) 1 14 := ⟨by decide +kernel, rfl⟩
theorem o_symbolAddr_14 : InsA md_symbolAddr 14 (.iload_n 2) 1 15 := ⟨by decide +kernel, rfl⟩
theorem o_symbolAddr_15 : InsA md_symbolAddr 15 (.aload_n 0) 1 16 := ⟨by decide +kernel, rfl⟩
theorem o_symbolAddr_16 : InsA md_symbolAddr 16 (.getfield 7) 3 19 := ⟨by decide +kernel, rfl⟩
theorem o_symbolAddr_19 : InsA md_symbolAddr 19 (.iload_n 1) 1 20 := ⟨by decide +kernel, rfl⟩
theorem o_symbolAddr_20 : InsA md_symbolAddr 20 (.iaload) 1 21 := ⟨by decide +kernel, rfl⟩
theorem o_symbolAddr_21 : InsA md_symbolAddr 21 (.iadd) 1 22 := ⟨by decide +kernel, rfl⟩
theorem o_symbolAddr_22 : InsA md_symbolAddr 22 (.ireturn) 1 23 := ⟨by decide +kernel, rfl⟩
abbrev md_loadPair : MD := (⟨"RebaseLoader", "loadPair", "(II)V"⟩, prog_1_method_21_code, 9, none, { frames := 2, cells := 0, slots := 0, locals := 33 }, 0)
theorem cv_loadPair {Z : State} {a0 : Array Value} (H : OK Z a0) : CalV Z a0 md_loadPair 2 := ⟨pn_RebaseLoader, by decide, pd__II_V, H.w 116 rfl, H.w 118 rfl, H.w 2 rfl, Or.inr ⟨H.w 117 rfl, 18, H.w 1 rfl⟩⟩
theorem o_loadPair_0 : InsA md_loadPair 0 (.aload_n 0) 1 1 := ⟨by decide +kernel, rfl⟩
theorem o_loadPair_1 : InsA md_loadPair 1 (.getfield 29) 3 4 := ⟨by decide +kernel, rfl⟩
theorem o_loadPair_4 : InsA md_loadPair 4 (.iload_n 1) 1 5 := ⟨by decide +kernel, rfl⟩
theorem o_loadPair_5 : InsA md_loadPair 5 (.iaload) 1 6 := ⟨by decide +kernel, rfl⟩
theorem o_loadPair_6 : InsA md_loadPair 6 (.istore_n 3) 1 7 := ⟨by decide +kernel, rfl⟩
theorem o_loadPair_7 : InsA md_loadPair 7 (.aload_n 0) 1 8 := ⟨by decide +kernel, rfl⟩
theorem o_loadPair_8 : InsA md_loadPair 8 (.getfield 35) 3 11 := ⟨by decide +kernel, rfl⟩
theorem o_loadPair_11 : InsA md_loadPair 11 (.iload_n 1) 1 12 := ⟨by decide +kernel, rfl⟩
theorem o_loadPair_12 : InsA md_loadPair 12 (.iaload) 1 13 := ⟨by decide +kernel, rfl⟩
theorem o_loadPair_13 : InsA md_loadPair 13 (.istore 4) 2 15 := ⟨by decide +kernel, rfl⟩
theorem o_loadPair_15 : InsA md_loadPair 15 (.iload 4) 2 17 := ⟨by decide +kernel, rfl⟩
theorem o_loadPair_17 : InsB md_loadPair 17 (.ifCond .lt 10) 3 20 (10) 27 := ⟨by decide +kernel, rfl, by decide, by decide⟩
theorem o_loadPair_20 : InsA md_loadPair 20 (.iload 4) 2 22 := ⟨by decide +kernel, rfl⟩
theorem o_loadPair_22 : InsA md_loadPair 22 (.bipush 64) 2 24 := ⟨by decide +kernel, rfl⟩
theorem o_loadPair_24 : InsB md_loadPair 24 (.if_icmp .lt 4) 3 27 (4) 28 := ⟨by decide +kernel, rfl, by decide, by decide⟩
theorem o_loadPair_27 : InsA md_loadPair 27 (.return_) 1 28 := ⟨by decide +kernel, rfl⟩
theorem o_loadPair_28 : InsA md_loadPair 28 (.aload_n 0) 1 29 := ⟨by decide +kernel, rfl⟩
theorem o_loadPair_29 : InsA md_loadPair 29 (.getfield 16) 3 32 := ⟨by decide +kernel, rfl⟩
theorem o_loadPair_32 : InsA md_loadPair 32 (.iload_n 3) 1 33 := ⟨by decide +kernel, rfl⟩
theorem o_loadPair_33 : InsA md_loadPair 33 (.iaload) 1 34 := ⟨by decide +kernel, rfl⟩
theorem o_loadPair_34 : InsA md_loadPair 34 (.istore 5) 2 36 := ⟨by decide +kernel, rfl⟩
theorem o_loadPair_36 : InsA md_loadPair 36 (.aload_n 0) 1 37 := ⟨by decide +kernel, rfl⟩
theorem o_loadPair_37 : InsA md_loadPair 37 (.getfield 16) 3 40 := ⟨by decide +kernel, rfl⟩
theorem o_loadPair_40 : InsA md_loadPair 40 (.iload 4) 2 42 := ⟨by decide +kernel, rfl⟩
theorem o_loadPair_42 : InsA md_loadPair 42 (.iaload) 1 43 := ⟨by decide +kernel, rfl⟩
theorem o_loadPair_43 : InsA md_loadPair 43 (.istore 6) 2 45 := ⟨by decide +kernel, rfl⟩
theorem o_loadPair_45 : InsA md_loadPair 45 (.aload_n 0) 1 46 := ⟨by decide +kernel, rfl⟩
theorem o_loadPair_46 : InsA md_loadPair 46 (.iload 6) 2 48 := ⟨by decide +kernel, rfl⟩
theorem o_loadPair_48 : InsA md_loadPair 48 (.invokevirtual 116) 3 51 := ⟨by decide +kernel, rfl⟩
theorem o_loadPair_51 : InsA md_loadPair 51 (.istore 7) 2 53 := ⟨by decide +kernel, rfl⟩
theorem o_loadPair_53 : InsA md_loadPair 53 (.iload_n 2) 1 54 := ⟨by decide +kernel, rfl⟩
theorem o_loadPair_54 : InsA md_loadPair 54 (.aload_n 0) 1 55 := ⟨by decide +kernel, rfl⟩
theorem o_loadPair_55 : InsA md_loadPair 55 (.iload 5) 2 57 := ⟨by decide +kernel, rfl⟩
theorem o_loadPair_57 : InsA md_loadPair 57 (.invokevirtual 116) 3 60 := ⟨by decide +kernel, rfl⟩
theorem o_loadPair_60 : InsA md_loadPair 60 (.bipush 16) 2 62 := ⟨by decide +kernel, rfl⟩
theorem o_loadPair_62 : InsA md_loadPair 62 (.ishl) 1 63 := ⟨by decide +kernel, rfl⟩
theorem o_loadPair_63 : InsA md_loadPair 63 (.iadd) 1 64 := ⟨by decide +kernel, rfl⟩
theorem o_loadPair_64 : InsA md_loadPair 64 (.aload_n 0) 1 65 := ⟨by decide +kernel, rfl⟩
theorem o_loadPair_65 : InsA md_loadPair 65 (.iload 7) 2 67 := ⟨by decide +kernel, rfl⟩
theorem o_loadPair_67 : InsA md_loadPair 67 (.invokevirtual 119) 3 70 := ⟨by decide +kernel, rfl⟩
theorem o_loadPair_70 : InsA md_loadPair 70 (.iadd) 1 71 := ⟨by decide +kernel, rfl⟩
theorem o_loadPair_71 : InsA md_loadPair 71 (.istore 8) 2 73 := ⟨by decide +kernel, rfl⟩
theorem o_loadPair_73 : InsA md_loadPair 73 (.aload_n 0) 1 74 := ⟨by decide +kernel, rfl⟩
theorem o_loadPair_74 : InsA md_loadPair 74 (.iload_n 3) 1 75 := ⟨by decide +kernel, rfl⟩
theorem o_loadPair_75 : InsA md_loadPair 75 (.iload 4) 2 77 := ⟨by decide +kernel, rfl⟩
theorem o_loadPair_77 : InsA md_loadPair 77 (.iload 8) 2 79 := ⟨by decide +kernel, rfl⟩
theorem o_loadPair_79 : InsA md_loadPair 79 (.invokevirtual 125) 3 82 := ⟨by decide +kernel, rfl⟩
theorem o_loadPair_82 : InsA md_loadPair 82 (.return_) 1 83 := ⟨by decide +kernel, rfl⟩
abbrev md_imm : MD := (⟨"RebaseLoader", "imm", "(I)I"⟩, prog_1_method_3_code, 2, some .int, { frames := 0, cells := 0, slots := 0, locals := 0 }, 0)
theorem cv_imm {Z : State} {a0 : Array Value} (H : OK Z a0) : CalV Z a0 md_imm 1 := ⟨pn_RebaseLoader, by decide, pd__I_I, H.w 120 rfl, H.w 122 rfl, H.w 2 rfl, Or.inr ⟨H.w 121 rfl, 18, H.w 1 rfl⟩⟩
theorem o_imm_0 : InsA md_imm 0 (.iload_n 1) 1 1 := ⟨by decide +kernel, rfl⟩
theorem o_imm_1 : InsA md_imm 1 (.ldc 70) 2 3 := ⟨by decide +kernel, rfl⟩
theorem o_imm_3 : InsA md_imm 3 (.iand) 1 4 := ⟨by decide +kernel, rfl⟩
theorem o_imm_4 : InsA md_imm 4 (.ireturn) 1 5 := ⟨by decide +kernel, rfl⟩
abbrev md_sext : MD := (⟨"RebaseLoader", "sext", "(I)I"⟩, prog_1_method_4_code, 2, some .int, { frames := 0, cells := 0, slots := 0, locals := 0 }, 0)
theorem cv_sext {Z : State} {a0 : Array Value} (H : OK Z a0) : CalV Z a0 md_sext 1 := ⟨pn_RebaseLoader, by decide, pd__I_I, H.w 125 rfl, H.w 127 rfl, H.w 2 rfl, Or.inr ⟨H.w 126 rfl, 18, H.w 1 rfl⟩⟩
theorem o_sext_0 : InsA md_sext 0 (.iload_n 1) 1 1 := ⟨by decide +kernel, rfl⟩
theorem o_sext_1 : InsA md_sext 1 (.ldc 71) 2 3 := ⟨by decide +kernel, rfl⟩
theorem o_sext_3 : InsB md_sext 3 (.if_icmp .lt 8) 3 6 (8) 11 := ⟨by decide +kernel, rfl, by decide, by decide⟩
theorem o_sext_6 : InsA md_sext 6 (.iload_n 1) 1 7 := ⟨by decide +kernel, rfl⟩
theorem o_sext_7 : InsA md_sext 7 (.ldc 72) 2 9 := ⟨by decide +kernel, rfl⟩
theorem o_sext_9 : InsA md_sext 9 (.isub) 1 10 := ⟨by decide +kernel, rfl⟩
theorem o_sext_10 : InsA md_sext 10 (.ireturn) 1 11 := ⟨by decide +kernel, rfl⟩
theorem o_sext_11 : InsA md_sext 11 (.iload_n 1) 1 12 := ⟨by decide +kernel, rfl⟩
theorem o_sext_12 : InsA md_sext 12 (.ireturn) 1 13 := ⟨by decide +kernel, rfl⟩
abbrev md_writePair : MD := (⟨"RebaseLoader", "writePair", "(III)V"⟩, prog_1_method_22_code, 6, none, { frames := 1, cells := 0, slots := 0, locals := 16 }, 0)
theorem cv_writePair {Z : State} {a0 : Array Value} (H : OK Z a0) : CalV Z a0 md_writePair 3 := ⟨pn_RebaseLoader, by decide, pd__III_V, H.w 130 rfl, H.w 132 rfl, H.w 2 rfl, Or.inr ⟨H.w 131 rfl, 18, H.w 1 rfl⟩⟩
theorem o_writePair_0 : InsA md_writePair 0 (.aload_n 0) 1 1 := ⟨by decide +kernel, rfl⟩
theorem o_writePair_1 : InsA md_writePair 1 (.getfield 19) 3 4 := ⟨by decide +kernel, rfl⟩
theorem o_writePair_4 : InsA md_writePair 4 (.iload_n 1) 1 5 := ⟨by decide +kernel, rfl⟩
theorem o_writePair_5 : InsA md_writePair 5 (.iaload) 1 6 := ⟨by decide +kernel, rfl⟩
theorem o_writePair_6 : InsA md_writePair 6 (.istore 4) 2 8 := ⟨by decide +kernel, rfl⟩
theorem o_writePair_8 : InsA md_writePair 8 (.aload_n 0) 1 9 := ⟨by decide +kernel, rfl⟩
theorem o_writePair_9 : InsA md_writePair 9 (.getfield 19) 3 12 := ⟨by decide +kernel, rfl⟩
theorem o_writePair_12 : InsA md_writePair 12 (.iload_n 2) 1 13 := ⟨by decide +kernel, rfl⟩
theorem o_writePair_13 : InsA md_writePair 13 (.iaload) 1 14 := ⟨by decide +kernel, rfl⟩
theorem o_writePair_14 : InsA md_writePair 14 (.istore 5) 2 16 := ⟨by decide +kernel, rfl⟩
theorem o_writePair_16 : InsA md_writePair 16 (.aload_n 0) 1 17 := ⟨by decide +kernel, rfl⟩
theorem o_writePair_17 : InsA md_writePair 17 (.getfield 19) 3 20 := ⟨by decide +kernel, rfl⟩
theorem o_writePair_20 : InsA md_writePair 20 (.iload_n 1) 1 21 := ⟨by decide +kernel, rfl⟩
theorem o_writePair_21 : InsA md_writePair 21 (.aload_n 0) 1 22 := ⟨by decide +kernel, rfl⟩
theorem o_writePair_22 : InsA md_writePair 22 (.iload 4) 2 24 := ⟨by decide +kernel, rfl⟩
theorem o_writePair_24 : InsA md_writePair 24 (.iload_n 3) 1 25 := ⟨by decide +kernel, rfl⟩
theorem o_writePair_25 : InsA md_writePair 25 (.ldc 71) 2 27 := ⟨by decide +kernel, rfl⟩
theorem o_writePair_27 : InsA md_writePair 27 (.iadd) 1 28 := ⟨by decide +kernel, rfl⟩
theorem o_writePair_28 : InsA md_writePair 28 (.bipush 16) 2 30 := ⟨by decide +kernel, rfl⟩
theorem o_writePair_30 : InsA md_writePair 30 (.iushr) 1 31 := ⟨by decide +kernel, rfl⟩
theorem o_writePair_31 : InsA md_writePair 31 (.invokevirtual 122) 3 34 := ⟨by decide +kernel, rfl⟩
theorem o_writePair_34 : InsA md_writePair 34 (.iastore) 1 35 := ⟨by decide +kernel, rfl⟩
theorem o_writePair_35 : InsA md_writePair 35 (.aload_n 0) 1 36 := ⟨by decide +kernel, rfl⟩
theorem o_writePair_36 : InsA md_writePair 36 (.getfield 19) 3 39 := ⟨by decide +kernel, rfl⟩
theorem o_writePair_39 : InsA md_writePair 39 (.iload_n 2) 1 40 := ⟨by decide +kernel, rfl⟩
theorem o_writePair_40 : InsA md_writePair 40 (.aload_n 0) 1 41 := ⟨by decide +kernel, rfl⟩
theorem o_writePair_41 : InsA md_writePair 41 (.iload 5) 2 43 := ⟨by decide +kernel, rfl⟩
theorem o_writePair_43 : InsA md_writePair 43 (.iload_n 3) 1 44 := ⟨by decide +kernel, rfl⟩
theorem o_writePair_44 : InsA md_writePair 44 (.invokevirtual 122) 3 47 := ⟨by decide +kernel, rfl⟩
theorem o_writePair_47 : InsA md_writePair 47 (.iastore) 1 48 := ⟨by decide +kernel, rfl⟩
theorem o_writePair_48 : InsA md_writePair 48 (.return_) 1 49 := ⟨by decide +kernel, rfl⟩
abbrev md_setImm : MD := (⟨"RebaseLoader", "setImm", "(II)I"⟩, prog_1_method_5_code, 3, some .int, { frames := 0, cells := 0, slots := 0, locals := 0 }, 0)
theorem cv_setImm {Z : State} {a0 : Array Value} (H : OK Z a0) : CalV Z a0 md_setImm 2 := ⟨pn_RebaseLoader, by decide, pd__II_I, H.w 134 rfl, H.w 136 rfl, H.w 2 rfl, Or.inr ⟨H.w 135 rfl, 18, H.w 1 rfl⟩⟩
theorem o_setImm_0 : InsA md_setImm 0 (.iload_n 1) 1 1 := ⟨by decide +kernel, rfl⟩
theorem o_setImm_1 : InsA md_setImm 1 (.ldc 73) 2 3 := ⟨by decide +kernel, rfl⟩
theorem o_setImm_3 : InsA md_setImm 3 (.iand) 1 4 := ⟨by decide +kernel, rfl⟩
theorem o_setImm_4 : InsA md_setImm 4 (.iload_n 2) 1 5 := ⟨by decide +kernel, rfl⟩
theorem o_setImm_5 : InsA md_setImm 5 (.ldc 70) 2 7 := ⟨by decide +kernel, rfl⟩
theorem o_setImm_7 : InsA md_setImm 7 (.iand) 1 8 := ⟨by decide +kernel, rfl⟩
theorem o_setImm_8 : InsA md_setImm 8 (.ior) 1 9 := ⟨by decide +kernel, rfl⟩
theorem o_setImm_9 : InsA md_setImm 9 (.ireturn) 1 10 := ⟨by decide +kernel, rfl⟩
abbrev md_resetMachine : MD := (⟨"RebaseLoader", "resetMachine", "(I)V"⟩, prog_1_method_11_code, 3, none, { frames := 0, cells := 0, slots := 0, locals := 0 }, 0)
theorem cv_resetMachine {Z : State} {a0 : Array Value} (H : OK Z a0) : CalV Z a0 md_resetMachine 1 := ⟨pn_RebaseLoader, by decide, pd__I_V, H.w 139 rfl, H.w 141 rfl, H.w 2 rfl, Or.inr ⟨H.w 140 rfl, 18, H.w 1 rfl⟩⟩
theorem o_resetMachine_0 : InsA md_resetMachine 0 (.iconst 0) 1 1 := ⟨by decide +kernel, rfl⟩
theorem o_resetMachine_1 : InsA md_resetMachine 1 (.istore_n 2) 1 2 := ⟨by decide +kernel, rfl⟩
theorem o_resetMachine_2 : InsA md_resetMachine 2 (.iload_n 2) 1 3 := ⟨by decide +kernel, rfl⟩
theorem o_resetMachine_3 : InsA md_resetMachine 3 (.bipush 8) 2 5 := ⟨by decide +kernel, rfl⟩
theorem o_resetMachine_5 : InsB md_resetMachine 5 (.if_icmp .ge 16) 3 8 (16) 21 := ⟨by decide +kernel, rfl, by decide, by decide⟩
theorem o_resetMachine_8 : InsA md_resetMachine 8 (.aload_n 0) 1 9 := ⟨by decide +kernel, rfl⟩
theorem o_resetMachine_9 : InsA md_resetMachine 9 (.getfield 38) 3 12 := ⟨by decide +kernel, rfl⟩
theorem o_resetMachine_12 : InsA md_resetMachine 12 (.iload_n 2) 1 13 := ⟨by decide +kernel, rfl⟩
theorem o_resetMachine_13 : InsA md_resetMachine 13 (.iconst 0) 1 14 := ⟨by decide +kernel, rfl⟩
theorem o_resetMachine_14 : InsA md_resetMachine 14 (.iastore) 1 15 := ⟨by decide +kernel, rfl⟩
theorem o_resetMachine_15 : InsA md_resetMachine 15 (.iinc 2 1) 3 18 := ⟨by decide +kernel, rfl⟩
theorem o_resetMachine_18 : InsB md_resetMachine 18 (.goto (-16)) 3 21 (-16) 2 := ⟨by decide +kernel, rfl, by decide, by decide⟩
theorem o_resetMachine_21 : InsA md_resetMachine 21 (.aload_n 0) 1 22 := ⟨by decide +kernel, rfl⟩
theorem o_resetMachine_22 : InsA md_resetMachine 22 (.iconst 0) 1 23 := ⟨by decide +kernel, rfl⟩
theorem o_resetMachine_23 : InsA md_resetMachine 23 (.putfield 67) 3 26 := ⟨by decide +kernel, rfl⟩
theorem o_resetMachine_26 : InsA md_resetMachine 26 (.aload_n 0) 1 27 := ⟨by decide +kernel, rfl⟩
theorem o_resetMachine_27 : InsA md_resetMachine 27 (.iload_n 1) 1 28 := ⟨by decide +kernel, rfl⟩
theorem o_resetMachine_28 : InsA md_resetMachine 28 (.putfield 52) 3 31 := ⟨by decide +kernel, rfl⟩
theorem o_resetMachine_31 : InsA md_resetMachine 31 (.return_) 1 32 := ⟨by decide +kernel, rfl⟩
abbrev md_start : MD := (⟨"RebaseLoader", "start", "(I)I"⟩, prog_1_method_35_code, 3, some .int, { frames := 1, cells := 0, slots := 0, locals := 14 }, 0)
theorem cv_start {Z : State} {a0 : Array Value} (H : OK Z a0) : CalV Z a0 md_start 1 := ⟨pn_RebaseLoader, by decide, pd__I_I, H.w 144 rfl, H.w 146 rfl, H.w 2 rfl, Or.inl ⟨H.w 143 rfl, H.w 145 rfl⟩⟩
theorem o_start_0 : InsA md_start 0 (.aload_n 0) 1 1 := ⟨by decide +kernel, rfl⟩
theorem o_start_1 : InsA md_start 1 (.getfield 52) 3 4 := ⟨by decide +kernel, rfl⟩
theorem o_start_4 : InsB md_start 4 (.ifCond .ne 5) 3 7 (5) 9 := ⟨by decide +kernel, rfl, by decide, by decide⟩
theorem o_start_7 : InsA md_start 7 (.iconst (-1)) 1 8 := ⟨by decide +kernel, rfl⟩
theorem o_start_8 : InsA md_start 8 (.ireturn) 1 9 := ⟨by decide +kernel, rfl⟩
theorem o_start_9 : InsA md_start 9 (.aload_n 0) 1 10 := ⟨by decide +kernel, rfl⟩
theorem o_start_10 : InsA md_start 10 (.iload_n 1) 1 11 := ⟨by decide +kernel, rfl⟩
theorem o_start_11 : InsA md_start 11 (.invokevirtual 82) 3 14 := ⟨by decide +kernel, rfl⟩
theorem o_start_14 : InsB md_start 14 (.ifCond .ne 6) 3 17 (6) 20 := ⟨by decide +kernel, rfl, by decide, by decide⟩
theorem o_start_17 : InsA md_start 17 (.bipush (-2)) 2 19 := ⟨by decide +kernel, rfl⟩
theorem o_start_19 : InsA md_start 19 (.ireturn) 1 20 := ⟨by decide +kernel, rfl⟩
theorem o_start_20 : InsA md_start 20 (.aload_n 0) 1 21 := ⟨by decide +kernel, rfl⟩
theorem o_start_21 : InsA md_start 21 (.iload_n 1) 1 22 := ⟨by decide +kernel, rfl⟩
theorem o_start_22 : InsA md_start 22 (.invokevirtual 85) 3 25 := ⟨by decide +kernel, rfl⟩
theorem o_start_25 : InsA md_start 25 (.istore_n 2) 1 26 := ⟨by decide +kernel, rfl⟩
theorem o_start_26 : InsA md_start 26 (.aload_n 0) 1 27 := ⟨by decide +kernel, rfl⟩
theorem o_start_27 : InsA md_start 27 (.iconst 2) 1 28 := ⟨by decide +kernel, rfl⟩
theorem o_start_28 : InsA md_start 28 (.invokevirtual 102) 3 31 := ⟨by decide +kernel, rfl⟩
theorem o_start_31 : InsA md_start 31 (.aload_n 0) 1 32 := ⟨by decide +kernel, rfl⟩
theorem o_start_32 : InsA md_start 32 (.aload_n 0) 1 33 := ⟨by decide +kernel, rfl⟩
theorem o_start_33 : InsA md_start 33 (.getfield 64) 3 36 := ⟨by decide +kernel, rfl⟩
theorem o_start_36 : InsA md_start 36 (.iload_n 2) 1 37 := ⟨by decide +kernel, rfl⟩
theorem o_start_37 : InsA md_start 37 (.iadd) 1 38 := ⟨by decide +kernel, rfl⟩
theorem o_start_38 : InsA md_start 38 (.putfield 67) 3 41 := ⟨by decide +kernel, rfl⟩
theorem o_start_41 : InsA md_start 41 (.iconst 0) 1 42 := ⟨by decide +kernel, rfl⟩
theorem o_start_42 : InsA md_start 42 (.ireturn) 1 43 := ⟨by decide +kernel, rfl⟩
abbrev md_run : MD := (⟨"RebaseLoader", "run", "(I)I"⟩, prog_1_method_36_code, 4, some .int, { frames := 3, cells := 0, slots := 0, locals := 52 }, 0)
theorem cv_run {Z : State} {a0 : Array Value} (H : OK Z a0) : CalV Z a0 md_run 1 := ⟨pn_RebaseLoader, by decide, pd__I_I, H.w 149 rfl, H.w 151 rfl, H.w 2 rfl, Or.inl ⟨H.w 148 rfl, H.w 150 rfl⟩⟩
theorem o_run_0 : InsA md_run 0 (.aload_n 0) 1 1 := ⟨by decide +kernel, rfl⟩
theorem o_run_1 : InsA md_run 1 (.iload_n 1) 1 2 := ⟨by decide +kernel, rfl⟩
theorem o_run_2 : InsA md_run 2 (.iconst 0) 1 3 := ⟨by decide +kernel, rfl⟩
theorem o_run_3 : InsA md_run 3 (.sipush 1000) 3 6 := ⟨by decide +kernel, rfl⟩
theorem o_run_6 : InsA md_run 6 (.invokevirtual 41) 3 9 := ⟨by decide +kernel, rfl⟩
theorem o_run_9 : InsA md_run 9 (.istore_n 2) 1 10 := ⟨by decide +kernel, rfl⟩
theorem o_run_10 : InsA md_run 10 (.aload_n 0) 1 11 := ⟨by decide +kernel, rfl⟩
theorem o_run_11 : InsA md_run 11 (.getfield 52) 3 14 := ⟨by decide +kernel, rfl⟩
theorem o_run_14 : InsA md_run 14 (.iconst 2) 1 15 := ⟨by decide +kernel, rfl⟩
theorem o_run_15 : InsB md_run 15 (.if_icmp .eq 8) 3 18 (8) 23 := ⟨by decide +kernel, rfl, by decide, by decide⟩
theorem o_run_18 : InsA md_run 18 (.aload_n 0) 1 19 := ⟨by decide +kernel, rfl⟩
theorem o_run_19 : InsA md_run 19 (.getfield 52) 3 22 := ⟨by decide +kernel, rfl⟩
theorem o_run_22 : InsA md_run 22 (.ireturn) 1 23 := ⟨by decide +kernel, rfl⟩
theorem o_run_23 : InsA md_run 23 (.iconst 0) 1 24 := ⟨by decide +kernel, rfl⟩
theorem o_run_24 : InsA md_run 24 (.istore_n 3) 1 25 := ⟨by decide +kernel, rfl⟩
theorem o_run_25 : InsA md_run 25 (.iload_n 3) 1 26 := ⟨by decide +kernel, rfl⟩
theorem o_run_26 : InsA md_run 26 (.iload_n 2) 1 27 := ⟨by decide +kernel, rfl⟩
theorem o_run_27 : InsB md_run 27 (.if_icmp .ge 21) 3 30 (21) 48 := ⟨by decide +kernel, rfl, by decide, by decide⟩
theorem o_run_30 : InsA md_run 30 (.aload_n 0) 1 31 := ⟨by decide +kernel, rfl⟩
theorem o_run_31 : InsA md_run 31 (.getfield 52) 3 34 := ⟨by decide +kernel, rfl⟩
theorem o_run_34 : InsA md_run 34 (.iconst 2) 1 35 := ⟨by decide +kernel, rfl⟩
theorem o_run_35 : InsB md_run 35 (.if_icmp .ne 13) 3 38 (13) 48 := ⟨by decide +kernel, rfl, by decide, by decide⟩
theorem o_run_38 : InsA md_run 38 (.aload_n 0) 1 39 := ⟨by decide +kernel, rfl⟩
theorem o_run_39 : InsA md_run 39 (.invokevirtual 138) 3 42 := ⟨by decide +kernel, rfl⟩
theorem o_run_42 : InsA md_run 42 (.iinc 3 1) 3 45 := ⟨by decide +kernel, rfl⟩
theorem o_run_45 : InsB md_run 45 (.goto (-20)) 3 48 (-20) 25 := ⟨by decide +kernel, rfl, by decide, by decide⟩
theorem o_run_48 : InsA md_run 48 (.aload_n 0) 1 49 := ⟨by decide +kernel, rfl⟩
theorem o_run_49 : InsA md_run 49 (.getfield 52) 3 52 := ⟨by decide +kernel, rfl⟩
theorem o_run_52 : InsA md_run 52 (.ireturn) 1 53 := ⟨by decide +kernel, rfl⟩
abbrev md_step : MD := (⟨"RebaseLoader", "step", "()V"⟩, prog_1_method_37_code, 8, none, { frames := 2, cells := 0, slots := 0, locals := 33 }, 0)
theorem cv_step {Z : State} {a0 : Array Value} (H : OK Z a0) : CalV Z a0 md_step 0 := ⟨pn_RebaseLoader, by decide, pd___V, H.w 153 rfl, H.w 155 rfl, H.w 2 rfl, Or.inr ⟨H.w 154 rfl, 18, H.w 1 rfl⟩⟩
theorem o_step_0 : InsA md_step 0 (.aload_n 0) 1 1 := ⟨by decide +kernel, rfl⟩
theorem o_step_1 : InsA md_step 1 (.getfield 67) 3 4 := ⟨by decide +kernel, rfl⟩
theorem o_step_4 : InsA md_step 4 (.aload_n 0) 1 5 := ⟨by decide +kernel, rfl⟩
theorem o_step_5 : InsA md_step 5 (.getfield 64) 3 8 := ⟨by decide +kernel, rfl⟩
theorem o_step_8 : InsA md_step 8 (.isub) 1 9 := ⟨by decide +kernel, rfl⟩
theorem o_step_9 : InsA md_step 9 (.istore_n 1) 1 10 := ⟨by decide +kernel, rfl⟩
theorem o_step_10 : InsA md_step 10 (.iload_n 1) 1 11 := ⟨by decide +kernel, rfl⟩
theorem o_step_11 : InsB md_step 11 (.ifCond .lt 17) 3 14 (17) 28 := ⟨by decide +kernel, rfl, by decide, by decide⟩
theorem o_step_14 : InsA md_step 14 (.iload_n 1) 1 15 := ⟨by decide +kernel, rfl⟩
theorem o_step_15 : InsA md_step 15 (.aload_n 0) 1 16 := ⟨by decide +kernel, rfl⟩
theorem o_step_16 : InsA md_step 16 (.getfield 61) 3 19 := ⟨by decide +kernel, rfl⟩
theorem o_step_19 : InsB md_step 19 (.if_icmp .ge 9) 3 22 (9) 28 := ⟨by decide +kernel, rfl, by decide, by decide⟩
theorem o_step_22 : InsA md_step 22 (.iload_n 1) 1 23 := ⟨by decide +kernel, rfl⟩
theorem o_step_23 : InsA md_step 23 (.bipush 64) 2 25 := ⟨by decide +kernel, rfl⟩
theorem o_step_25 : InsB md_step 25 (.if_icmp .lt 9) 3 28 (9) 34 := ⟨by decide +kernel, rfl, by decide, by decide⟩
theorem o_step_28 : InsA md_step 28 (.aload_n 0) 1 29 := ⟨by decide +kernel, rfl⟩
theorem o_step_29 : InsA md_step 29 (.iconst 4) 1 30 := ⟨by decide +kernel, rfl⟩
theorem o_step_30 : InsA md_step 30 (.putfield 52) 3 33 := ⟨by decide +kernel, rfl⟩
theorem o_step_33 : InsA md_step 33 (.return_) 1 34 := ⟨by decide +kernel, rfl⟩
theorem o_step_34 : InsA md_step 34 (.aload_n 0) 1 35 := ⟨by decide +kernel, rfl⟩
theorem o_step_35 : InsA md_step 35 (.getfield 19) 3 38 := ⟨by decide +kernel, rfl⟩
theorem o_step_38 : InsA md_step 38 (.iload_n 1) 1 39 := ⟨by decide +kernel, rfl⟩
theorem o_step_39 : InsA md_step 39 (.iaload) 1 40 := ⟨by decide +kernel, rfl⟩
theorem o_step_40 : InsA md_step 40 (.istore_n 2) 1 41 := ⟨by decide +kernel, rfl⟩
theorem o_step_41 : InsA md_step 41 (.iload_n 2) 1 42 := ⟨by decide +kernel, rfl⟩
theorem o_step_42 : InsA md_step 42 (.bipush 28) 2 44 := ⟨by decide +kernel, rfl⟩
theorem o_step_44 : InsA md_step 44 (.iushr) 1 45 := ⟨by decide +kernel, rfl⟩
theorem o_step_45 : InsA md_step 45 (.istore_n 3) 1 46 := ⟨by decide +kernel, rfl⟩
theorem o_step_46 : InsA md_step 46 (.iload_n 2) 1 47 := ⟨by decide +kernel, rfl⟩
theorem o_step_47 : InsA md_step 47 (.bipush 24) 2 49 := ⟨by decide +kernel, rfl⟩
theorem o_step_49 : InsA md_step 49 (.iushr) 1 50 := ⟨by decide +kernel, rfl⟩
theorem o_step_50 : InsA md_step 50 (.bipush 7) 2 52 := ⟨by decide +kernel, rfl⟩
theorem o_step_52 : InsA md_step 52 (.iand) 1 53 := ⟨by decide +kernel, rfl⟩
theorem o_step_53 : InsA md_step 53 (.istore 4) 2 55 := ⟨by decide +kernel, rfl⟩
theorem o_step_55 : InsA md_step 55 (.iload_n 2) 1 56 := ⟨by decide +kernel, rfl⟩
theorem o_step_56 : InsA md_step 56 (.bipush 20) 2 58 := ⟨by decide +kernel, rfl⟩
theorem o_step_58 : InsA md_step 58 (.iushr) 1 59 := ⟨by decide +kernel, rfl⟩
theorem o_step_59 : InsA md_step 59 (.bipush 7) 2 61 := ⟨by decide +kernel, rfl⟩
theorem o_step_61 : InsA md_step 61 (.iand) 1 62 := ⟨by decide +kernel, rfl⟩
theorem o_step_62 : InsA md_step 62 (.istore 5) 2 64 := ⟨by decide +kernel, rfl⟩
theorem o_step_64 : InsA md_step 64 (.iload_n 2) 1 65 := ⟨by decide +kernel, rfl⟩
theorem o_step_65 : InsA md_step 65 (.ldc 70) 2 67 := ⟨by decide +kernel, rfl⟩
theorem o_step_67 : InsA md_step 67 (.iand) 1 68 := ⟨by decide +kernel, rfl⟩
theorem o_step_68 : InsA md_step 68 (.istore 6) 2 70 := ⟨by decide +kernel, rfl⟩
theorem o_step_70 : InsA md_step 70 (.aload_n 0) 1 71 := ⟨by decide +kernel, rfl⟩
theorem o_step_71 : InsA md_step 71 (.iload 6) 2 73 := ⟨by decide +kernel, rfl⟩
theorem o_step_73 : InsA md_step 73 (.invokevirtual 119) 3 76 := ⟨by decide +kernel, rfl⟩
theorem o_step_76 : InsA md_step 76 (.istore 7) 2 78 := ⟨by decide +kernel, rfl⟩
theorem o_step_78 : InsA md_step 78 (.aload_n 0) 1 79 := ⟨by decide +kernel, rfl⟩
theorem o_step_79 : InsA md_step 79 (.iload_n 3) 1 80 := ⟨by decide +kernel, rfl⟩
theorem o_step_80 : InsA md_step 80 (.iload 4) 2 82 := ⟨by decide +kernel, rfl⟩
theorem o_step_82 : InsA md_step 82 (.iload 5) 2 84 := ⟨by decide +kernel, rfl⟩
theorem o_step_84 : InsA md_step 84 (.iload 6) 2 86 := ⟨by decide +kernel, rfl⟩
theorem o_step_86 : InsA md_step 86 (.iload 7) 2 88 := ⟨by decide +kernel, rfl⟩
theorem o_step_88 : InsA md_step 88 (.invokevirtual 141) 3 91 := ⟨by decide +kernel, rfl⟩
theorem o_step_91 : InsA md_step 91 (.return_) 1 92 := ⟨by decide +kernel, rfl⟩
abbrev md_execute : MD := (⟨"RebaseLoader", "execute", "(IIIII)V"⟩, prog_1_method_38_code, 6, none, { frames := 1, cells := 0, slots := 0, locals := 16 }, 0)
theorem al_execute (x0 : Int32) (x1 : Int32) (x2 : Int32) (x3 : Int32) (x4 : Int32) : (argsToLocals [.ref 0, .int x0, .int x1, .int x2, .int x3, .int x4].toArray (mxOf md_execute)).toList = [.val (.ref 0), .val (.int x0), .val (.int x1), .val (.int x2), .val (.int x3), .val (.int x4)] := (Jvm.Sym.argsToLocals_toList _ _).trans rfl
theorem cv_execute {Z : State} {a0 : Array Value} (H : OK Z a0) : CalV Z a0 md_execute 5 := ⟨pn_RebaseLoader, by decide, pd__IIIII_V, H.w 157 rfl, H.w 159 rfl, H.w 2 rfl, Or.inr ⟨H.w 158 rfl, 18, H.w 1 rfl⟩⟩
theorem o_execute_0 : InsA md_execute 0 (.iload_n 1) 1 1 := ⟨by decide +kernel, rfl⟩
theorem o_execute_1 : decode (byOf md_execute) 1 = .ok (.tableswitch 200 0 7 #[47, 55, 79, 107, 139, 150, 163, 174], 47) := by decide +kernel
theorem o_execute_1_d : InsB md_execute 1 (.tableswitch 200 0 7 #[47, 55, 79, 107, 139, 150, 163, 174]) 47 48 (200) 201 := ⟨o_execute_1, rfl, by decide, by decide⟩
theorem o_execute_1_0 : InsB md_execute 1 (.tableswitch 200 0 7 #[47, 55, 79, 107, 139, 150, 163, 174]) 47 48 (47) 48 := ⟨o_execute_1, rfl, by decide, by decide⟩
theorem o_execute_1_1 : InsB md_execute 1 (.tableswitch 200 0 7 #[47, 55, 79, 107, 139, 150, 163, 174]) 47 48 (55) 56 := ⟨o_execute_1, rfl, by decide, by decide⟩
theorem o_execute_1_2 : InsB md_execute 1 (.tableswitch 200 0 7 #[47, 55, 79, 107, 139, 150, 163, 174]) 47 48 (79) 80 := ⟨o_execute_1, rfl, by decide, by decide⟩
theorem o_execute_1_3 : InsB md_execute 1 (.tableswitch 200 0 7 #[47, 55, 79, 107, 139, 150, 163, 174]) 47 48 (107) 108 := ⟨o_execute_1, rfl, by decide, by decide⟩
theorem o_execute_1_4 : InsB md_execute 1 (.tableswitch 200 0 7 #[47, 55, 79, 107, 139, 150, 163, 174]) 47 48 (139) 140 := ⟨o_execute_1, rfl, by decide, by decide⟩
theorem o_execute_1_5 : InsB md_execute 1 (.tableswitch 200 0 7 #[47, 55, 79, 107, 139, 150, 163, 174]) 47 48 (150) 151 := ⟨o_execute_1, rfl, by decide, by decide⟩
theorem o_execute_1_6 : InsB md_execute 1 (.tableswitch 200 0 7 #[47, 55, 79, 107, 139, 150, 163, 174]) 47 48 (163) 164 := ⟨o_execute_1, rfl, by decide, by decide⟩
theorem o_execute_1_7 : InsB md_execute 1 (.tableswitch 200 0 7 #[47, 55, 79, 107, 139, 150, 163, 174]) 47 48 (174) 175 := ⟨o_execute_1, rfl, by decide, by decide⟩
theorem o_execute_48 : InsA md_execute 48 (.aload_n 0) 1 49 := ⟨by decide +kernel, rfl⟩
theorem o_execute_49 : InsA md_execute 49 (.iconst 3) 1 50 := ⟨by decide +kernel, rfl⟩
theorem o_execute_50 : InsA md_execute 50 (.putfield 52) 3 53 := ⟨by decide +kernel, rfl⟩
theorem o_execute_53 : InsB md_execute 53 (.goto 153) 3 56 (153) 206 := ⟨by decide +kernel, rfl, by decide, by decide⟩
theorem o_execute_56 : InsA md_execute 56 (.aload_n 0) 1 57 := ⟨by decide +kernel, rfl⟩
theorem o_execute_57 : InsA md_execute 57 (.getfield 38) 3 60 := ⟨by decide +kernel, rfl⟩
theorem o_execute_60 : InsA md_execute 60 (.iload_n 2) 1 61 := ⟨by decide +kernel, rfl⟩
theorem o_execute_61 : InsA md_execute 61 (.iload 4) 2 63 := ⟨by decide +kernel, rfl⟩
theorem o_execute_63 : InsA md_execute 63 (.bipush 16) 2 65 := ⟨by decide +kernel, rfl⟩
theorem o_execute_65 : InsA md_execute 65 (.ishl) 1 66 := ⟨by decide +kernel, rfl⟩
theorem o_execute_66 : InsA md_execute 66 (.iastore) 1 67 := ⟨by decide +kernel, rfl⟩
theorem o_execute_67 : InsA md_execute 67 (.aload_n 0) 1 68 := ⟨by decide +kernel, rfl⟩
theorem o_execute_68 : InsA md_execute 68 (.aload_n 0) 1 69 := ⟨by decide +kernel, rfl⟩
theorem o_execute_69 : InsA md_execute 69 (.getfield 67) 3 72 := ⟨by decide +kernel, rfl⟩
theorem o_execute_72 : InsA md_execute 72 (.iconst 1) 1 73 := ⟨by decide +kernel, rfl⟩
theorem o_execute_73 : InsA md_execute 73 (.iadd) 1 74 := ⟨by decide +kernel, rfl⟩
theorem o_execute_74 : InsA md_execute 74 (.putfield 67) 3 77 := ⟨by decide +kernel, rfl⟩
theorem o_execute_77 : InsB md_execute 77 (.goto 129) 3 80 (129) 206 := ⟨by decide +kernel, rfl, by decide, by decide⟩
theorem o_execute_80 : InsA md_execute 80 (.aload_n 0) 1 81 := ⟨by decide +kernel, rfl⟩
theorem o_execute_81 : InsA md_execute 81 (.getfield 38) 3 84 := ⟨by decide +kernel, rfl⟩
theorem o_execute_84 : InsA md_execute 84 (.iload_n 2) 1 85 := ⟨by decide +kernel, rfl⟩
theorem o_execute_85 : InsA md_execute 85 (.aload_n 0) 1 86 := ⟨by decide +kernel, rfl⟩
theorem o_execute_86 : InsA md_execute 86 (.getfield 38) 3 89 := ⟨by decide +kernel, rfl⟩
theorem o_execute_89 : InsA md_execute 89 (.iload_n 3) 1 90 := ⟨by decide +kernel, rfl⟩
theorem o_execute_90 : InsA md_execute 90 (.iaload) 1 91 := ⟨by decide +kernel, rfl⟩
theorem o_execute_91 : InsA md_execute 91 (.iload 5) 2 93 := ⟨by decide +kernel, rfl⟩
theorem o_execute_93 : InsA md_execute 93 (.iadd) 1 94 := ⟨by decide +kernel, rfl⟩
theorem o_execute_94 : InsA md_execute 94 (.iastore) 1 95 := ⟨by decide +kernel, rfl⟩
theorem o_execute_95 : InsA md_execute 95 (.aload_n 0) 1 96 := ⟨by decide +kernel, rfl⟩
theorem o_execute_96 : InsA md_execute 96 (.aload_n 0) 1 97 := ⟨by decide +kernel, rfl⟩
theorem o_execute_97 : InsA md_execute 97 (.getfield 67) 3 100 := ⟨by decide +kernel, rfl⟩
theorem o_execute_100 : InsA md_execute 100 (.iconst 1) 1 101 := ⟨by decide +kernel, rfl⟩
theorem o_execute_101 : InsA md_execute 101 (.iadd) 1 102 := ⟨by decide +kernel, rfl⟩
theorem o_execute_102 : InsA md_execute 102 (.putfield 67) 3 105 := ⟨by decide +kernel, rfl⟩
theorem o_execute_105 : InsB md_execute 105 (.goto 101) 3 108 (101) 206 := ⟨by decide +kernel, rfl, by decide, by decide⟩
theorem o_execute_108 : InsA md_execute 108 (.aload_n 0) 1 109 := ⟨by decide +kernel, rfl⟩
theorem o_execute_109 : InsA md_execute 109 (.getfield 38) 3 112 := ⟨by decide +kernel, rfl⟩
theorem o_execute_112 : InsA md_execute 112 (.iload_n 2) 1 113 := ⟨by decide +kernel, rfl⟩
theorem o_execute_113 : InsA md_execute 113 (.aload_n 0) 1 114 := ⟨by decide +kernel, rfl⟩
theorem o_execute_114 : InsA md_execute 114 (.getfield 38) 3 117 := ⟨by decide +kernel, rfl⟩
theorem o_execute_117 : InsA md_execute 117 (.iload_n 2) 1 118 := ⟨by decide +kernel, rfl⟩
theorem o_execute_118 : InsA md_execute 118 (.iaload) 1 119 := ⟨by decide +kernel, rfl⟩
theorem o_execute_119 : InsA md_execute 119 (.aload_n 0) 1 120 := ⟨by decide +kernel, rfl⟩
theorem o_execute_120 : InsA md_execute 120 (.getfield 38) 3 123 := ⟨by decide +kernel, rfl⟩
theorem o_execute_123 : InsA md_execute 123 (.iload_n 3) 1 124 := ⟨by decide +kernel, rfl⟩
theorem o_execute_124 : InsA md_execute 124 (.iaload) 1 125 := ⟨by decide +kernel, rfl⟩
theorem o_execute_125 : InsA md_execute 125 (.iadd) 1 126 := ⟨by decide +kernel, rfl⟩
theorem o_execute_126 : InsA md_execute 126 (.iastore) 1 127 := ⟨by decide +kernel, rfl⟩
theorem o_execute_127 : InsA md_execute 127 (.aload_n 0) 1 128 := ⟨by decide +kernel, rfl⟩
theorem o_execute_128 : InsA md_execute 128 (.aload_n 0) 1 129 := ⟨by decide +kernel, rfl⟩
theorem o_execute_129 : InsA md_execute 129 (.getfield 67) 3 132 := ⟨by decide +kernel, rfl⟩
theorem o_execute_132 : InsA md_execute 132 (.iconst 1) 1 133 := ⟨by decide +kernel, rfl⟩
theorem o_execute_133 : InsA md_execute 133 (.iadd) 1 134 := ⟨by decide +kernel, rfl⟩
theorem o_execute_134 : InsA md_execute 134 (.putfield 67) 3 137 := ⟨by decide +kernel, rfl⟩
theorem o_execute_137 : InsB md_execute 137 (.goto 69) 3 140 (69) 206 := ⟨by decide +kernel, rfl, by decide, by decide⟩
theorem o_execute_140 : InsA md_execute 140 (.aload_n 0) 1 141 := ⟨by decide +kernel, rfl⟩
theorem o_execute_141 : InsA md_execute 141 (.iload_n 2) 1 142 := ⟨by decide +kernel, rfl⟩
theorem o_execute_142 : InsA md_execute 142 (.iload_n 3) 1 143 := ⟨by decide +kernel, rfl⟩
theorem o_execute_143 : InsA md_execute 143 (.iload 5) 2 145 := ⟨by decide +kernel, rfl⟩
theorem o_execute_145 : InsA md_execute 145 (.invokevirtual 145) 3 148 := ⟨by decide +kernel, rfl⟩
theorem o_execute_148 : InsB md_execute 148 (.goto 58) 3 151 (58) 206 := ⟨by decide +kernel, rfl, by decide, by decide⟩
theorem o_execute_151 : InsA md_execute 151 (.aload_n 0) 1 152 := ⟨by decide +kernel, rfl⟩
theorem o_execute_152 : InsA md_execute 152 (.aload_n 0) 1 153 := ⟨by decide +kernel, rfl⟩
theorem o_execute_153 : InsA md_execute 153 (.getfield 38) 3 156 := ⟨by decide +kernel, rfl⟩
theorem o_execute_156 : InsA md_execute 156 (.iload_n 2) 1 157 := ⟨by decide +kernel, rfl⟩
theorem o_execute_157 : InsA md_execute 157 (.iaload) 1 158 := ⟨by decide +kernel, rfl⟩
theorem o_execute_158 : InsA md_execute 158 (.putfield 67) 3 161 := ⟨by decide +kernel, rfl⟩
theorem o_execute_161 : InsB md_execute 161 (.goto 45) 3 164 (45) 206 := ⟨by decide +kernel, rfl, by decide, by decide⟩
theorem o_execute_164 : InsA md_execute 164 (.aload_n 0) 1 165 := ⟨by decide +kernel, rfl⟩
theorem o_execute_165 : InsA md_execute 165 (.iload_n 2) 1 166 := ⟨by decide +kernel, rfl⟩
theorem o_execute_166 : InsA md_execute 166 (.iload_n 3) 1 167 := ⟨by decide +kernel, rfl⟩
theorem o_execute_167 : InsA md_execute 167 (.iload 5) 2 169 := ⟨by decide +kernel, rfl⟩
theorem o_execute_169 : InsA md_execute 169 (.invokevirtual 148) 3 172 := ⟨by decide +kernel, rfl⟩
theorem o_execute_175 : InsA md_execute 175 (.aload_n 0) 1 176 := ⟨by decide +kernel, rfl⟩
theorem o_execute_176 : InsA md_execute 176 (.getfield 38) 3 179 := ⟨by decide +kernel, rfl⟩
theorem o_execute_179 : InsA md_execute 179 (.iload_n 2) 1 180 := ⟨by decide +kernel, rfl⟩
theorem o_execute_180 : InsA md_execute 180 (.aload_n 0) 1 181 := ⟨by decide +kernel, rfl⟩
theorem o_execute_181 : InsA md_execute 181 (.getfield 67) 3 184 := ⟨by decide +kernel, rfl⟩
theorem o_execute_184 : InsA md_execute 184 (.iload 5) 2 186 := ⟨by decide +kernel, rfl⟩
theorem o_execute_186 : InsA md_execute 186 (.iadd) 1 187 := ⟨by decide +kernel, rfl⟩
theorem o_execute_187 : InsA md_execute 187 (.iastore) 1 188 := ⟨by decide +kernel, rfl⟩
theorem o_execute_188 : InsA md_execute 188 (.aload_n 0) 1 189 := ⟨by decide +kernel, rfl⟩
theorem o_execute_189 : InsA md_execute 189 (.aload_n 0) 1 190 := ⟨by decide +kernel, rfl⟩
theorem o_execute_190 : InsA md_execute 190 (.getfield 67) 3 193 := ⟨by decide +kernel, rfl⟩
theorem o_execute_193 : InsA md_execute 193 (.iconst 1) 1 194 := ⟨by decide +kernel, rfl⟩
theorem o_execute_194 : InsA md_execute 194 (.iadd) 1 195 := ⟨by decide +kernel, rfl⟩
theorem o_execute_195 : InsA md_execute 195 (.putfield 67) 3 198 := ⟨by decide +kernel, rfl⟩
theorem o_execute_198 : InsB md_execute 198 (.goto 8) 3 201 (8) 206 := ⟨by decide +kernel, rfl, by decide, by decide⟩
theorem o_execute_201 : InsA md_execute 201 (.aload_n 0) 1 202 := ⟨by decide +kernel, rfl⟩
theorem o_execute_202 : InsA md_execute 202 (.iconst 4) 1 203 := ⟨by decide +kernel, rfl⟩
theorem o_execute_203 : InsA md_execute 203 (.putfield 52) 3 206 := ⟨by decide +kernel, rfl⟩
theorem o_execute_206 : InsA md_execute 206 (.return_) 1 207 := ⟨by decide +kernel, rfl⟩
abbrev md_loadWord : MD := (⟨"RebaseLoader", "loadWord", "(III)V"⟩, prog_1_method_39_code, 5, none, { frames := 0, cells := 0, slots := 0, locals := 0 }, 0)
theorem cv_loadWord {Z : State} {a0 : Array Value} (H : OK Z a0) : CalV Z a0 md_loadWord 3 := ⟨pn_RebaseLoader, by decide, pd__III_V, H.w 161 rfl, H.w 163 rfl, H.w 2 rfl, Or.inr ⟨H.w 162 rfl, 18, H.w 1 rfl⟩⟩
theorem o_loadWord_0 : InsA md_loadWord 0 (.aload_n 0) 1 1 := ⟨by decide +kernel, rfl⟩
theorem o_loadWord_1 : InsA md_loadWord 1 (.getfield 38) 3 4 := ⟨by decide +kernel, rfl⟩
theorem o_loadWord_4 : InsA md_loadWord 4 (.iload_n 2) 1 5 := ⟨by decide +kernel, rfl⟩
theorem o_loadWord_5 : InsA md_loadWord 5 (.iaload) 1 6 := ⟨by decide +kernel, rfl⟩
theorem o_loadWord_6 : InsA md_loadWord 6 (.iload_n 3) 1 7 := ⟨by decide +kernel, rfl⟩
theorem o_loadWord_7 : InsA md_loadWord 7 (.iadd) 1 8 := ⟨by decide +kernel, rfl⟩
theorem o_loadWord_8 : InsA md_loadWord 8 (.aload_n 0) 1 9 := ⟨by decide +kernel, rfl⟩
theorem o_loadWord_9 : InsA md_loadWord 9 (.getfield 64) 3 12 := ⟨by decide +kernel, rfl⟩
theorem o_loadWord_12 : InsA md_loadWord 12 (.isub) 1 13 := ⟨by decide +kernel, rfl⟩
theorem o_loadWord_13 : InsA md_loadWord 13 (.istore 4) 2 15 := ⟨by decide +kernel, rfl⟩
theorem o_loadWord_15 : InsA md_loadWord 15 (.iload 4) 2 17 := ⟨by decide +kernel, rfl⟩
theorem o_loadWord_17 : InsB md_loadWord 17 (.ifCond .lt 19) 3 20 (19) 36 := ⟨by decide +kernel, rfl, by decide, by decide⟩
theorem o_loadWord_20 : InsA md_loadWord 20 (.iload 4) 2 22 := ⟨by decide +kernel, rfl⟩
theorem o_loadWord_22 : InsA md_loadWord 22 (.aload_n 0) 1 23 := ⟨by decide +kernel, rfl⟩
theorem o_loadWord_23 : InsA md_loadWord 23 (.getfield 61) 3 26 := ⟨by decide +kernel, rfl⟩
theorem o_loadWord_26 : InsB md_loadWord 26 (.if_icmp .ge 10) 3 29 (10) 36 := ⟨by decide +kernel, rfl, by decide, by decide⟩
theorem o_loadWord_29 : InsA md_loadWord 29 (.iload 4) 2 31 := ⟨by decide +kernel, rfl⟩
theorem o_loadWord_31 : InsA md_loadWord 31 (.bipush 64) 2 33 := ⟨by decide +kernel, rfl⟩
theorem o_loadWord_33 : InsB md_loadWord 33 (.if_icmp .lt 9) 3 36 (9) 42 := ⟨by decide +kernel, rfl, by decide, by decide⟩
theorem o_loadWord_36 : InsA md_loadWord 36 (.aload_n 0) 1 37 := ⟨by decide +kernel, rfl⟩
theorem o_loadWord_37 : InsA md_loadWord 37 (.iconst 4) 1 38 := ⟨by decide +kernel, rfl⟩
theorem o_loadWord_38 : InsA md_loadWord 38 (.putfield 52) 3 41 := ⟨by decide +kernel, rfl⟩
theorem o_loadWord_41 : InsA md_loadWord 41 (.return_) 1 42 := ⟨by decide +kernel, rfl⟩
theorem o_loadWord_42 : InsA md_loadWord 42 (.aload_n 0) 1 43 := ⟨by decide +kernel, rfl⟩
theorem o_loadWord_43 : InsA md_loadWord 43 (.getfield 38) 3 46 := ⟨by decide +kernel, rfl⟩
theorem o_loadWord_46 : InsA md_loadWord 46 (.iload_n 1) 1 47 := ⟨by decide +kernel, rfl⟩
theorem o_loadWord_47 : InsA md_loadWord 47 (.aload_n 0) 1 48 := ⟨by decide +kernel, rfl⟩
theorem o_loadWord_48 : InsA md_loadWord 48 (.getfield 19) 3 51 := ⟨by decide +kernel, rfl⟩
theorem o_loadWord_51 : InsA md_loadWord 51 (.iload 4) 2 53 := ⟨by decide +kernel, rfl⟩
theorem o_loadWord_53 : InsA md_loadWord 53 (.iaload) 1 54 := ⟨by decide +kernel, rfl⟩
theorem o_loadWord_54 : InsA md_loadWord 54 (.iastore) 1 55 := ⟨by decide +kernel, rfl⟩
theorem o_loadWord_55 : InsA md_loadWord 55 (.aload_n 0) 1 56 := ⟨by decide +kernel, rfl⟩
theorem o_loadWord_56 : InsA md_loadWord 56 (.aload_n 0) 1 57 := ⟨by decide +kernel, rfl⟩
theorem o_loadWord_57 : InsA md_loadWord 57 (.getfield 67) 3 60 := ⟨by decide +kernel, rfl⟩
theorem o_loadWord_60 : InsA md_loadWord 60 (.iconst 1) 1 61 := ⟨by decide +kernel, rfl⟩
theorem o_loadWord_61 : InsA md_loadWord 61 (.iadd) 1 62 := ⟨by decide +kernel, rfl⟩
theorem o_loadWord_62 : InsA md_loadWord 62 (.putfield 67) 3 65 := ⟨by decide +kernel, rfl⟩
theorem o_loadWord_65 : InsA md_loadWord 65 (.return_) 1 66 := ⟨by decide +kernel, rfl⟩
abbrev md_status : MD := (⟨"RebaseLoader", "status", "()I"⟩, prog_1_method_34_code, 1, some .int, { frames := 0, cells := 0, slots := 0, locals := 0 }, 0)
theorem cv_status {Z : State} {a0 : Array Value} (H : OK Z a0) : CalV Z a0 md_status 0 := ⟨pn_RebaseLoader, by decide, pd___I, H.w 167 rfl, H.w 169 rfl, H.w 2 rfl, Or.inl ⟨H.w 166 rfl, H.w 168 rfl⟩⟩
theorem o_status_0 : InsA md_status 0 (.aload_n 0) 1 1 := ⟨by decide +kernel, rfl⟩
theorem o_status_1 : InsA md_status 1 (.getfield 52) 3 4 := ⟨by decide +kernel, rfl⟩
theorem o_status_4 : InsA md_status 4 (.ireturn) 1 5 := ⟨by decide +kernel, rfl⟩
abbrev md_base : MD := (⟨"RebaseLoader", "base", "()I"⟩, prog_1_method_29_code, 1, some .int, { frames := 0, cells := 0, slots := 0, locals := 0 }, 0)
theorem cv_base {Z : State} {a0 : Array Value} (H : OK Z a0) : CalV Z a0 md_base 0 := ⟨pn_RebaseLoader, by decide, pd___I, H.w 172 rfl, H.w 174 rfl, H.w 2 rfl, Or.inl ⟨H.w 171 rfl, H.w 173 rfl⟩⟩
theorem o_base_0 : InsA md_base 0 (.aload_n 0) 1 1 := ⟨by decide +kernel, rfl⟩
theorem o_base_1 : InsA md_base 1 (.getfield 52) 3 4 := ⟨by decide +kernel, rfl⟩
theorem o_base_4 : InsB md_base 4 (.ifCond .ne 5) 3 7 (5) 9 := ⟨by decide +kernel, rfl, by decide, by decide⟩
theorem o_base_7 : InsA md_base 7 (.iconst 0) 1 8 := ⟨by decide +kernel, rfl⟩
theorem o_base_8 : InsA md_base 8 (.ireturn) 1 9 := ⟨by decide +kernel, rfl⟩
theorem o_base_9 : InsA md_base 9 (.aload_n 0) 1 10 := ⟨by decide +kernel, rfl⟩
theorem o_base_10 : InsA md_base 10 (.getfield 64) 3 13 := ⟨by decide +kernel, rfl⟩
theorem o_base_13 : InsA md_base 13 (.ireturn) 1 14 := ⟨by decide +kernel, rfl⟩
abbrev md_pc : MD := (⟨"RebaseLoader", "pc", "()I"⟩, prog_1_method_33_code, 1, some .int, { frames := 0, cells := 0, slots := 0, locals := 0 }, 0)
theorem cv_pc {Z : State} {a0 : Array Value} (H : OK Z a0) : CalV Z a0 md_pc 0 := ⟨pn_RebaseLoader, by decide, pd___I, H.w 177 rfl, H.w 179 rfl, H.w 2 rfl, Or.inl ⟨H.w 176 rfl, H.w 178 rfl⟩⟩
theorem o_pc_0 : InsA md_pc 0 (.aload_n 0) 1 1 := ⟨by decide +kernel, rfl⟩
theorem o_pc_1 : InsA md_pc 1 (.getfield 52) 3 4 := ⟨by decide +kernel, rfl⟩
theorem o_pc_4 : InsB md_pc 4 (.ifCond .eq 11) 3 7 (11) 15 := ⟨by decide +kernel, rfl, by decide, by decide⟩
theorem o_pc_7 : InsA md_pc 7 (.aload_n 0) 1 8 := ⟨by decide +kernel, rfl⟩
theorem o_pc_8 : InsA md_pc 8 (.getfield 52) 3 11 := ⟨by decide +kernel, rfl⟩
theorem o_pc_11 : InsA md_pc 11 (.iconst 1) 1 12 := ⟨by decide +kernel, rfl⟩
theorem o_pc_12 : InsB md_pc 12 (.if_icmp .ne 5) 3 15 (5) 17 := ⟨by decide +kernel, rfl, by decide, by decide⟩
theorem o_pc_15 : InsA md_pc 15 (.iconst 0) 1 16 := ⟨by decide +kernel, rfl⟩
theorem o_pc_16 : InsA md_pc 16 (.ireturn) 1 17 := ⟨by decide +kernel, rfl⟩
theorem o_pc_17 : InsA md_pc 17 (.aload_n 0) 1 18 := ⟨by decide +kernel, rfl⟩
theorem o_pc_18 : InsA md_pc 18 (.getfield 67) 3 21 := ⟨by decide +kernel, rfl⟩
theorem o_pc_21 : InsA md_pc 21 (.ireturn) 1 22 := ⟨by decide +kernel, rfl⟩
abbrev md_reg : MD := (⟨"RebaseLoader", "reg", "(I)I"⟩, prog_1_method_32_code, 2, some .int, { frames := 0, cells := 0, slots := 0, locals := 0 }, 0)
theorem cv_reg {Z : State} {a0 : Array Value} (H : OK Z a0) : CalV Z a0 md_reg 1 := ⟨pn_RebaseLoader, by decide, pd__I_I, H.w 182 rfl, H.w 184 rfl, H.w 2 rfl, Or.inl ⟨H.w 181 rfl, H.w 183 rfl⟩⟩
theorem o_reg_0 : InsA md_reg 0 (.iload_n 1) 1 1 := ⟨by decide +kernel, rfl⟩
theorem o_reg_1 : InsB md_reg 1 (.ifCond .lt 9) 3 4 (9) 10 := ⟨by decide +kernel, rfl, by decide, by decide⟩
theorem o_reg_4 : InsA md_reg 4 (.iload_n 1) 1 5 := ⟨by decide +kernel, rfl⟩
theorem o_reg_5 : InsA md_reg 5 (.bipush 7) 2 7 := ⟨by decide +kernel, rfl⟩
theorem o_reg_7 : InsB md_reg 7 (.if_icmp .le 5) 3 10 (5) 12 := ⟨by decide +kernel, rfl, by decide, by decide⟩
theorem o_reg_10 : InsA md_reg 10 (.iconst 0) 1 11 := ⟨by decide +kernel, rfl⟩
theorem o_reg_11 : InsA md_reg 11 (.ireturn) 1 12 := ⟨by decide +kernel, rfl⟩
theorem o_reg_12 : InsA md_reg 12 (.aload_n 0) 1 13 := ⟨by decide +kernel, rfl⟩
theorem o_reg_13 : InsA md_reg 13 (.getfield 38) 3 16 := ⟨by decide +kernel, rfl⟩
theorem o_reg_16 : InsA md_reg 16 (.iload_n 1) 1 17 := ⟨by decide +kernel, rfl⟩
theorem o_reg_17 : InsA md_reg 17 (.iaload) 1 18 := ⟨by decide +kernel, rfl⟩
theorem o_reg_18 : InsA md_reg 18 (.ireturn) 1 19 := ⟨by decide +kernel, rfl⟩
abbrev md_peek : MD := (⟨"RebaseLoader", "peek", "(I)I"⟩, prog_1_method_26_code, 2, some .int, { frames := 0, cells := 0, slots := 0, locals := 0 }, 0)
theorem cv_peek {Z : State} {a0 : Array Value} (H : OK Z a0) : CalV Z a0 md_peek 1 := ⟨pn_RebaseLoader, by decide, pd__I_I, H.w 187 rfl, H.w 189 rfl, H.w 2 rfl, Or.inl ⟨H.w 186 rfl, H.w 188 rfl⟩⟩
theorem o_peek_0 : InsA md_peek 0 (.iload_n 1) 1 1 := ⟨by decide +kernel, rfl⟩
theorem o_peek_1 : InsB md_peek 1 (.ifCond .lt 17) 3 4 (17) 18 := ⟨by decide +kernel, rfl, by decide, by decide⟩
theorem o_peek_4 : InsA md_peek 4 (.iload_n 1) 1 5 := ⟨by decide +kernel, rfl⟩
theorem o_peek_5 : InsA md_peek 5 (.aload_n 0) 1 6 := ⟨by decide +kernel, rfl⟩
theorem o_peek_6 : InsA md_peek 6 (.getfield 61) 3 9 := ⟨by decide +kernel, rfl⟩
theorem o_peek_9 : InsB md_peek 9 (.if_icmp .ge 9) 3 12 (9) 18 := ⟨by decide +kernel, rfl, by decide, by decide⟩
theorem o_peek_12 : InsA md_peek 12 (.iload_n 1) 1 13 := ⟨by decide +kernel, rfl⟩
theorem o_peek_13 : InsA md_peek 13 (.bipush 64) 2 15 := ⟨by decide +kernel, rfl⟩
theorem o_peek_15 : InsB md_peek 15 (.if_icmp .lt 5) 3 18 (5) 20 := ⟨by decide +kernel, rfl, by decide, by decide⟩
theorem o_peek_18 : InsA md_peek 18 (.iconst 0) 1 19 := ⟨by decide +kernel, rfl⟩
theorem o_peek_19 : InsA md_peek 19 (.ireturn) 1 20 := ⟨by decide +kernel, rfl⟩
theorem o_peek_20 : InsA md_peek 20 (.aload_n 0) 1 21 := ⟨by decide +kernel, rfl⟩
theorem o_peek_21 : InsA md_peek 21 (.getfield 52) 3 24 := ⟨by decide +kernel, rfl⟩
theorem o_peek_24 : InsB md_peek 24 (.ifCond .ne 10) 3 27 (10) 34 := ⟨by decide +kernel, rfl, by decide, by decide⟩
theorem o_peek_27 : InsA md_peek 27 (.aload_n 0) 1 28 := ⟨by decide +kernel, rfl⟩
theorem o_peek_28 : InsA md_peek 28 (.getfield 16) 3 31 := ⟨by decide +kernel, rfl⟩
theorem o_peek_31 : InsA md_peek 31 (.iload_n 1) 1 32 := ⟨by decide +kernel, rfl⟩
theorem o_peek_32 : InsA md_peek 32 (.iaload) 1 33 := ⟨by decide +kernel, rfl⟩
theorem o_peek_33 : InsA md_peek 33 (.ireturn) 1 34 := ⟨by decide +kernel, rfl⟩
theorem o_peek_34 : InsA md_peek 34 (.aload_n 0) 1 35 := ⟨by decide +kernel, rfl⟩
theorem o_peek_35 : InsA md_peek 35 (.getfield 19) 3 38 := ⟨by decide +kernel, rfl⟩
theorem o_peek_38 : InsA md_peek 38 (.iload_n 1) 1 39 := ⟨by decide +kernel, rfl⟩
theorem o_peek_39 : InsA md_peek 39 (.iaload) 1 40 := ⟨by decide +kernel, rfl⟩
theorem o_peek_40 : InsA md_peek 40 (.ireturn) 1 41 := ⟨by decide +kernel, rfl⟩
abbrev md_L_law : MD := (x, code, maxLocals, ret, room_1, 11)
theorem o_L_law_0 : InsA md_L_law 0 (.new 7) 3 3 := ⟨at_0, rfl⟩
theorem o_L_law_3 : InsA md_L_law 3 (.dup) 1 4 := ⟨at_3, rfl⟩
theorem o_L_law_4 : InsA md_L_law 4 (.bipush 64) 2 6 := ⟨at_4, rfl⟩
theorem o_L_law_6 : InsA md_L_law 6 (.bipush 8) 2 8 := ⟨at_6, rfl⟩
theorem o_L_law_8 : InsA md_L_law 8 (.invokespecial 9) 3 11 := ⟨at_8, rfl⟩
theorem o_L_law_11 : InsA md_L_law 11 (.astore_n 3) 1 12 := ⟨at_11, rfl⟩
theorem o_L_law_12 : InsA md_L_law 12 (.iload_n 0) 1 13 := ⟨at_12, rfl⟩
theorem o_L_law_13 : InsA md_L_law 13 (.iconst 4) 1 14 := ⟨at_13, rfl⟩
theorem o_L_law_14 : InsA md_L_law 14 (.ishl) 1 15 := ⟨at_14, rfl⟩
theorem o_L_law_15 : InsA md_L_law 15 (.istore 4) 2 17 := ⟨at_15, rfl⟩
theorem o_L_law_17 : InsA md_L_law 17 (.aload_n 3) 1 18 := ⟨at_17, rfl⟩
theorem o_L_law_18 : InsA md_L_law 18 (.bipush 8) 2 20 := ⟨at_18, rfl⟩
theorem o_L_law_20 : InsA md_L_law 20 (.iconst 1) 1 21 := ⟨at_20, rfl⟩
theorem o_L_law_21 : InsA md_L_law 21 (.invokevirtual 12) 3 24 := ⟨at_21, rfl⟩
theorem o_L_law_24 : InsB md_L_law 24 (.ifCond .eq 5) 3 27 (5) 29 := ⟨at_24, rfl, by decide, by decide⟩
theorem o_L_law_27 : InsA md_L_law 27 (.iconst 0) 1 28 := ⟨at_27, rfl⟩
theorem o_L_law_28 : InsA md_L_law 28 (.ireturn) 1 29 := ⟨at_28, rfl⟩
theorem o_L_law_29 : InsA md_L_law 29 (.aload_n 3) 1 30 := ⟨at_29, rfl⟩
theorem o_L_law_30 : InsA md_L_law 30 (.iconst 2) 1 31 := ⟨at_30, rfl⟩
theorem o_L_law_31 : InsA md_L_law 31 (.bipush 16) 2 33 := ⟨at_31, rfl⟩
theorem o_L_law_33 : InsA md_L_law 33 (.invokevirtual 12) 3 36 := ⟨at_33, rfl⟩
theorem o_L_law_36 : InsA md_L_law 36 (.iconst 1) 1 37 := ⟨at_36, rfl⟩
theorem o_L_law_37 : InsB md_L_law 37 (.if_icmp .eq 5) 3 40 (5) 42 := ⟨at_37, rfl, by decide, by decide⟩
theorem o_L_law_40 : InsA md_L_law 40 (.iconst 0) 1 41 := ⟨at_40, rfl⟩
theorem o_L_law_41 : InsA md_L_law 41 (.ireturn) 1 42 := ⟨at_41, rfl⟩
theorem o_L_law_42 : InsA md_L_law 42 (.aload_n 3) 1 43 := ⟨at_42, rfl⟩
theorem o_L_law_43 : InsA md_L_law 43 (.iconst 0) 1 44 := ⟨at_43, rfl⟩
theorem o_L_law_44 : InsA md_L_law 44 (.ldc 16) 2 46 := ⟨at_44, rfl⟩
theorem o_L_law_46 : InsA md_L_law 46 (.invokevirtual 17) 3 49 := ⟨at_46, rfl⟩
theorem o_L_law_49 : InsA md_L_law 49 (.pop) 1 50 := ⟨at_49, rfl⟩
theorem o_L_law_50 : InsA md_L_law 50 (.aload_n 3) 1 51 := ⟨at_50, rfl⟩
theorem o_L_law_51 : InsA md_L_law 51 (.iconst 1) 1 52 := ⟨at_51, rfl⟩
theorem o_L_law_52 : InsA md_L_law 52 (.ldc 20) 2 54 := ⟨at_52, rfl⟩
theorem o_L_law_54 : InsA md_L_law 54 (.invokevirtual 17) 3 57 := ⟨at_54, rfl⟩
theorem o_L_law_57 : InsA md_L_law 57 (.pop) 1 58 := ⟨at_57, rfl⟩
theorem o_L_law_58 : InsA md_L_law 58 (.aload_n 3) 1 59 := ⟨at_58, rfl⟩
theorem o_L_law_59 : InsA md_L_law 59 (.iconst 2) 1 60 := ⟨at_59, rfl⟩
theorem o_L_law_60 : InsA md_L_law 60 (.ldc 21) 2 62 := ⟨at_60, rfl⟩
theorem o_L_law_62 : InsA md_L_law 62 (.invokevirtual 17) 3 65 := ⟨at_62, rfl⟩
theorem o_L_law_65 : InsA md_L_law 65 (.pop) 1 66 := ⟨at_65, rfl⟩
theorem o_L_law_66 : InsA md_L_law 66 (.aload_n 3) 1 67 := ⟨at_66, rfl⟩
theorem o_L_law_67 : InsA md_L_law 67 (.iconst 3) 1 68 := ⟨at_67, rfl⟩
theorem o_L_law_68 : InsA md_L_law 68 (.ldc 22) 2 70 := ⟨at_68, rfl⟩
theorem o_L_law_70 : InsA md_L_law 70 (.invokevirtual 17) 3 73 := ⟨at_70, rfl⟩
theorem o_L_law_73 : InsA md_L_law 73 (.pop) 1 74 := ⟨at_73, rfl⟩
theorem o_L_law_74 : InsA md_L_law 74 (.aload_n 3) 1 75 := ⟨at_74, rfl⟩
theorem o_L_law_75 : InsA md_L_law 75 (.iconst 4) 1 76 := ⟨at_75, rfl⟩
theorem o_L_law_76 : InsA md_L_law 76 (.ldc 23) 2 78 := ⟨at_76, rfl⟩
theorem o_L_law_78 : InsA md_L_law 78 (.iload_n 2) 1 79 := ⟨at_78, rfl⟩
theorem o_L_law_79 : InsA md_L_law 79 (.ldc 24) 2 81 := ⟨at_79, rfl⟩
theorem o_L_law_81 : InsA md_L_law 81 (.iand) 1 82 := ⟨at_81, rfl⟩
theorem o_L_law_82 : InsA md_L_law 82 (.ior) 1 83 := ⟨at_82, rfl⟩
theorem o_L_law_83 : InsA md_L_law 83 (.invokevirtual 17) 3 86 := ⟨at_83, rfl⟩
theorem o_L_law_86 : InsA md_L_law 86 (.pop) 1 87 := ⟨at_86, rfl⟩
theorem o_L_law_87 : InsA md_L_law 87 (.aload_n 3) 1 88 := ⟨at_87, rfl⟩
theorem o_L_law_88 : InsA md_L_law 88 (.iconst 5) 1 89 := ⟨at_88, rfl⟩
theorem o_L_law_89 : InsA md_L_law 89 (.ldc 25) 2 91 := ⟨at_89, rfl⟩
theorem o_L_law_91 : InsA md_L_law 91 (.invokevirtual 17) 3 94 := ⟨at_91, rfl⟩
theorem o_L_law_94 : InsA md_L_law 94 (.pop) 1 95 := ⟨at_94, rfl⟩
theorem o_L_law_95 : InsA md_L_law 95 (.aload_n 3) 1 96 := ⟨at_95, rfl⟩
theorem o_L_law_96 : InsA md_L_law 96 (.bipush 6) 2 98 := ⟨at_96, rfl⟩
theorem o_L_law_98 : InsA md_L_law 98 (.ldc 26) 2 100 := ⟨at_98, rfl⟩
theorem o_L_law_100 : InsA md_L_law 100 (.invokevirtual 17) 3 103 := ⟨at_100, rfl⟩
theorem o_L_law_103 : InsA md_L_law 103 (.pop) 1 104 := ⟨at_103, rfl⟩
theorem o_L_law_104 : InsA md_L_law 104 (.aload_n 3) 1 105 := ⟨at_104, rfl⟩
theorem o_L_law_105 : InsA md_L_law 105 (.sipush 256) 3 108 := ⟨at_105, rfl⟩
theorem o_L_law_108 : InsA md_L_law 108 (.iload_n 1) 1 109 := ⟨at_108, rfl⟩
theorem o_L_law_109 : InsA md_L_law 109 (.invokevirtual 17) 3 112 := ⟨at_109, rfl⟩
theorem o_L_law_112 : InsA md_L_law 112 (.pop) 1 113 := ⟨at_112, rfl⟩
theorem o_L_law_113 : InsA md_L_law 113 (.aload_n 3) 1 114 := ⟨at_113, rfl⟩
theorem o_L_law_114 : InsA md_L_law 114 (.sipush 257) 3 117 := ⟨at_114, rfl⟩
theorem o_L_law_117 : InsA md_L_law 117 (.bipush 7) 2 119 := ⟨at_117, rfl⟩
theorem o_L_law_119 : InsA md_L_law 119 (.invokevirtual 17) 3 122 := ⟨at_119, rfl⟩
theorem o_L_law_122 : InsA md_L_law 122 (.pop) 1 123 := ⟨at_122, rfl⟩
theorem o_L_law_123 : InsA md_L_law 123 (.aload_n 3) 1 124 := ⟨at_123, rfl⟩
theorem o_L_law_124 : InsA md_L_law 124 (.iconst 4) 1 125 := ⟨at_124, rfl⟩
theorem o_L_law_125 : InsA md_L_law 125 (.iconst 0) 1 126 := ⟨at_125, rfl⟩
theorem o_L_law_126 : InsA md_L_law 126 (.iconst 1) 1 127 := ⟨at_126, rfl⟩
theorem o_L_law_127 : InsA md_L_law 127 (.iconst 1) 1 128 := ⟨at_127, rfl⟩
theorem o_L_law_128 : InsA md_L_law 128 (.invokevirtual 27) 3 131 := ⟨at_128, rfl⟩
theorem o_L_law_131 : InsB md_L_law 131 (.ifCond .eq 5) 3 134 (5) 136 := ⟨at_131, rfl, by decide, by decide⟩
theorem o_L_law_134 : InsA md_L_law 134 (.iconst 0) 1 135 := ⟨at_134, rfl⟩
theorem o_L_law_135 : InsA md_L_law 135 (.ireturn) 1 136 := ⟨at_135, rfl⟩
theorem o_L_law_136 : InsA md_L_law 136 (.aload_n 3) 1 137 := ⟨at_136, rfl⟩
theorem o_L_law_137 : InsA md_L_law 137 (.iconst 1) 1 138 := ⟨at_137, rfl⟩
theorem o_L_law_138 : InsA md_L_law 138 (.sipush 257) 3 141 := ⟨at_138, rfl⟩
theorem o_L_law_141 : InsA md_L_law 141 (.iconst 0) 1 142 := ⟨at_141, rfl⟩
theorem o_L_law_142 : InsA md_L_law 142 (.iconst 0) 1 143 := ⟨at_142, rfl⟩
theorem o_L_law_143 : InsA md_L_law 143 (.invokevirtual 27) 3 146 := ⟨at_143, rfl⟩
theorem o_L_law_146 : InsA md_L_law 146 (.iconst 1) 1 147 := ⟨at_146, rfl⟩
theorem o_L_law_147 : InsB md_L_law 147 (.if_icmp .eq 5) 3 150 (5) 152 := ⟨at_147, rfl, by decide, by decide⟩
theorem o_L_law_150 : InsA md_L_law 150 (.iconst 0) 1 151 := ⟨at_150, rfl⟩
theorem o_L_law_151 : InsA md_L_law 151 (.ireturn) 1 152 := ⟨at_151, rfl⟩
theorem o_L_law_152 : InsA md_L_law 152 (.aload_n 3) 1 153 := ⟨at_152, rfl⟩
theorem o_L_law_153 : InsA md_L_law 153 (.iload 4) 2 155 := ⟨at_153, rfl⟩
theorem o_L_law_155 : InsA md_L_law 155 (.invokevirtual 31) 3 158 := ⟨at_155, rfl⟩
theorem o_L_law_158 : InsB md_L_law 158 (.ifCond .eq 5) 3 161 (5) 163 := ⟨at_158, rfl, by decide, by decide⟩
theorem o_L_law_161 : InsA md_L_law 161 (.iconst 0) 1 162 := ⟨at_161, rfl⟩
theorem o_L_law_162 : InsA md_L_law 162 (.ireturn) 1 163 := ⟨at_162, rfl⟩
theorem o_L_law_163 : InsA md_L_law 163 (.aload_n 3) 1 164 := ⟨at_163, rfl⟩
theorem o_L_law_164 : InsA md_L_law 164 (.iconst 0) 1 165 := ⟨at_164, rfl⟩
theorem o_L_law_165 : InsA md_L_law 165 (.invokevirtual 35) 3 168 := ⟨at_165, rfl⟩
theorem o_L_law_168 : InsB md_L_law 168 (.ifCond .eq 5) 3 171 (5) 173 := ⟨at_168, rfl, by decide, by decide⟩
theorem o_L_law_171 : InsA md_L_law 171 (.iconst 0) 1 172 := ⟨at_171, rfl⟩
theorem o_L_law_172 : InsA md_L_law 172 (.ireturn) 1 173 := ⟨at_172, rfl⟩
theorem o_L_law_173 : InsA md_L_law 173 (.aload_n 3) 1 174 := ⟨at_173, rfl⟩
theorem o_L_law_174 : InsA md_L_law 174 (.bipush 20) 2 176 := ⟨at_174, rfl⟩
theorem o_L_law_176 : InsA md_L_law 176 (.invokevirtual 38) 3 179 := ⟨at_176, rfl⟩
theorem o_L_law_179 : InsA md_L_law 179 (.iconst 3) 1 180 := ⟨at_179, rfl⟩
theorem o_L_law_180 : InsB md_L_law 180 (.if_icmp .eq 5) 3 183 (5) 185 := ⟨at_180, rfl, by decide, by decide⟩
theorem o_L_law_183 : InsA md_L_law 183 (.iconst 0) 1 184 := ⟨at_183, rfl⟩
theorem o_L_law_184 : InsA md_L_law 184 (.ireturn) 1 185 := ⟨at_184, rfl⟩
theorem o_L_law_185 : InsA md_L_law 185 (.iload 4) 2 187 := ⟨at_185, rfl⟩
theorem o_L_law_187 : InsA md_L_law 187 (.bipush 16) 2 189 := ⟨at_187, rfl⟩
theorem o_L_law_189 : InsA md_L_law 189 (.iadd) 1 190 := ⟨at_189, rfl⟩
theorem o_L_law_190 : InsA md_L_law 190 (.istore 5) 2 192 := ⟨at_190, rfl⟩
theorem o_L_law_192 : InsA md_L_law 192 (.iload_n 2) 1 193 := ⟨at_192, rfl⟩
theorem o_L_law_193 : InsA md_L_law 193 (.ldc 24) 2 195 := ⟨at_193, rfl⟩
theorem o_L_law_195 : InsA md_L_law 195 (.iand) 1 196 := ⟨at_195, rfl⟩
theorem o_L_law_196 : InsA md_L_law 196 (.istore 6) 2 198 := ⟨at_196, rfl⟩
theorem o_L_law_198 : InsA md_L_law 198 (.iload 6) 2 200 := ⟨at_198, rfl⟩
theorem o_L_law_200 : InsA md_L_law 200 (.ldc 41) 2 202 := ⟨at_200, rfl⟩
theorem o_L_law_202 : InsB md_L_law 202 (.if_icmp .lt 11) 3 205 (11) 213 := ⟨at_202, rfl, by decide, by decide⟩
theorem o_L_law_205 : InsA md_L_law 205 (.iload 6) 2 207 := ⟨at_205, rfl⟩
theorem o_L_law_207 : InsA md_L_law 207 (.ldc 42) 2 209 := ⟨at_207, rfl⟩
theorem o_L_law_209 : InsA md_L_law 209 (.isub) 1 210 := ⟨at_209, rfl⟩
theorem o_L_law_210 : InsB md_L_law 210 (.goto 5) 3 213 (5) 215 := ⟨at_210, rfl, by decide, by decide⟩
theorem o_L_law_213 : InsA md_L_law 213 (.iload 6) 2 215 := ⟨at_213, rfl⟩
theorem o_L_law_215 : InsA md_L_law 215 (.istore 7) 2 217 := ⟨at_215, rfl⟩
theorem o_L_law_217 : InsA md_L_law 217 (.aload_n 3) 1 218 := ⟨at_217, rfl⟩
theorem o_L_law_218 : InsA md_L_law 218 (.invokevirtual 43) 3 221 := ⟨at_218, rfl⟩
theorem o_L_law_221 : InsA md_L_law 221 (.iconst 3) 1 222 := ⟨at_221, rfl⟩
theorem o_L_law_222 : InsB md_L_law 222 (.if_icmp .eq 5) 3 225 (5) 227 := ⟨at_222, rfl, by decide, by decide⟩
theorem o_L_law_225 : InsA md_L_law 225 (.iconst 0) 1 226 := ⟨at_225, rfl⟩
theorem o_L_law_226 : InsA md_L_law 226 (.ireturn) 1 227 := ⟨at_226, rfl⟩
theorem o_L_law_227 : InsA md_L_law 227 (.aload_n 3) 1 228 := ⟨at_227, rfl⟩
theorem o_L_law_228 : InsA md_L_law 228 (.invokevirtual 47) 3 231 := ⟨at_228, rfl⟩
theorem o_L_law_231 : InsA md_L_law 231 (.iload 4) 2 233 := ⟨at_231, rfl⟩
theorem o_L_law_233 : InsB md_L_law 233 (.if_icmp .eq 5) 3 236 (5) 238 := ⟨at_233, rfl, by decide, by decide⟩
theorem o_L_law_236 : InsA md_L_law 236 (.iconst 0) 1 237 := ⟨at_236, rfl⟩
theorem o_L_law_237 : InsA md_L_law 237 (.ireturn) 1 238 := ⟨at_237, rfl⟩
theorem o_L_law_238 : InsA md_L_law 238 (.aload_n 3) 1 239 := ⟨at_238, rfl⟩
theorem o_L_law_239 : InsA md_L_law 239 (.invokevirtual 50) 3 242 := ⟨at_239, rfl⟩
theorem o_L_law_242 : InsA md_L_law 242 (.iload 4) 2 244 := ⟨at_242, rfl⟩
theorem o_L_law_244 : InsA md_L_law 244 (.bipush 7) 2 246 := ⟨at_244, rfl⟩
theorem o_L_law_246 : InsA md_L_law 246 (.iadd) 1 247 := ⟨at_246, rfl⟩
theorem o_L_law_247 : InsB md_L_law 247 (.if_icmp .eq 5) 3 250 (5) 252 := ⟨at_247, rfl, by decide, by decide⟩
theorem o_L_law_250 : InsA md_L_law 250 (.iconst 0) 1 251 := ⟨at_250, rfl⟩
theorem o_L_law_251 : InsA md_L_law 251 (.ireturn) 1 252 := ⟨at_251, rfl⟩
theorem o_L_law_252 : InsA md_L_law 252 (.aload_n 3) 1 253 := ⟨at_252, rfl⟩
theorem o_L_law_253 : InsA md_L_law 253 (.iconst 0) 1 254 := ⟨at_253, rfl⟩
theorem o_L_law_254 : InsA md_L_law 254 (.invokevirtual 53) 3 257 := ⟨at_254, rfl⟩
theorem o_L_law_257 : InsB md_L_law 257 (.ifCond .eq 5) 3 260 (5) 262 := ⟨at_257, rfl, by decide, by decide⟩
theorem o_L_law_260 : InsA md_L_law 260 (.iconst 0) 1 261 := ⟨at_260, rfl⟩
theorem o_L_law_261 : InsA md_L_law 261 (.ireturn) 1 262 := ⟨at_261, rfl⟩
theorem o_L_law_262 : InsA md_L_law 262 (.aload_n 3) 1 263 := ⟨at_262, rfl⟩
theorem o_L_law_263 : InsA md_L_law 263 (.iconst 1) 1 264 := ⟨at_263, rfl⟩
theorem o_L_law_264 : InsA md_L_law 264 (.invokevirtual 53) 3 267 := ⟨at_264, rfl⟩
theorem o_L_law_267 : InsA md_L_law 267 (.iload 5) 2 269 := ⟨at_267, rfl⟩
theorem o_L_law_269 : InsB md_L_law 269 (.if_icmp .eq 5) 3 272 (5) 274 := ⟨at_269, rfl, by decide, by decide⟩
theorem o_L_law_272 : InsA md_L_law 272 (.iconst 0) 1 273 := ⟨at_272, rfl⟩
theorem o_L_law_273 : InsA md_L_law 273 (.ireturn) 1 274 := ⟨at_273, rfl⟩
theorem o_L_law_274 : InsA md_L_law 274 (.aload_n 3) 1 275 := ⟨at_274, rfl⟩
theorem o_L_law_275 : InsA md_L_law 275 (.iconst 2) 1 276 := ⟨at_275, rfl⟩
theorem o_L_law_276 : InsA md_L_law 276 (.invokevirtual 53) 3 279 := ⟨at_276, rfl⟩
theorem o_L_law_279 : InsA md_L_law 279 (.iload_n 1) 1 280 := ⟨at_279, rfl⟩
theorem o_L_law_280 : InsB md_L_law 280 (.if_icmp .eq 5) 3 283 (5) 285 := ⟨at_280, rfl, by decide, by decide⟩
theorem o_L_law_283 : InsA md_L_law 283 (.iconst 0) 1 284 := ⟨at_283, rfl⟩
theorem o_L_law_284 : InsA md_L_law 284 (.ireturn) 1 285 := ⟨at_284, rfl⟩
theorem o_L_law_285 : InsA md_L_law 285 (.aload_n 3) 1 286 := ⟨at_285, rfl⟩
theorem o_L_law_286 : InsA md_L_law 286 (.iconst 3) 1 287 := ⟨at_286, rfl⟩
theorem o_L_law_287 : InsA md_L_law 287 (.invokevirtual 53) 3 290 := ⟨at_287, rfl⟩
theorem o_L_law_290 : InsA md_L_law 290 (.iload 4) 2 292 := ⟨at_290, rfl⟩
theorem o_L_law_292 : InsA md_L_law 292 (.bipush 7) 2 294 := ⟨at_292, rfl⟩
theorem o_L_law_294 : InsA md_L_law 294 (.iadd) 1 295 := ⟨at_294, rfl⟩
theorem o_L_law_295 : InsB md_L_law 295 (.if_icmp .eq 5) 3 298 (5) 300 := ⟨at_295, rfl, by decide, by decide⟩
theorem o_L_law_298 : InsA md_L_law 298 (.iconst 0) 1 299 := ⟨at_298, rfl⟩
theorem o_L_law_299 : InsA md_L_law 299 (.ireturn) 1 300 := ⟨at_299, rfl⟩
theorem o_L_law_300 : InsA md_L_law 300 (.aload_n 3) 1 301 := ⟨at_300, rfl⟩
theorem o_L_law_301 : InsA md_L_law 301 (.iconst 4) 1 302 := ⟨at_301, rfl⟩
theorem o_L_law_302 : InsA md_L_law 302 (.invokevirtual 53) 3 305 := ⟨at_302, rfl⟩
theorem o_L_law_305 : InsA md_L_law 305 (.iload 4) 2 307 := ⟨at_305, rfl⟩
theorem o_L_law_307 : InsA md_L_law 307 (.iconst 4) 1 308 := ⟨at_307, rfl⟩
theorem o_L_law_308 : InsA md_L_law 308 (.iadd) 1 309 := ⟨at_308, rfl⟩
theorem o_L_law_309 : InsA md_L_law 309 (.iload 7) 2 311 := ⟨at_309, rfl⟩
theorem o_L_law_311 : InsA md_L_law 311 (.iadd) 1 312 := ⟨at_311, rfl⟩
theorem o_L_law_312 : InsB md_L_law 312 (.if_icmp .eq 5) 3 315 (5) 317 := ⟨at_312, rfl, by decide, by decide⟩
theorem o_L_law_315 : InsA md_L_law 315 (.iconst 0) 1 316 := ⟨at_315, rfl⟩
theorem o_L_law_316 : InsA md_L_law 316 (.ireturn) 1 317 := ⟨at_316, rfl⟩
theorem o_L_law_317 : InsA md_L_law 317 (.aload_n 3) 1 318 := ⟨at_317, rfl⟩
theorem o_L_law_318 : InsA md_L_law 318 (.iconst 5) 1 319 := ⟨at_318, rfl⟩
theorem o_L_law_319 : InsA md_L_law 319 (.invokevirtual 53) 3 322 := ⟨at_319, rfl⟩
theorem o_L_law_322 : InsB md_L_law 322 (.ifCond .eq 5) 3 325 (5) 327 := ⟨at_322, rfl, by decide, by decide⟩
theorem o_L_law_325 : InsA md_L_law 325 (.iconst 0) 1 326 := ⟨at_325, rfl⟩
theorem o_L_law_326 : InsA md_L_law 326 (.ireturn) 1 327 := ⟨at_326, rfl⟩
theorem o_L_law_327 : InsA md_L_law 327 (.aload_n 3) 1 328 := ⟨at_327, rfl⟩
theorem o_L_law_328 : InsA md_L_law 328 (.bipush 6) 2 330 := ⟨at_328, rfl⟩
theorem o_L_law_330 : InsA md_L_law 330 (.invokevirtual 53) 3 333 := ⟨at_330, rfl⟩
theorem o_L_law_333 : InsB md_L_law 333 (.ifCond .eq 5) 3 336 (5) 338 := ⟨at_333, rfl, by decide, by decide⟩
theorem o_L_law_336 : InsA md_L_law 336 (.iconst 0) 1 337 := ⟨at_336, rfl⟩
theorem o_L_law_337 : InsA md_L_law 337 (.ireturn) 1 338 := ⟨at_337, rfl⟩
theorem o_L_law_338 : InsA md_L_law 338 (.aload_n 3) 1 339 := ⟨at_338, rfl⟩
theorem o_L_law_339 : InsA md_L_law 339 (.bipush 7) 2 341 := ⟨at_339, rfl⟩
theorem o_L_law_341 : InsA md_L_law 341 (.invokevirtual 53) 3 344 := ⟨at_341, rfl⟩
theorem o_L_law_344 : InsB md_L_law 344 (.ifCond .eq 5) 3 347 (5) 349 := ⟨at_344, rfl, by decide, by decide⟩
theorem o_L_law_347 : InsA md_L_law 347 (.iconst 0) 1 348 := ⟨at_347, rfl⟩
theorem o_L_law_348 : InsA md_L_law 348 (.ireturn) 1 349 := ⟨at_348, rfl⟩
theorem o_L_law_349 : InsA md_L_law 349 (.aload_n 3) 1 350 := ⟨at_349, rfl⟩
theorem o_L_law_350 : InsA md_L_law 350 (.iconst 0) 1 351 := ⟨at_350, rfl⟩
theorem o_L_law_351 : InsA md_L_law 351 (.invokevirtual 56) 3 354 := ⟨at_351, rfl⟩
theorem o_L_law_354 : InsA md_L_law 354 (.ldc 16) 2 356 := ⟨at_354, rfl⟩
theorem o_L_law_356 : InsA md_L_law 356 (.iload 5) 2 358 := ⟨at_356, rfl⟩
theorem o_L_law_358 : InsA md_L_law 358 (.ldc 41) 2 360 := ⟨at_358, rfl⟩
theorem o_L_law_360 : InsA md_L_law 360 (.iadd) 1 361 := ⟨at_360, rfl⟩
theorem o_L_law_361 : InsA md_L_law 361 (.bipush 16) 2 363 := ⟨at_361, rfl⟩
theorem o_L_law_363 : InsA md_L_law 363 (.iushr) 1 364 := ⟨at_363, rfl⟩
theorem o_L_law_364 : InsA md_L_law 364 (.ldc 24) 2 366 := ⟨at_364, rfl⟩
theorem o_L_law_366 : InsA md_L_law 366 (.iand) 1 367 := ⟨at_366, rfl⟩
theorem o_L_law_367 : InsA md_L_law 367 (.ior) 1 368 := ⟨at_367, rfl⟩
theorem o_L_law_368 : InsB md_L_law 368 (.if_icmp .eq 5) 3 371 (5) 373 := ⟨at_368, rfl, by decide, by decide⟩
theorem o_L_law_371 : InsA md_L_law 371 (.iconst 0) 1 372 := ⟨at_371, rfl⟩
theorem o_L_law_372 : InsA md_L_law 372 (.ireturn) 1 373 := ⟨at_372, rfl⟩
theorem o_L_law_373 : InsA md_L_law 373 (.aload_n 3) 1 374 := ⟨at_373, rfl⟩
theorem o_L_law_374 : InsA md_L_law 374 (.iconst 1) 1 375 := ⟨at_374, rfl⟩
theorem o_L_law_375 : InsA md_L_law 375 (.invokevirtual 56) 3 378 := ⟨at_375, rfl⟩
theorem o_L_law_378 : InsA md_L_law 378 (.ldc 20) 2 380 := ⟨at_378, rfl⟩
theorem o_L_law_380 : InsA md_L_law 380 (.iload 5) 2 382 := ⟨at_380, rfl⟩
theorem o_L_law_382 : InsA md_L_law 382 (.ldc 24) 2 384 := ⟨at_382, rfl⟩
theorem o_L_law_384 : InsA md_L_law 384 (.iand) 1 385 := ⟨at_384, rfl⟩
theorem o_L_law_385 : InsA md_L_law 385 (.ior) 1 386 := ⟨at_385, rfl⟩
theorem o_L_law_386 : InsB md_L_law 386 (.if_icmp .eq 5) 3 389 (5) 391 := ⟨at_386, rfl, by decide, by decide⟩
theorem o_L_law_389 : InsA md_L_law 389 (.iconst 0) 1 390 := ⟨at_389, rfl⟩
theorem o_L_law_390 : InsA md_L_law 390 (.ireturn) 1 391 := ⟨at_390, rfl⟩
theorem o_L_law_391 : InsA md_L_law 391 (.aload_n 3) 1 392 := ⟨at_391, rfl⟩
theorem o_L_law_392 : InsA md_L_law 392 (.bipush 17) 2 394 := ⟨at_392, rfl⟩
theorem o_L_law_394 : InsA md_L_law 394 (.invokevirtual 56) 3 397 := ⟨at_394, rfl⟩
theorem o_L_law_397 : InsA md_L_law 397 (.iload 4) 2 399 := ⟨at_397, rfl⟩
theorem o_L_law_399 : InsA md_L_law 399 (.bipush 7) 2 401 := ⟨at_399, rfl⟩
theorem o_L_law_401 : InsA md_L_law 401 (.iadd) 1 402 := ⟨at_401, rfl⟩
theorem o_L_law_402 : InsB md_L_law 402 (.if_icmp .eq 5) 3 405 (5) 407 := ⟨at_402, rfl, by decide, by decide⟩
theorem o_L_law_405 : InsA md_L_law 405 (.iconst 0) 1 406 := ⟨at_405, rfl⟩
theorem o_L_law_406 : InsA md_L_law 406 (.ireturn) 1 407 := ⟨at_406, rfl⟩
theorem o_L_law_407 : InsA md_L_law 407 (.iconst 1) 1 408 := ⟨at_407, rfl⟩
theorem o_L_law_408 : InsA md_L_law 408 (.ireturn) 1 409 := ⟨at_408, rfl⟩
theorem gd {c : Prop} [Decidable c] {α : Type} {x : Option α} {r : α} (h : (if c then x else none) = some r) : c ∧ x = some r := by
  by_cases q : c
  · rw [if_pos q] at h; exact ⟨q, h⟩
  · rw [if_neg q] at h; cases h
theorem ifp {c : Prop} [Decidable c] {α : Type} {x y z : α} (q : c) (h : (if c then x else y) = z) : x = z := by rw [if_pos q] at h; exact h
theorem ifn {c : Prop} [Decidable c] {α : Type} {x y z : α} (q : ¬ c) (h : (if c then x else y) = z) : y = z := by rw [if_neg q] at h; exact h
theorem getD_some {α : Type} {o : Option α} {d r : α} (h : o = some r) : o.getD d = r := by rw [h]; rfl
set_option maxRecDepth 65536 in
set_option maxHeartbeats 4000000 in
theorem wp_clamp {l : Launch} {Z : State} {a0 : Array Value} (H : OK Z a0) (F : Nat → Int32) (G : Nat → Int64) (A : Nat → Int32 → Int32) (B : Nat → Int32 → Int64) (p1 : Int32) (p2 : Int32) (p3 : Int32) {Q : Option Value → WO → Prop} (h3 : ¬ p1 < p2 → ¬ p3 < p1 → Q (some (.int p1)) (10, F, G, A, B)) (h4 : ¬ p1 < p2 → p3 < p1 → Q (some (.int p3)) (10, F, G, A, B)) (h5 : p1 < p2 → Q (some (.int p2)) (10, F, G, A, B)) :
    Wk l Z (MoC Z cdC) md_clamp 0 [.val (.ref 0), .val (.int p1), .val (.int p2), .val (.int p3)] [] (10, F, G, A, B) 0 0 Q := by
  refine Wk.iloadN o_clamp_0 rfl ?_
  refine Wk.iloadN o_clamp_1 rfl ?_
  refine Wk.icmp_ge o_clamp_2 (fun q1 => ?_) (fun q1 => ?_)
  · refine Wk.iloadN o_clamp_7 rfl ?_
    refine Wk.iloadN o_clamp_8 rfl ?_
    refine Wk.icmp_le o_clamp_9 (fun q2 => ?_) (fun q2 => ?_)
    · refine Wk.iloadN o_clamp_14 rfl ?_
      exact Wk.ireturn mrC rfl o_clamp_15 rfl (by decide) (by decide) (h3 q1 q2)
    · refine Wk.iloadN o_clamp_12 rfl ?_
      exact Wk.ireturn mrC rfl o_clamp_13 rfl (by decide) (by decide) (h4 q1 q2)
  · refine Wk.iloadN o_clamp_5 rfl ?_
    exact Wk.ireturn mrC rfl o_clamp_6 rfl (by decide) (by decide) (h5 q1)

def f_clamp (p1 : Int32) (p2 : Int32) (p3 : Int32) : Int32 := (if p1 < p2 then p2 else (if p3 < p1 then p3 else p1))
theorem e_clamp (p1 : Int32) (p2 : Int32) (p3 : Int32) : f_clamp p1 p2 p3 = (if p1 < p2 then p2 else (if p3 < p1 then p3 else p1)) := Eq.trans rfl rfl
theorem run_clamp {l : Launch} {Z : State} {a0 : Array Value} (H : OK Z a0) (F : Nat → Int32) (G : Nat → Int64) (A : Nat → Int32 → Int32) (B : Nat → Int32 → Int64) (p1 : Int32) (p2 : Int32) (p3 : Int32) :
    Wk l Z (MoC Z cdC) md_clamp 0 [.val (.ref 0), .val (.int p1), .val (.int p2), .val (.int p3)] [] (10, F, G, A, B) 0 0 (fun v w' => v = some (.int (f_clamp p1 p2 p3)) ∧ w' = (10, F, G, A, B)) :=
  wp_clamp H F G A B p1 p2 p3 (fun q1 q2 => ⟨by simp only [e_clamp, if_neg q1, if_neg q2], rfl⟩) (fun q1 q2 => ⟨by simp only [e_clamp, if_neg q1, if_pos q2], rfl⟩) (fun q1 => ⟨by simp only [e_clamp, if_pos q1], rfl⟩)
set_option maxRecDepth 65536 in
set_option maxHeartbeats 4000000 in
theorem wp_init {l : Launch} {Z : State} {a0 : Array Value} (H : OK Z a0) (p1 : Int32) (p2 : Int32) {Q : Option Value → WO → Prop} (h1 : Q none (10, (ups (ups (ups (ups (ups (ups (ups (ups (fun _ => 0) 0 (f_clamp p1 (16 : Int32) (64 : Int32))) 1 (f_clamp p2 (4 : Int32) (32 : Int32))) 5 (0 : Int32)) 2 (0 : Int32)) 4 (0 : Int32)) 3 (0 : Int32)) 6 (0 : Int32)) 7 (0 : Int32)), (fun _ => 0), (fun _ _ => 0), (fun _ _ => 0))) :
    Wk l Z (MoC Z cdC) md_init 0 [.val (.ref 0), .val (.int p1), .val (.int p2)] [] (0, (fun _ => 0), (fun _ => 0), (fun _ _ => 0), (fun _ _ => 0)) 0 0 Q := by
  refine Wk.aloadN o_init_0 rfl ?_
  refine Wk.initO (H.w 6 rfl) (H.w 7 rfl) (H.w 8 rfl) o_init_1 rfl (by decide) (by decide) ?_
  refine Wk.aloadN o_init_4 rfl ?_
  refine Wk.iconst o_init_5 (z := (4 : Int32)) (by decide) ?_
  refine Wk.newA (coC H) (aty := .int) rfl (wa_int H) (mA_secStart) (wf_secStart H) (Or.inl (wy_secStart H)) o_init_6 o_init_8 rfl rfl (k' := 1) rfl (cu' := 1) rfl (su' := 4) rfl (by decide) (by decide) (by decide) ?_
  refine Wk.aloadN o_init_11 rfl ?_
  refine Wk.iconst o_init_12 (z := (4 : Int32)) (by decide) ?_
  refine Wk.newA (coC H) (aty := .int) rfl (wa_int H) (mA_secSize) (wf_secSize H) (Or.inl (wy_secSize H)) o_init_13 o_init_15 rfl rfl (k' := 2) rfl (cu' := 2) rfl (su' := 8) rfl (by decide) (by decide) (by decide) ?_
  refine Wk.aloadN o_init_18 rfl ?_
  refine Wk.bipush o_init_19 (z := (64 : Int32)) (by decide) ?_
  refine Wk.newA (coC H) (aty := .int) rfl (wa_int H) (mA_raw) (wf_raw H) (Or.inl (wy_raw H)) o_init_21 o_init_23 rfl rfl (k' := 3) rfl (cu' := 3) rfl (su' := 72) rfl (by decide) (by decide) (by decide) ?_
  refine Wk.aloadN o_init_26 rfl ?_
  refine Wk.bipush o_init_27 (z := (64 : Int32)) (by decide) ?_
  refine Wk.newA (coC H) (aty := .int) rfl (wa_int H) (mA_cur) (wf_cur H) (Or.inl (wy_cur H)) o_init_29 o_init_31 rfl rfl (k' := 4) rfl (cu' := 4) rfl (su' := 136) rfl (by decide) (by decide) (by decide) ?_
  refine Wk.aloadN o_init_34 rfl ?_
  refine Wk.bipush o_init_35 (z := (64 : Int32)) (by decide) ?_
  refine Wk.newA (coC H) (aty := .boolean) rfl (wa_boolean H) (mA_taken) (wf_taken H) (Or.inl (wy_taken H)) o_init_37 o_init_39 rfl rfl (k' := 5) rfl (cu' := 5) rfl (su' := 200) rfl (by decide) (by decide) (by decide) ?_
  refine Wk.aloadN o_init_42 rfl ?_
  refine Wk.bipush o_init_43 (z := (32 : Int32)) (by decide) ?_
  refine Wk.newA (coC H) (aty := .int) rfl (wa_int H) (mA_recKind) (wf_recKind H) (Or.inl (wy_recKind H)) o_init_45 o_init_47 rfl rfl (k' := 6) rfl (cu' := 6) rfl (su' := 232) rfl (by decide) (by decide) (by decide) ?_
  refine Wk.aloadN o_init_50 rfl ?_
  refine Wk.bipush o_init_51 (z := (32 : Int32)) (by decide) ?_
  refine Wk.newA (coC H) (aty := .int) rfl (wa_int H) (mA_recOff) (wf_recOff H) (Or.inl (wy_recOff H)) o_init_53 o_init_55 rfl rfl (k' := 7) rfl (cu' := 7) rfl (su' := 264) rfl (by decide) (by decide) (by decide) ?_
  refine Wk.aloadN o_init_58 rfl ?_
  refine Wk.bipush o_init_59 (z := (32 : Int32)) (by decide) ?_
  refine Wk.newA (coC H) (aty := .int) rfl (wa_int H) (mA_recTarget) (wf_recTarget H) (Or.inl (wy_recTarget H)) o_init_61 o_init_63 rfl rfl (k' := 8) rfl (cu' := 8) rfl (su' := 296) rfl (by decide) (by decide) (by decide) ?_
  refine Wk.aloadN o_init_66 rfl ?_
  refine Wk.bipush o_init_67 (z := (32 : Int32)) (by decide) ?_
  refine Wk.newA (coC H) (aty := .int) rfl (wa_int H) (mA_recLoOff) (wf_recLoOff H) (Or.inl (wy_recLoOff H)) o_init_69 o_init_71 rfl rfl (k' := 9) rfl (cu' := 9) rfl (su' := 328) rfl (by decide) (by decide) (by decide) ?_
  refine Wk.aloadN o_init_74 rfl ?_
  refine Wk.bipush o_init_75 (z := (8 : Int32)) (by decide) ?_
  refine Wk.newA (coC H) (aty := .int) rfl (wa_int H) (mA_regs) (wf_regs H) (Or.inl (wy_regs H)) o_init_77 o_init_79 rfl rfl (k' := 10) rfl (cu' := 10) rfl (su' := 336) rfl (by decide) (by decide) (by decide) ?_
  refine Wk.aloadN o_init_82 rfl ?_
  refine Wk.aloadN o_init_83 rfl ?_
  refine Wk.iloadN o_init_84 rfl ?_
  refine Wk.bipush o_init_85 (z := (16 : Int32)) (by decide) ?_
  refine Wk.bipush o_init_87 (z := (64 : Int32)) (by decide) ?_
  refine Wk.callF [.int p1, .int (16 : Int32), .int (64 : Int32)] [.ref 0] (H.w 31 rfl) (cv_clamp H) o_init_89 (run_clamp H (fun _ => 0) (fun _ => 0) (fun _ _ => 0) (fun _ _ => 0) p1 (16 : Int32) (64 : Int32)) (wt := 1) (cu' := 10) (su' := 336) (by decide) rfl rfl rfl rfl rfl rfl rfl ?_
  refine Wk.putI (coC H) (mI_cap) (wf_cap H) (Or.inl (wy_cap H)) o_init_92 ?_
  refine Wk.aloadN o_init_95 rfl ?_
  refine Wk.aloadN o_init_96 rfl ?_
  refine Wk.iloadN o_init_97 rfl ?_
  refine Wk.iconst o_init_98 (z := (4 : Int32)) (by decide) ?_
  refine Wk.bipush o_init_99 (z := (32 : Int32)) (by decide) ?_
  refine Wk.callF [.int p2, .int (4 : Int32), .int (32 : Int32)] [.ref 0] (H.w 31 rfl) (cv_clamp H) o_init_101 (run_clamp H (ups (fun _ => 0) 0 (f_clamp p1 (16 : Int32) (64 : Int32))) (fun _ => 0) (fun _ _ => 0) (fun _ _ => 0) p2 (4 : Int32) (32 : Int32)) (wt := 1) (cu' := 10) (su' := 336) (by decide) rfl rfl rfl rfl rfl rfl rfl ?_
  refine Wk.putI (coC H) (mI_maxRec) (wf_maxRec H) (Or.inl (wy_maxRec H)) o_init_104 ?_
  refine Wk.aloadN o_init_107 rfl ?_
  refine Wk.iconst o_init_108 (z := (0 : Int32)) (by decide) ?_
  refine Wk.putI (coC H) (mI_state) (wf_state H) (Or.inl (wy_state H)) o_init_109 ?_
  refine Wk.aloadN o_init_112 rfl ?_
  refine Wk.iconst o_init_113 (z := (0 : Int32)) (by decide) ?_
  refine Wk.putI (coC H) (mI_nSec) (wf_nSec H) (Or.inl (wy_nSec H)) o_init_114 ?_
  refine Wk.aloadN o_init_117 rfl ?_
  refine Wk.iconst o_init_118 (z := (0 : Int32)) (by decide) ?_
  refine Wk.putI (coC H) (mI_nRec) (wf_nRec H) (Or.inl (wy_nRec H)) o_init_119 ?_
  refine Wk.aloadN o_init_122 rfl ?_
  refine Wk.iconst o_init_123 (z := (0 : Int32)) (by decide) ?_
  refine Wk.putI (coC H) (mI_imgSize) (wf_imgSize H) (Or.inl (wy_imgSize H)) o_init_124 ?_
  refine Wk.aloadN o_init_127 rfl ?_
  refine Wk.iconst o_init_128 (z := (0 : Int32)) (by decide) ?_
  refine Wk.putI (coC H) (mI_baseAddr) (wf_baseAddr H) (Or.inl (wy_baseAddr H)) o_init_129 ?_
  refine Wk.aloadN o_init_132 rfl ?_
  refine Wk.iconst o_init_133 (z := (0 : Int32)) (by decide) ?_
  refine Wk.putI (coC H) (mI_pcReg) (wf_pcReg H) (Or.inl (wy_pcReg H)) o_init_134 ?_
  exact Wk.ret mrC rfl o_init_137 rfl (by decide) (by decide) h1

def F_init (p1 : Int32) (p2 : Int32) : Nat → Int32 := (ups (ups (ups (ups (ups (ups (ups (ups (fun _ => 0) 0 (f_clamp p1 (16 : Int32) (64 : Int32))) 1 (f_clamp p2 (4 : Int32) (32 : Int32))) 5 (0 : Int32)) 2 (0 : Int32)) 4 (0 : Int32)) 3 (0 : Int32)) 6 (0 : Int32)) 7 (0 : Int32))
theorem eF_init (p1 : Int32) (p2 : Int32) : F_init p1 p2 = (ups (ups (ups (ups (ups (ups (ups (ups (fun _ => 0) 0 (f_clamp p1 (16 : Int32) (64 : Int32))) 1 (f_clamp p2 (4 : Int32) (32 : Int32))) 5 (0 : Int32)) 2 (0 : Int32)) 4 (0 : Int32)) 3 (0 : Int32)) 6 (0 : Int32)) 7 (0 : Int32)) := Eq.trans rfl rfl
theorem F_init_0 (p1 : Int32) (p2 : Int32) : F_init p1 p2 0 = (f_clamp p1 (16 : Int32) (64 : Int32)) := by
  exact Eq.trans rfl rfl
theorem F_init_1 (p1 : Int32) (p2 : Int32) : F_init p1 p2 1 = (f_clamp p2 (4 : Int32) (32 : Int32)) := by
  exact Eq.trans rfl rfl
theorem F_init_2 (p1 : Int32) (p2 : Int32) : F_init p1 p2 2 = (0 : Int32) := by
  exact Eq.trans rfl rfl
theorem F_init_3 (p1 : Int32) (p2 : Int32) : F_init p1 p2 3 = (0 : Int32) := by
  exact Eq.trans rfl rfl
theorem F_init_4 (p1 : Int32) (p2 : Int32) : F_init p1 p2 4 = (0 : Int32) := by
  exact Eq.trans rfl rfl
theorem F_init_5 (p1 : Int32) (p2 : Int32) : F_init p1 p2 5 = (0 : Int32) := by
  exact Eq.trans rfl rfl
theorem F_init_6 (p1 : Int32) (p2 : Int32) : F_init p1 p2 6 = (0 : Int32) := by
  exact Eq.trans rfl rfl
theorem F_init_7 (p1 : Int32) (p2 : Int32) : F_init p1 p2 7 = (0 : Int32) := by
  exact Eq.trans rfl rfl
theorem run_init {l : Launch} {Z : State} {a0 : Array Value} (H : OK Z a0)  (p1 : Int32) (p2 : Int32) :
    Wk l Z (MoC Z cdC) md_init 0 [.val (.ref 0), .val (.int p1), .val (.int p2)] [] (0, (fun _ => 0), (fun _ => 0), (fun _ _ => 0), (fun _ _ => 0)) 0 0 (fun v w' => v = none ∧ w' = (10, (F_init p1 p2), (fun _ => 0), (fun _ _ => 0), (fun _ _ => 0))) :=
  wp_init H p1 p2 ⟨rfl, rfl⟩
set_option maxRecDepth 65536 in
set_option maxHeartbeats 4000000 in
theorem wp_validAlign {l : Launch} {Z : State} {a0 : Array Value} (H : OK Z a0) (F : Nat → Int32) (G : Nat → Int64) (A : Nat → Int32 → Int32) (B : Nat → Int32 → Int64) (p1 : Int32) {Q : Option Value → WO → Prop} (h11 : Q (some (.int (nar .boolean (if p1 = (1 : Int32) then (1 : Int32) else (if p1 = (2 : Int32) then (1 : Int32) else (if p1 = (4 : Int32) then (1 : Int32) else (if p1 = (8 : Int32) then (1 : Int32) else (if p1 = (16 : Int32) then (1 : Int32) else (0 : Int32))))))))) (10, F, G, A, B)) :
    Wk l Z (MoC Z cdC) md_validAlign 0 [.val (.ref 0), .val (.int p1)] [] (10, F, G, A, B) 0 0 Q := by
  refine Wk.iloadN o_validAlign_0 rfl ?_
  refine Wk.iconst o_validAlign_1 (z := (1 : Int32)) (by decide) ?_
  have J10 : Wk l Z (MoC Z cdC) md_validAlign 32 [.val (.ref 0), .val (.int p1)] [.int (if p1 = (1 : Int32) then (1 : Int32) else (if p1 = (2 : Int32) then (1 : Int32) else (if p1 = (4 : Int32) then (1 : Int32) else (if p1 = (8 : Int32) then (1 : Int32) else (if p1 = (16 : Int32) then (1 : Int32) else (0 : Int32))))))] (10, F, G, A, B) 0 0 Q := by
    exact Wk.zreturn mrC rfl o_validAlign_32 rfl (by decide) (by decide) (y := (nar .boolean (if p1 = (1 : Int32) then (1 : Int32) else (if p1 = (2 : Int32) then (1 : Int32) else (if p1 = (4 : Int32) then (1 : Int32) else (if p1 = (8 : Int32) then (1 : Int32) else (if p1 = (16 : Int32) then (1 : Int32) else (0 : Int32)))))))) rfl h11
  refine Wk.icmp_eq o_validAlign_2 (fun q1 => ?_) (fun q1 => ?_)
  · refine Wk.iconst o_validAlign_27 (z := (1 : Int32)) (by decide) ?_
    refine Wk.goto o_validAlign_28 ?_
    first | (rw [show ((if p1 = (1 : Int32) then (1 : Int32) else (if p1 = (2 : Int32) then (1 : Int32) else (if p1 = (4 : Int32) then (1 : Int32) else (if p1 = (8 : Int32) then (1 : Int32) else (if p1 = (16 : Int32) then (1 : Int32) else (0 : Int32)))))) : Int32) = (1 : Int32) from if_pos q1] at J10; exact J10) | exact J10 | (simp only [if_pos q1] at J10 ⊢; exact J10)
  · refine Wk.iloadN o_validAlign_5 rfl ?_
    refine Wk.iconst o_validAlign_6 (z := (2 : Int32)) (by decide) ?_
    refine Wk.icmp_eq o_validAlign_7 (fun q2 => ?_) (fun q2 => ?_)
    · refine Wk.iconst o_validAlign_27 (z := (1 : Int32)) (by decide) ?_
      refine Wk.goto o_validAlign_28 ?_
      first | (rw [show ((if p1 = (1 : Int32) then (1 : Int32) else (if p1 = (2 : Int32) then (1 : Int32) else (if p1 = (4 : Int32) then (1 : Int32) else (if p1 = (8 : Int32) then (1 : Int32) else (if p1 = (16 : Int32) then (1 : Int32) else (0 : Int32)))))) : Int32) = (1 : Int32) from Eq.trans (if_neg q1) <| if_pos q2] at J10; exact J10) | exact J10 | (simp only [if_neg q1, if_pos q2] at J10 ⊢; exact J10)
    · refine Wk.iloadN o_validAlign_10 rfl ?_
      refine Wk.iconst o_validAlign_11 (z := (4 : Int32)) (by decide) ?_
      refine Wk.icmp_eq o_validAlign_12 (fun q3 => ?_) (fun q3 => ?_)
      · refine Wk.iconst o_validAlign_27 (z := (1 : Int32)) (by decide) ?_
        refine Wk.goto o_validAlign_28 ?_
        first | (rw [show ((if p1 = (1 : Int32) then (1 : Int32) else (if p1 = (2 : Int32) then (1 : Int32) else (if p1 = (4 : Int32) then (1 : Int32) else (if p1 = (8 : Int32) then (1 : Int32) else (if p1 = (16 : Int32) then (1 : Int32) else (0 : Int32)))))) : Int32) = (1 : Int32) from Eq.trans (if_neg q1) <| Eq.trans (if_neg q2) <| if_pos q3] at J10; exact J10) | exact J10 | (simp only [if_neg q1, if_neg q2, if_pos q3] at J10 ⊢; exact J10)
      · refine Wk.iloadN o_validAlign_15 rfl ?_
        refine Wk.bipush o_validAlign_16 (z := (8 : Int32)) (by decide) ?_
        refine Wk.icmp_eq o_validAlign_18 (fun q4 => ?_) (fun q4 => ?_)
        · refine Wk.iconst o_validAlign_27 (z := (1 : Int32)) (by decide) ?_
          refine Wk.goto o_validAlign_28 ?_
          first | (rw [show ((if p1 = (1 : Int32) then (1 : Int32) else (if p1 = (2 : Int32) then (1 : Int32) else (if p1 = (4 : Int32) then (1 : Int32) else (if p1 = (8 : Int32) then (1 : Int32) else (if p1 = (16 : Int32) then (1 : Int32) else (0 : Int32)))))) : Int32) = (1 : Int32) from Eq.trans (if_neg q1) <| Eq.trans (if_neg q2) <| Eq.trans (if_neg q3) <| if_pos q4] at J10; exact J10) | exact J10 | (simp only [if_neg q1, if_neg q2, if_neg q3, if_pos q4] at J10 ⊢; exact J10)
        · refine Wk.iloadN o_validAlign_21 rfl ?_
          refine Wk.bipush o_validAlign_22 (z := (16 : Int32)) (by decide) ?_
          refine Wk.icmp_ne o_validAlign_24 (fun q5 => ?_) (fun q5 => ?_)
          · refine Wk.iconst o_validAlign_31 (z := (0 : Int32)) (by decide) ?_
            first | (rw [show ((if p1 = (1 : Int32) then (1 : Int32) else (if p1 = (2 : Int32) then (1 : Int32) else (if p1 = (4 : Int32) then (1 : Int32) else (if p1 = (8 : Int32) then (1 : Int32) else (if p1 = (16 : Int32) then (1 : Int32) else (0 : Int32)))))) : Int32) = (0 : Int32) from Eq.trans (if_neg q1) <| Eq.trans (if_neg q2) <| Eq.trans (if_neg q3) <| Eq.trans (if_neg q4) <| if_neg q5] at J10; exact J10) | exact J10 | (simp only [if_neg q1, if_neg q2, if_neg q3, if_neg q4, if_neg q5] at J10 ⊢; exact J10)
          · refine Wk.iconst o_validAlign_27 (z := (1 : Int32)) (by decide) ?_
            refine Wk.goto o_validAlign_28 ?_
            first | (rw [show ((if p1 = (1 : Int32) then (1 : Int32) else (if p1 = (2 : Int32) then (1 : Int32) else (if p1 = (4 : Int32) then (1 : Int32) else (if p1 = (8 : Int32) then (1 : Int32) else (if p1 = (16 : Int32) then (1 : Int32) else (0 : Int32)))))) : Int32) = (1 : Int32) from Eq.trans (if_neg q1) <| Eq.trans (if_neg q2) <| Eq.trans (if_neg q3) <| Eq.trans (if_neg q4) <| if_pos q5] at J10; exact J10) | exact J10 | (simp only [if_neg q1, if_neg q2, if_neg q3, if_neg q4, if_pos q5] at J10 ⊢; exact J10)

def f_validAlign (p1 : Int32) : Int32 := (nar .boolean (if p1 = (1 : Int32) then (1 : Int32) else (if p1 = (2 : Int32) then (1 : Int32) else (if p1 = (4 : Int32) then (1 : Int32) else (if p1 = (8 : Int32) then (1 : Int32) else (if p1 = (16 : Int32) then (1 : Int32) else (0 : Int32)))))))
theorem e_validAlign (p1 : Int32) : f_validAlign p1 = (nar .boolean (if p1 = (1 : Int32) then (1 : Int32) else (if p1 = (2 : Int32) then (1 : Int32) else (if p1 = (4 : Int32) then (1 : Int32) else (if p1 = (8 : Int32) then (1 : Int32) else (if p1 = (16 : Int32) then (1 : Int32) else (0 : Int32))))))) := Eq.trans rfl rfl
theorem bz_validAlign (p1 : Int32) : nar .boolean (f_validAlign p1) = f_validAlign p1 := by
  unfold f_validAlign
  (repeat' split) <;> first | rfl | exact nar_nar _
theorem run_validAlign {l : Launch} {Z : State} {a0 : Array Value} (H : OK Z a0) (F : Nat → Int32) (G : Nat → Int64) (A : Nat → Int32 → Int32) (B : Nat → Int32 → Int64) (p1 : Int32) :
    Wk l Z (MoC Z cdC) md_validAlign 0 [.val (.ref 0), .val (.int p1)] [] (10, F, G, A, B) 0 0 (fun v w' => v = some (.int (f_validAlign p1)) ∧ w' = (10, F, G, A, B)) :=
  wp_validAlign H F G A B p1 ⟨rfl, rfl⟩
set_option maxRecDepth 65536 in
set_option maxHeartbeats 4000000 in
theorem wp_clearWords {l : Launch} {Z : State} {a0 : Array Value} (H : OK Z a0) (F : Nat → Int32) (G : Nat → Int64) (A : Nat → Int32 → Int32) (B : Nat → Int32 → Int64) (p1 : Int32) (p2 : Int32) {Q : Option Value → WO → Prop} (h1 : Wk l Z (MoC Z cdC) md_clearWords 2 [.val (.ref 0), .unset, .val (.int p2), .val (.int p1)] [] (10, F, G, A, B) 0 0 Q) :
    Wk l Z (MoC Z cdC) md_clearWords 0 [.val (.ref 0), .val (.int p1), .val (.int p2), .unset] [] (10, F, G, A, B) 0 0 Q := by
  refine Wk.iloadN o_clearWords_0 rfl ?_
  refine Wk.istoreN o_clearWords_1 (Or.inl rfl) (L' := [.val (.ref 0), .val (.int p1), .val (.int p2), .val (.int p1)]) rfl ?_
  refine Wk.forget [false, true, false, false] (L' := [.val (.ref 0), .unset, .val (.int p2), .val (.int p1)]) rfl rfl ?_
  exact h1

set_option maxRecDepth 65536 in
set_option maxHeartbeats 4000000 in
theorem wp_clearWords_2 {l : Launch} {Z : State} {a0 : Array Value} (H : OK Z a0) (F : Nat → Int32) (G : Nat → Int64) (A : Nat → Int32 → Int32) (B : Nat → Int32 → Int64) (v2 : Int32) (v3 : Int32) {Q : Option Value → WO → Prop} (h2 : ¬ v3 < v2 → Q none (10, F, G, A, B)) (h4 : v3 < v2 → ¬ v3 < (64 : Int32) → Q none (10, F, G, A, B)) (h6 : v3 < v2 → v3 < (64 : Int32) → v3 < 0 → Wk l Z (MoC Z cdC) md_clearWords 2 [.val (.ref 0), .unset, .val (.int v2), .val (.int (v3 + (1 : Int32)))] [] (10, F, G, A, B) 0 0 Q) (h7 : v3 < v2 → v3 < (64 : Int32) → ¬ v3 < 0 → Wk l Z (MoC Z cdC) md_clearWords 2 [.val (.ref 0), .unset, .val (.int v2), .val (.int (v3 + (1 : Int32)))] [] (10, F, G, (ups (ups (ups A 2 (ups (A 2) v3 (0 : Int32))) 3 (ups (A 3) v3 (0 : Int32))) 4 (ups (A 4) v3 (0 : Int32))), B) 0 0 Q) :
    Wk l Z (MoC Z cdC) md_clearWords 2 [.val (.ref 0), .unset, .val (.int v2), .val (.int v3)] [] (10, F, G, A, B) 0 0 Q := by
  refine Wk.iloadN o_clearWords_2 rfl ?_
  refine Wk.iloadN o_clearWords_3 rfl ?_
  refine Wk.icmp_ge o_clearWords_4 (fun q1 => ?_) (fun q1 => ?_)
  · exact Wk.ret mrC rfl o_clearWords_44 rfl (by decide) (by decide) (h2 q1)
  · refine Wk.iloadN o_clearWords_7 rfl ?_
    refine Wk.bipush o_clearWords_8 (z := (64 : Int32)) (by decide) ?_
    refine Wk.icmp_ge o_clearWords_10 (fun q3 => ?_) (fun q3 => ?_)
    · exact Wk.ret mrC rfl o_clearWords_44 rfl (by decide) (by decide) (h4 q1 q3)
    · refine Wk.iloadN o_clearWords_13 rfl ?_
      refine Wk.if_lt o_clearWords_14 (fun q5 => ?_) (fun q5 => ?_)
      · refine Wk.iinc o_clearWords_38 rfl (z := (v3 + (1 : Int32))) rfl (L' := [.val (.ref 0), .unset, .val (.int v2), .val (.int (v3 + (1 : Int32)))]) rfl ?_
        refine Wk.goto o_clearWords_41 ?_
        exact (h6 q1 q3 q5)
      · refine Wk.aloadN o_clearWords_17 rfl ?_
        refine Wk.getA (mA_raw) (by decide) (i' := 3) rfl (wf_raw H) o_clearWords_18 ?_
        refine Wk.iloadN o_clearWords_21 rfl ?_
        refine Wk.iconst o_clearWords_22 (z := (0 : Int32)) (by decide) ?_
        refine Wk.iastore (coC H) (f := (A 2)) (mA_raw) rfl (by decide) (i' := 3) rfl q5 q3 o_clearWords_23 ?_
        refine Wk.aloadN o_clearWords_24 rfl ?_
        refine Wk.getA (mA_cur) (by decide) (i' := 4) rfl (wf_cur H) o_clearWords_25 ?_
        refine Wk.iloadN o_clearWords_28 rfl ?_
        refine Wk.iconst o_clearWords_29 (z := (0 : Int32)) (by decide) ?_
        refine Wk.iastore (coC H) (f := (A 3)) (mA_cur) rfl (by decide) (i' := 4) rfl q5 q3 o_clearWords_30 ?_
        refine Wk.aloadN o_clearWords_31 rfl ?_
        refine Wk.getA (mA_taken) (by decide) (i' := 5) rfl (wf_taken H) o_clearWords_32 ?_
        refine Wk.iloadN o_clearWords_35 rfl ?_
        refine Wk.iconst o_clearWords_36 (z := (0 : Int32)) (by decide) ?_
        refine Wk.bastore (coC H) (f := (A 4)) (v' := (0 : Int32)) (by decide) (mA_taken) rfl (by decide) (i' := 5) rfl q5 q3 o_clearWords_37 ?_
        refine Wk.iinc o_clearWords_38 rfl (z := (v3 + (1 : Int32))) rfl (L' := [.val (.ref 0), .unset, .val (.int v2), .val (.int (v3 + (1 : Int32)))]) rfl ?_
        refine Wk.goto o_clearWords_41 ?_
        exact (h7 q1 q3 q5)

theorem rt_clearWords (F : Nat → Int32) (G : Nat → Int64) (B : Nat → Int32 → Int64) (v0 : Int32) (xA : Nat → Int32 → Int32) (r : Int32 × (Nat → Int32 → Int32)) (e : (v0, xA) = r) : (none : Option Value) = none ∧ (10, F, G, xA, B) = (10, F, G, r.2, B) := by subst e; exact ⟨rfl, rfl⟩
def lp_clearWords : Nat → Nat → Int32 → Int32 → (Nat → Int32 → Int32) → Option (Int32 × (Nat → Int32 → Int32))
  | 0, _, _, _, _ => none
  | n + 1, tag, v2, v3, A => if tag = 2 then (if v3 < v2 then (if v3 < (64 : Int32) then (if v3 < 0 then lp_clearWords n 2 v2 (v3 + (1 : Int32)) A else lp_clearWords n 2 v2 (v3 + (1 : Int32)) (ups (ups (ups A 2 (ups (A 2) v3 (0 : Int32))) 3 (ups (A 3) v3 (0 : Int32))) 4 (ups (A 4) v3 (0 : Int32)))) else some ((0 : Int32), A)) else some ((0 : Int32), A)) else none
theorem lp_clearWords_z (tag : Nat) (v2 : Int32) (v3 : Int32) (A : Nat → Int32 → Int32) : lp_clearWords 0 tag v2 v3 A = none := Eq.trans rfl rfl
theorem lp_clearWords_2 (n : Nat) (v2 : Int32) (v3 : Int32) (A : Nat → Int32 → Int32) : lp_clearWords (n + 1) 2 v2 v3 A = (if v3 < v2 then (if v3 < (64 : Int32) then (if v3 < 0 then lp_clearWords n 2 v2 (v3 + (1 : Int32)) A else lp_clearWords n 2 v2 (v3 + (1 : Int32)) (ups (ups (ups A 2 (ups (A 2) v3 (0 : Int32))) 3 (ups (A 3) v3 (0 : Int32))) 4 (ups (A 4) v3 (0 : Int32)))) else some ((0 : Int32), A)) else some ((0 : Int32), A)) := by
  rw [lp_clearWords, if_pos rfl]
set_option maxRecDepth 65536 in
set_option maxHeartbeats 4000000 in
theorem lpw_clearWords {l : Launch} {Z : State} {a0 : Array Value} (H : OK Z a0) (F : Nat → Int32) (G : Nat → Int64) (B : Nat → Int32 → Int64) : ∀ (n : Nat) (v2 : Int32) (v3 : Int32) (A : Nat → Int32 → Int32) (r : Int32 × (Nat → Int32 → Int32)), (lp_clearWords n 2 v2 v3 A = some r → Wk l Z (MoC Z cdC) md_clearWords 2 [.val (.ref 0), .unset, .val (.int v2), .val (.int v3)] [] (10, F, G, A, B) 0 0 (fun v w' => v = none ∧ w' = (10, F, G, r.2, B))) := by
  intro n
  induction n with
  | zero =>
    intro v2 v3 A r
    exact (fun h => by rw [lp_clearWords_z] at h; cases h)
  | succ n ih =>
    intro v2 v3 A r
    refine fun h => ?_
    · rw [lp_clearWords_2] at h
      exact wp_clearWords_2 H F G A B v2 v3 (fun q1 => (rt_clearWords _ _ _ _ _ r (Option.some.inj (ifn q1 h)))) (fun q1 q3 => (rt_clearWords _ _ _ _ _ r (Option.some.inj (ifn q3 (ifp q1 h))))) (fun q1 q3 q5 => (ih _ _ _ _) (ifp q5 (ifp q3 (ifp q1 h)))) (fun q1 q3 q5 => (ih _ _ _ _) (ifn q5 (ifp q3 (ifp q1 h))))
def en_clearWords (A : Nat → Int32 → Int32) (p1 : Int32) (p2 : Int32) : Option (Int32 × (Nat → Int32 → Int32)) := lp_clearWords 1000 2 p2 p1 A
theorem een_clearWords (A : Nat → Int32 → Int32) (p1 : Int32) (p2 : Int32) : en_clearWords A p1 p2 = lp_clearWords 1000 2 p2 p1 A := Eq.trans rfl rfl
def R_clearWords (A : Nat → Int32 → Int32) (p1 : Int32) (p2 : Int32) : Int32 × (Nat → Int32 → Int32) := (en_clearWords A p1 p2).getD (0, (fun _ _ => 0))
theorem eR_clearWords (A : Nat → Int32 → Int32) (p1 : Int32) (p2 : Int32) : R_clearWords A p1 p2 = (en_clearWords A p1 p2).getD (0, (fun _ _ => 0)) := Eq.trans rfl rfl
set_option maxRecDepth 65536 in
set_option maxHeartbeats 4000000 in
theorem run_clearWords {l : Launch} {Z : State} {a0 : Array Value} (H : OK Z a0) (F : Nat → Int32) (G : Nat → Int64) (A : Nat → Int32 → Int32) (B : Nat → Int32 → Int64) (p1 : Int32) (p2 : Int32) (e1 : (en_clearWords A p1 p2).isSome = true) :
    Wk l Z (MoC Z cdC) md_clearWords 0 [.val (.ref 0), .val (.int p1), .val (.int p2), .unset] [] (10, F, G, A, B) 0 0 (fun v w' => v = none ∧ w' = (10, F, G, (R_clearWords A p1 p2).2, B)) := by
  obtain ⟨r, h⟩ := Option.isSome_iff_exists.mp e1
  have e : R_clearWords A p1 p2 = r := (eR_clearWords A p1 p2).trans (getD_some h)
  rw [e]
  rw [een_clearWords] at h
  exact wp_clearWords H F G A B p1 p2 ((lpw_clearWords H F G B _ _ _ _ _) h)
set_option maxRecDepth 65536 in
set_option maxHeartbeats 4000000 in
theorem wp_addSection {l : Launch} {Z : State} {a0 : Array Value} (H : OK Z a0) (F : Nat → Int32) (G : Nat → Int64) (A : Nat → Int32 → Int32) (B : Nat → Int32 → Int64) (p1 : Int32) (p2 : Int32) {Q : Option Value → WO → Prop} (h4 : (F 5) = 0 → (F 2) < (4 : Int32) → p1 < (1 : Int32) → Q (some (.int (-2 : Int32))) (10, F, G, A, B)) (s7 : (F 5) = 0 → (F 2) < (4 : Int32) → ¬ p1 < (1 : Int32) → ¬ (f_validAlign p2) = 0 → ¬ ((F 0) - ((((F 3) + p2) - (1 : Int32)) &&& ((p2 - (1 : Int32)) ^^^ (-1 : Int32)))) < p1 → ¬ (F 2) < 0) (s8 : (F 5) = 0 → (F 2) < (4 : Int32) → ¬ p1 < (1 : Int32) → ¬ (f_validAlign p2) = 0 → ¬ ((F 0) - ((((F 3) + p2) - (1 : Int32)) &&& ((p2 - (1 : Int32)) ^^^ (-1 : Int32)))) < p1 → (en_clearWords (ups (ups A 0 (ups (A 0) (F 2) ((((F 3) + p2) - (1 : Int32)) &&& ((p2 - (1 : Int32)) ^^^ (-1 : Int32))))) 1 (ups (A 1) (F 2) p1)) (F 3) (((((F 3) + p2) - (1 : Int32)) &&& ((p2 - (1 : Int32)) ^^^ (-1 : Int32))) + p1)).isSome = true) (h9 : (F 5) = 0 → (F 2) < (4 : Int32) → ¬ p1 < (1 : Int32) → ¬ (f_validAlign p2) = 0 → ¬ ((F 0) - ((((F 3) + p2) - (1 : Int32)) &&& ((p2 - (1 : Int32)) ^^^ (-1 : Int32)))) < p1 → Q (some (.int (F 2))) (10, (ups (ups F 2 ((F 2) + (1 : Int32))) 3 (((((F 3) + p2) - (1 : Int32)) &&& ((p2 - (1 : Int32)) ^^^ (-1 : Int32))) + p1)), G, (R_clearWords (ups (ups A 0 (ups (A 0) (F 2) ((((F 3) + p2) - (1 : Int32)) &&& ((p2 - (1 : Int32)) ^^^ (-1 : Int32))))) 1 (ups (A 1) (F 2) p1)) (F 3) (((((F 3) + p2) - (1 : Int32)) &&& ((p2 - (1 : Int32)) ^^^ (-1 : Int32))) + p1)).2, B)) (h10 : (F 5) = 0 → (F 2) < (4 : Int32) → ¬ p1 < (1 : Int32) → ¬ (f_validAlign p2) = 0 → ((F 0) - ((((F 3) + p2) - (1 : Int32)) &&& ((p2 - (1 : Int32)) ^^^ (-1 : Int32)))) < p1 → Q (some (.int (-3 : Int32))) (10, F, G, A, B)) (h11 : (F 5) = 0 → (F 2) < (4 : Int32) → ¬ p1 < (1 : Int32) → (f_validAlign p2) = 0 → Q (some (.int (-2 : Int32))) (10, F, G, A, B)) (h12 : (F 5) = 0 → ¬ (F 2) < (4 : Int32) → Q (some (.int (-3 : Int32))) (10, F, G, A, B)) (h13 : ¬ (F 5) = 0 → Q (some (.int (-1 : Int32))) (10, F, G, A, B)) :
    Wk l Z (MoC Z cdC) md_addSection 0 [.val (.ref 0), .val (.int p1), .val (.int p2), .unset, .unset] [] (10, F, G, A, B) 0 0 Q := by
  refine Wk.aloadN o_addSection_0 rfl ?_
  refine Wk.getI (mI_state) (wf_state H) o_addSection_1 (x := (F 5)) rfl ?_
  refine Wk.if_eq o_addSection_4 (fun q1 => ?_) (fun q1 => ?_)
  · refine Wk.aloadN o_addSection_9 rfl ?_
    refine Wk.getI (mI_nSec) (wf_nSec H) o_addSection_10 (x := (F 2)) rfl ?_
    refine Wk.iconst o_addSection_13 (z := (4 : Int32)) (by decide) ?_
    refine Wk.icmp_lt o_addSection_14 (fun q2 => ?_) (fun q2 => ?_)
    · refine Wk.iloadN o_addSection_20 rfl ?_
      refine Wk.iconst o_addSection_21 (z := (1 : Int32)) (by decide) ?_
      refine Wk.icmp_lt o_addSection_22 (fun q3 => ?_) (fun q3 => ?_)
      · refine Wk.bipush o_addSection_33 (z := (-2 : Int32)) (by decide) ?_
        exact Wk.ireturn mrC rfl o_addSection_35 rfl (by decide) (by decide) (h4 q1 q2 q3)
      · refine Wk.aloadN o_addSection_25 rfl ?_
        refine Wk.iloadN o_addSection_26 rfl ?_
        refine Wk.callF [.int p2] [] (H.w 56 rfl) (cv_validAlign H) o_addSection_27 (run_validAlign H F G A B p2) (wt := 0) (cu' := 0) (su' := 0) (by decide) rfl rfl rfl rfl rfl rfl rfl ?_
        refine Wk.if_ne o_addSection_30 (fun q5 => ?_) (fun q5 => ?_)
        · refine Wk.aloadN o_addSection_36 rfl ?_
          refine Wk.getI (mI_imgSize) (wf_imgSize H) o_addSection_37 (x := (F 3)) rfl ?_
          refine Wk.iloadN o_addSection_40 rfl ?_
          refine Wk.iadd o_addSection_41 ?_
          refine Wk.iconst o_addSection_42 (z := (1 : Int32)) (by decide) ?_
          refine Wk.isub o_addSection_43 ?_
          refine Wk.iloadN o_addSection_44 rfl ?_
          refine Wk.iconst o_addSection_45 (z := (1 : Int32)) (by decide) ?_
          refine Wk.isub o_addSection_46 ?_
          refine Wk.iconst o_addSection_47 (z := (-1 : Int32)) (by decide) ?_
          refine Wk.ixor o_addSection_48 ?_
          refine Wk.iand o_addSection_49 ?_
          refine Wk.istoreN o_addSection_50 (Or.inl rfl) (L' := [.val (.ref 0), .val (.int p1), .val (.int p2), .val (.int ((((F 3) + p2) - (1 : Int32)) &&& ((p2 - (1 : Int32)) ^^^ (-1 : Int32)))), .unset]) rfl ?_
          refine Wk.iloadN o_addSection_51 rfl ?_
          refine Wk.aloadN o_addSection_52 rfl ?_
          refine Wk.getI (mI_cap) (wf_cap H) o_addSection_53 (x := (F 0)) rfl ?_
          refine Wk.iloadN o_addSection_56 rfl ?_
          refine Wk.isub o_addSection_57 ?_
          refine Wk.icmp_le o_addSection_58 (fun q6 => ?_) (fun q6 => ?_)
          · refine Wk.aloadN o_addSection_64 rfl ?_
            refine Wk.getI (mI_nSec) (wf_nSec H) o_addSection_65 (x := (F 2)) rfl ?_
            refine Wk.istore o_addSection_68 (Or.inl rfl) (L' := [.val (.ref 0), .val (.int p1), .val (.int p2), .val (.int ((((F 3) + p2) - (1 : Int32)) &&& ((p2 - (1 : Int32)) ^^^ (-1 : Int32)))), .val (.int (F 2))]) rfl ?_
            refine Wk.aloadN o_addSection_70 rfl ?_
            refine Wk.getA (mA_secStart) (by decide) (i' := 1) rfl (wf_secStart H) o_addSection_71 ?_
            refine Wk.iload o_addSection_74 rfl ?_
            refine Wk.iloadN o_addSection_76 rfl ?_
            refine Wk.iastore (coC H) (f := (A 0)) (mA_secStart) rfl (by decide) (i' := 1) rfl (s7 q1 q2 q3 q5 q6) q2 o_addSection_77 ?_
            refine Wk.aloadN o_addSection_78 rfl ?_
            refine Wk.getA (mA_secSize) (by decide) (i' := 2) rfl (wf_secSize H) o_addSection_79 ?_
            refine Wk.iload o_addSection_82 rfl ?_
            refine Wk.iloadN o_addSection_84 rfl ?_
            refine Wk.iastore (coC H) (f := (A 1)) (mA_secSize) rfl (by decide) (i' := 2) rfl (s7 q1 q2 q3 q5 q6) q2 o_addSection_85 ?_
            refine Wk.aloadN o_addSection_86 rfl ?_
            refine Wk.aloadN o_addSection_87 rfl ?_
            refine Wk.getI (mI_nSec) (wf_nSec H) o_addSection_88 (x := (F 2)) rfl ?_
            refine Wk.iconst o_addSection_91 (z := (1 : Int32)) (by decide) ?_
            refine Wk.iadd o_addSection_92 ?_
            refine Wk.putI (coC H) (mI_nSec) (wf_nSec H) (Or.inl (wy_nSec H)) o_addSection_93 ?_
            refine Wk.aloadN o_addSection_96 rfl ?_
            refine Wk.aloadN o_addSection_97 rfl ?_
            refine Wk.getI (mI_imgSize) (wf_imgSize H) o_addSection_98 (x := (F 3)) rfl ?_
            refine Wk.iloadN o_addSection_101 rfl ?_
            refine Wk.iloadN o_addSection_102 rfl ?_
            refine Wk.iadd o_addSection_103 ?_
            refine Wk.callU [.int (F 3), .int (((((F 3) + p2) - (1 : Int32)) &&& ((p2 - (1 : Int32)) ^^^ (-1 : Int32))) + p1)] [] (H.w 60 rfl) (cv_clearWords H) o_addSection_104 (run_clearWords H (ups F 2 ((F 2) + (1 : Int32))) G (ups (ups A 0 (ups (A 0) (F 2) ((((F 3) + p2) - (1 : Int32)) &&& ((p2 - (1 : Int32)) ^^^ (-1 : Int32))))) 1 (ups (A 1) (F 2) p1)) B (F 3) (((((F 3) + p2) - (1 : Int32)) &&& ((p2 - (1 : Int32)) ^^^ (-1 : Int32))) + p1) (s8 q1 q2 q3 q5 q6)) (wt := 0) (cu' := 0) (su' := 0) (by decide) rfl rfl rfl rfl rfl rfl rfl ?_
            refine Wk.aloadN o_addSection_107 rfl ?_
            refine Wk.iloadN o_addSection_108 rfl ?_
            refine Wk.iloadN o_addSection_109 rfl ?_
            refine Wk.iadd o_addSection_110 ?_
            refine Wk.putI (coC H) (mI_imgSize) (wf_imgSize H) (Or.inl (wy_imgSize H)) o_addSection_111 ?_
            refine Wk.iload o_addSection_114 rfl ?_
            exact Wk.ireturn mrC rfl o_addSection_116 rfl (by decide) (by decide) (h9 q1 q2 q3 q5 q6)
          · refine Wk.bipush o_addSection_61 (z := (-3 : Int32)) (by decide) ?_
            exact Wk.ireturn mrC rfl o_addSection_63 rfl (by decide) (by decide) (h10 q1 q2 q3 q5 q6)
        · refine Wk.bipush o_addSection_33 (z := (-2 : Int32)) (by decide) ?_
          exact Wk.ireturn mrC rfl o_addSection_35 rfl (by decide) (by decide) (h11 q1 q2 q3 q5)
    · refine Wk.bipush o_addSection_17 (z := (-3 : Int32)) (by decide) ?_
      exact Wk.ireturn mrC rfl o_addSection_19 rfl (by decide) (by decide) (h12 q1 q2)
  · refine Wk.iconst o_addSection_7 (z := (-1 : Int32)) (by decide) ?_
    exact Wk.ireturn mrC rfl o_addSection_8 rfl (by decide) (by decide) (h13 q1)

theorem rt_addSection (G : Nat → Int64) (B : Nat → Int32 → Int64) (v0 : Int32) (xF : Nat → Int32) (xA : Nat → Int32 → Int32) (r : Int32 × (Nat → Int32) × (Nat → Int32 → Int32)) (e : (v0, xF, xA) = r) : some (Value.int v0) = some (.int r.1) ∧ (10, xF, G, xA, B) = (10, r.2.1, G, r.2.2, B) := by subst e; exact ⟨rfl, rfl⟩
def en_addSection (F : Nat → Int32) (A : Nat → Int32 → Int32) (p1 : Int32) (p2 : Int32) : Option (Int32 × (Nat → Int32) × (Nat → Int32 → Int32)) := (if (F 5) = 0 then (if (F 2) < (4 : Int32) then (if p1 < (1 : Int32) then some ((-2 : Int32), F, A) else (if (f_validAlign p2) = 0 then some ((-2 : Int32), F, A) else (if ((F 0) - ((((F 3) + p2) - (1 : Int32)) &&& ((p2 - (1 : Int32)) ^^^ (-1 : Int32)))) < p1 then some ((-3 : Int32), F, A) else (if (¬ (F 2) < 0) ∧ ((en_clearWords (ups (ups A 0 (ups (A 0) (F 2) ((((F 3) + p2) - (1 : Int32)) &&& ((p2 - (1 : Int32)) ^^^ (-1 : Int32))))) 1 (ups (A 1) (F 2) p1)) (F 3) (((((F 3) + p2) - (1 : Int32)) &&& ((p2 - (1 : Int32)) ^^^ (-1 : Int32))) + p1)).isSome = true) then some ((F 2), (ups (ups F 2 ((F 2) + (1 : Int32))) 3 (((((F 3) + p2) - (1 : Int32)) &&& ((p2 - (1 : Int32)) ^^^ (-1 : Int32))) + p1)), (R_clearWords (ups (ups A 0 (ups (A 0) (F 2) ((((F 3) + p2) - (1 : Int32)) &&& ((p2 - (1 : Int32)) ^^^ (-1 : Int32))))) 1 (ups (A 1) (F 2) p1)) (F 3) (((((F 3) + p2) - (1 : Int32)) &&& ((p2 - (1 : Int32)) ^^^ (-1 : Int32))) + p1)).2) else none)))) else some ((-3 : Int32), F, A)) else some ((-1 : Int32), F, A))
theorem een_addSection (F : Nat → Int32) (A : Nat → Int32 → Int32) (p1 : Int32) (p2 : Int32) : en_addSection F A p1 p2 = (if (F 5) = 0 then (if (F 2) < (4 : Int32) then (if p1 < (1 : Int32) then some ((-2 : Int32), F, A) else (if (f_validAlign p2) = 0 then some ((-2 : Int32), F, A) else (if ((F 0) - ((((F 3) + p2) - (1 : Int32)) &&& ((p2 - (1 : Int32)) ^^^ (-1 : Int32)))) < p1 then some ((-3 : Int32), F, A) else (if (¬ (F 2) < 0) ∧ ((en_clearWords (ups (ups A 0 (ups (A 0) (F 2) ((((F 3) + p2) - (1 : Int32)) &&& ((p2 - (1 : Int32)) ^^^ (-1 : Int32))))) 1 (ups (A 1) (F 2) p1)) (F 3) (((((F 3) + p2) - (1 : Int32)) &&& ((p2 - (1 : Int32)) ^^^ (-1 : Int32))) + p1)).isSome = true) then some ((F 2), (ups (ups F 2 ((F 2) + (1 : Int32))) 3 (((((F 3) + p2) - (1 : Int32)) &&& ((p2 - (1 : Int32)) ^^^ (-1 : Int32))) + p1)), (R_clearWords (ups (ups A 0 (ups (A 0) (F 2) ((((F 3) + p2) - (1 : Int32)) &&& ((p2 - (1 : Int32)) ^^^ (-1 : Int32))))) 1 (ups (A 1) (F 2) p1)) (F 3) (((((F 3) + p2) - (1 : Int32)) &&& ((p2 - (1 : Int32)) ^^^ (-1 : Int32))) + p1)).2) else none)))) else some ((-3 : Int32), F, A)) else some ((-1 : Int32), F, A)) := Eq.trans rfl rfl
def R_addSection (F : Nat → Int32) (A : Nat → Int32 → Int32) (p1 : Int32) (p2 : Int32) : Int32 × (Nat → Int32) × (Nat → Int32 → Int32) := (en_addSection F A p1 p2).getD (0, (fun _ => 0), (fun _ _ => 0))
theorem eR_addSection (F : Nat → Int32) (A : Nat → Int32 → Int32) (p1 : Int32) (p2 : Int32) : R_addSection F A p1 p2 = (en_addSection F A p1 p2).getD (0, (fun _ => 0), (fun _ _ => 0)) := Eq.trans rfl rfl
set_option maxRecDepth 65536 in
set_option maxHeartbeats 4000000 in
theorem run_addSection {l : Launch} {Z : State} {a0 : Array Value} (H : OK Z a0) (F : Nat → Int32) (G : Nat → Int64) (A : Nat → Int32 → Int32) (B : Nat → Int32 → Int64) (p1 : Int32) (p2 : Int32) (e1 : (en_addSection F A p1 p2).isSome = true) :
    Wk l Z (MoC Z cdC) md_addSection 0 [.val (.ref 0), .val (.int p1), .val (.int p2), .unset, .unset] [] (10, F, G, A, B) 0 0 (fun v w' => v = some (.int (R_addSection F A p1 p2).1) ∧ w' = (10, (R_addSection F A p1 p2).2.1, G, (R_addSection F A p1 p2).2.2, B)) := by
  obtain ⟨r, h⟩ := Option.isSome_iff_exists.mp e1
  have e : R_addSection F A p1 p2 = r := (eR_addSection F A p1 p2).trans (getD_some h)
  rw [e]
  rw [een_addSection] at h
  exact wp_addSection H F G A B p1 p2 (fun q1 q2 q3 => (rt_addSection _ _ _ _ _ r (Option.some.inj (ifp q3 (ifp q2 (ifp q1 h)))))) (fun q1 q2 q3 q5 q6 => (gd (ifn q6 (ifn q5 (ifn q3 (ifp q2 (ifp q1 h)))))).1.1) (fun q1 q2 q3 q5 q6 => (gd (ifn q6 (ifn q5 (ifn q3 (ifp q2 (ifp q1 h)))))).1.2) (fun q1 q2 q3 q5 q6 => (rt_addSection _ _ _ _ _ r (Option.some.inj (gd (ifn q6 (ifn q5 (ifn q3 (ifp q2 (ifp q1 h)))))).2))) (fun q1 q2 q3 q5 q6 => (rt_addSection _ _ _ _ _ r (Option.some.inj (ifp q6 (ifn q5 (ifn q3 (ifp q2 (ifp q1 h)))))))) (fun q1 q2 q3 q5 => (rt_addSection _ _ _ _ _ r (Option.some.inj (ifp q5 (ifn q3 (ifp q2 (ifp q1 h))))))) (fun q1 q2 => (rt_addSection _ _ _ _ _ r (Option.some.inj (ifn q2 (ifp q1 h))))) (fun q1 => (rt_addSection _ _ _ _ _ r (Option.some.inj (ifn q1 h))))
set_option maxRecDepth 65536 in
set_option maxHeartbeats 4000000 in
theorem wp_validPos {l : Launch} {Z : State} {a0 : Array Value} (H : OK Z a0) (F : Nat → Int32) (G : Nat → Int64) (A : Nat → Int32 → Int32) (B : Nat → Int32 → Int64) (p1 : Int32) {Q : Option Value → WO → Prop} (s3 : ¬ p1 < 0 → (p1 >>> ((8 : Int32) &&& 31)) < (F 2) → ¬ (p1 >>> ((8 : Int32) &&& 31)) < 0) (s4 : ¬ p1 < 0 → (p1 >>> ((8 : Int32) &&& 31)) < (F 2) → (p1 >>> ((8 : Int32) &&& 31)) < (4 : Int32)) (h7 : ¬ p1 < 0 → (p1 >>> ((8 : Int32) &&& 31)) < (F 2) → Q (some (.int (nar .boolean (if (p1 &&& (255 : Int32)) < ((A 1) (p1 >>> ((8 : Int32) &&& 31))) then (1 : Int32) else (0 : Int32))))) (10, F, G, A, B)) (h8 : ¬ p1 < 0 → ¬ (p1 >>> ((8 : Int32) &&& 31)) < (F 2) → Q (some (.int (0 : Int32))) (10, F, G, A, B)) (h9 : p1 < 0 → Q (some (.int (0 : Int32))) (10, F, G, A, B)) :
    Wk l Z (MoC Z cdC) md_validPos 0 [.val (.ref 0), .val (.int p1), .unset] [] (10, F, G, A, B) 0 0 Q := by
  refine Wk.iloadN o_validPos_0 rfl ?_
  refine Wk.if_ge o_validPos_1 (fun q1 => ?_) (fun q1 => ?_)
  · refine Wk.iloadN o_validPos_6 rfl ?_
    refine Wk.bipush o_validPos_7 (z := (8 : Int32)) (by decide) ?_
    refine Wk.ishr o_validPos_9 ?_
    refine Wk.istoreN o_validPos_10 (Or.inl rfl) (L' := [.val (.ref 0), .val (.int p1), .val (.int (p1 >>> ((8 : Int32) &&& 31)))]) rfl ?_
    refine Wk.iloadN o_validPos_11 rfl ?_
    refine Wk.aloadN o_validPos_12 rfl ?_
    refine Wk.getI (mI_nSec) (wf_nSec H) o_validPos_13 (x := (F 2)) rfl ?_
    refine Wk.icmp_lt o_validPos_16 (fun q2 => ?_) (fun q2 => ?_)
    · refine Wk.iloadN o_validPos_21 rfl ?_
      refine Wk.sipush o_validPos_22 (z := (255 : Int32)) (by decide) ?_
      refine Wk.iand o_validPos_25 ?_
      refine Wk.aloadN o_validPos_26 rfl ?_
      refine Wk.getA (mA_secSize) (by decide) (i' := 2) rfl (wf_secSize H) o_validPos_27 ?_
      refine Wk.iloadN o_validPos_30 rfl ?_
      refine Wk.iaload (mA_secSize) (by decide) (i' := 2) rfl (s3 q1 q2) (s4 q1 q2) o_validPos_31 (y := ((A 1) (p1 >>> ((8 : Int32) &&& 31)))) rfl ?_
      have J6 : Wk l Z (MoC Z cdC) md_validPos 40 [.val (.ref 0), .val (.int p1), .val (.int (p1 >>> ((8 : Int32) &&& 31)))] [.int (if (p1 &&& (255 : Int32)) < ((A 1) (p1 >>> ((8 : Int32) &&& 31))) then (1 : Int32) else (0 : Int32))] (10, F, G, A, B) 0 0 Q := by
        exact Wk.zreturn mrC rfl o_validPos_40 rfl (by decide) (by decide) (y := (nar .boolean (if (p1 &&& (255 : Int32)) < ((A 1) (p1 >>> ((8 : Int32) &&& 31))) then (1 : Int32) else (0 : Int32)))) rfl (h7 q1 q2)
      refine Wk.icmp_ge o_validPos_32 (fun q5 => ?_) (fun q5 => ?_)
      · refine Wk.iconst o_validPos_39 (z := (0 : Int32)) (by decide) ?_
        first | (rw [show ((if (p1 &&& (255 : Int32)) < ((A 1) (p1 >>> ((8 : Int32) &&& 31))) then (1 : Int32) else (0 : Int32)) : Int32) = (0 : Int32) from if_neg q5] at J6; exact J6) | exact J6 | (simp only [if_neg q5] at J6 ⊢; exact J6)
      · refine Wk.iconst o_validPos_35 (z := (1 : Int32)) (by decide) ?_
        refine Wk.goto o_validPos_36 ?_
        first | (rw [show ((if (p1 &&& (255 : Int32)) < ((A 1) (p1 >>> ((8 : Int32) &&& 31))) then (1 : Int32) else (0 : Int32)) : Int32) = (1 : Int32) from if_pos q5] at J6; exact J6) | exact J6 | (simp only [if_pos q5] at J6 ⊢; exact J6)
    · refine Wk.iconst o_validPos_19 (z := (0 : Int32)) (by decide) ?_
      exact Wk.zreturn mrC rfl o_validPos_20 rfl (by decide) (by decide) (y := (0 : Int32)) (by decide) (h8 q1 q2)
  · refine Wk.iconst o_validPos_4 (z := (0 : Int32)) (by decide) ?_
    exact Wk.zreturn mrC rfl o_validPos_5 rfl (by decide) (by decide) (y := (0 : Int32)) (by decide) (h9 q1)

theorem rt_validPos (F : Nat → Int32) (G : Nat → Int64) (A : Nat → Int32 → Int32) (B : Nat → Int32 → Int64) (v0 : Int32) (r : Int32) (e : v0 = r) : some (Value.int v0) = some (.int r) ∧ (10, F, G, A, B) = (10, F, G, A, B) := by subst e; exact ⟨rfl, rfl⟩
def en_validPos (F : Nat → Int32) (A : Nat → Int32 → Int32) (p1 : Int32) : Option (Int32) := (if p1 < 0 then some ((0 : Int32)) else (if (p1 >>> ((8 : Int32) &&& 31)) < (F 2) then (if (¬ (p1 >>> ((8 : Int32) &&& 31)) < 0) ∧ ((p1 >>> ((8 : Int32) &&& 31)) < (4 : Int32)) then some ((nar .boolean (if (p1 &&& (255 : Int32)) < ((A 1) (p1 >>> ((8 : Int32) &&& 31))) then (1 : Int32) else (0 : Int32)))) else none) else some ((0 : Int32))))
theorem een_validPos (F : Nat → Int32) (A : Nat → Int32 → Int32) (p1 : Int32) : en_validPos F A p1 = (if p1 < 0 then some ((0 : Int32)) else (if (p1 >>> ((8 : Int32) &&& 31)) < (F 2) then (if (¬ (p1 >>> ((8 : Int32) &&& 31)) < 0) ∧ ((p1 >>> ((8 : Int32) &&& 31)) < (4 : Int32)) then some ((nar .boolean (if (p1 &&& (255 : Int32)) < ((A 1) (p1 >>> ((8 : Int32) &&& 31))) then (1 : Int32) else (0 : Int32)))) else none) else some ((0 : Int32)))) := Eq.trans rfl rfl
def R_validPos (F : Nat → Int32) (A : Nat → Int32 → Int32) (p1 : Int32) : Int32 := (en_validPos F A p1).getD (0)
theorem eR_validPos (F : Nat → Int32) (A : Nat → Int32 → Int32) (p1 : Int32) : R_validPos F A p1 = (en_validPos F A p1).getD (0) := Eq.trans rfl rfl
set_option maxRecDepth 65536 in
set_option maxHeartbeats 4000000 in
theorem run_validPos {l : Launch} {Z : State} {a0 : Array Value} (H : OK Z a0) (F : Nat → Int32) (G : Nat → Int64) (A : Nat → Int32 → Int32) (B : Nat → Int32 → Int64) (p1 : Int32) (e1 : (en_validPos F A p1).isSome = true) :
    Wk l Z (MoC Z cdC) md_validPos 0 [.val (.ref 0), .val (.int p1), .unset] [] (10, F, G, A, B) 0 0 (fun v w' => v = some (.int (R_validPos F A p1)) ∧ w' = (10, F, G, A, B)) := by
  obtain ⟨r, h⟩ := Option.isSome_iff_exists.mp e1
  have e : R_validPos F A p1 = r := (eR_validPos F A p1).trans (getD_some h)
  rw [e]
  rw [een_validPos] at h
  exact wp_validPos H F G A B p1 (fun q1 q2 => (gd (ifp q2 (ifn q1 h))).1.1) (fun q1 q2 => (gd (ifp q2 (ifn q1 h))).1.2) (fun q1 q2 => (rt_validPos _ _ _ _ _ r (Option.some.inj (gd (ifp q2 (ifn q1 h))).2))) (fun q1 q2 => (rt_validPos _ _ _ _ _ r (Option.some.inj (ifn q2 (ifn q1 h))))) (fun q1 => (rt_validPos _ _ _ _ _ r (Option.some.inj (ifp q1 h))))
set_option maxRecDepth 65536 in
set_option maxHeartbeats 4000000 in
theorem wp_offsetOf {l : Launch} {Z : State} {a0 : Array Value} (H : OK Z a0) (F : Nat → Int32) (G : Nat → Int64) (A : Nat → Int32 → Int32) (B : Nat → Int32 → Int64) (p1 : Int32) {Q : Option Value → WO → Prop} (s1 : ¬ (p1 >>> ((8 : Int32) &&& 31)) < 0) (s2 : (p1 >>> ((8 : Int32) &&& 31)) < (4 : Int32)) (h3 : Q (some (.int (((A 0) (p1 >>> ((8 : Int32) &&& 31))) + (p1 &&& (255 : Int32))))) (10, F, G, A, B)) :
    Wk l Z (MoC Z cdC) md_offsetOf 0 [.val (.ref 0), .val (.int p1)] [] (10, F, G, A, B) 0 0 Q := by
  refine Wk.aloadN o_offsetOf_0 rfl ?_
  refine Wk.getA (mA_secStart) (by decide) (i' := 1) rfl (wf_secStart H) o_offsetOf_1 ?_
  refine Wk.iloadN o_offsetOf_4 rfl ?_
  refine Wk.bipush o_offsetOf_5 (z := (8 : Int32)) (by decide) ?_
  refine Wk.ishr o_offsetOf_7 ?_
  refine Wk.iaload (mA_secStart) (by decide) (i' := 1) rfl s1 s2 o_offsetOf_8 (y := ((A 0) (p1 >>> ((8 : Int32) &&& 31)))) rfl ?_
  refine Wk.iloadN o_offsetOf_9 rfl ?_
  refine Wk.sipush o_offsetOf_10 (z := (255 : Int32)) (by decide) ?_
  refine Wk.iand o_offsetOf_13 ?_
  refine Wk.iadd o_offsetOf_14 ?_
  exact Wk.ireturn mrC rfl o_offsetOf_15 rfl (by decide) (by decide) h3

theorem rt_offsetOf (F : Nat → Int32) (G : Nat → Int64) (A : Nat → Int32 → Int32) (B : Nat → Int32 → Int64) (v0 : Int32) (r : Int32) (e : v0 = r) : some (Value.int v0) = some (.int r) ∧ (10, F, G, A, B) = (10, F, G, A, B) := by subst e; exact ⟨rfl, rfl⟩
def en_offsetOf (A : Nat → Int32 → Int32) (p1 : Int32) : Option (Int32) := (if (¬ (p1 >>> ((8 : Int32) &&& 31)) < 0) ∧ ((p1 >>> ((8 : Int32) &&& 31)) < (4 : Int32)) then some ((((A 0) (p1 >>> ((8 : Int32) &&& 31))) + (p1 &&& (255 : Int32)))) else none)
theorem een_offsetOf (A : Nat → Int32 → Int32) (p1 : Int32) : en_offsetOf A p1 = (if (¬ (p1 >>> ((8 : Int32) &&& 31)) < 0) ∧ ((p1 >>> ((8 : Int32) &&& 31)) < (4 : Int32)) then some ((((A 0) (p1 >>> ((8 : Int32) &&& 31))) + (p1 &&& (255 : Int32)))) else none) := Eq.trans rfl rfl
def R_offsetOf (A : Nat → Int32 → Int32) (p1 : Int32) : Int32 := (en_offsetOf A p1).getD (0)
theorem eR_offsetOf (A : Nat → Int32 → Int32) (p1 : Int32) : R_offsetOf A p1 = (en_offsetOf A p1).getD (0) := Eq.trans rfl rfl
set_option maxRecDepth 65536 in
set_option maxHeartbeats 4000000 in
theorem run_offsetOf {l : Launch} {Z : State} {a0 : Array Value} (H : OK Z a0) (F : Nat → Int32) (G : Nat → Int64) (A : Nat → Int32 → Int32) (B : Nat → Int32 → Int64) (p1 : Int32) (e1 : (en_offsetOf A p1).isSome = true) :
    Wk l Z (MoC Z cdC) md_offsetOf 0 [.val (.ref 0), .val (.int p1)] [] (10, F, G, A, B) 0 0 (fun v w' => v = some (.int (R_offsetOf A p1)) ∧ w' = (10, F, G, A, B)) := by
  obtain ⟨r, h⟩ := Option.isSome_iff_exists.mp e1
  have e : R_offsetOf A p1 = r := (eR_offsetOf A p1).trans (getD_some h)
  rw [e]
  rw [een_offsetOf] at h
  exact wp_offsetOf H F G A B p1 ((gd h).1.1) ((gd h).1.2) ((rt_offsetOf _ _ _ _ _ r (Option.some.inj (gd h).2)))
set_option maxRecDepth 65536 in
set_option maxHeartbeats 4000000 in
theorem wp_setWord {l : Launch} {Z : State} {a0 : Array Value} (H : OK Z a0) (F : Nat → Int32) (G : Nat → Int64) (A : Nat → Int32 → Int32) (B : Nat → Int32 → Int64) (p1 : Int32) (p2 : Int32) {Q : Option Value → WO → Prop} (s2 : (F 5) = 0 → (en_validPos F A p1).isSome = true) (s4 : (F 5) = 0 → ¬ (R_validPos F A p1) = 0 → (en_offsetOf A p1).isSome = true) (s5 : (F 5) = 0 → ¬ (R_validPos F A p1) = 0 → ¬ (R_offsetOf A p1) < 0) (s6 : (F 5) = 0 → ¬ (R_validPos F A p1) = 0 → (R_offsetOf A p1) < (64 : Int32)) (h7 : (F 5) = 0 → ¬ (R_validPos F A p1) = 0 → Q (some (.int (0 : Int32))) (10, F, G, (ups A 2 (ups (A 2) (R_offsetOf A p1) p2)), B)) (h8 : (F 5) = 0 → (R_validPos F A p1) = 0 → Q (some (.int (-2 : Int32))) (10, F, G, A, B)) (h9 : ¬ (F 5) = 0 → Q (some (.int (-1 : Int32))) (10, F, G, A, B)) :
    Wk l Z (MoC Z cdC) md_setWord 0 [.val (.ref 0), .val (.int p1), .val (.int p2), .unset] [] (10, F, G, A, B) 0 0 Q := by
  refine Wk.aloadN o_setWord_0 rfl ?_
  refine Wk.getI (mI_state) (wf_state H) o_setWord_1 (x := (F 5)) rfl ?_
  refine Wk.if_eq o_setWord_4 (fun q1 => ?_) (fun q1 => ?_)
  · refine Wk.aloadN o_setWord_9 rfl ?_
    refine Wk.iloadN o_setWord_10 rfl ?_
    refine Wk.callF [.int p1] [] (H.w 70 rfl) (cv_validPos H) o_setWord_11 (run_validPos H F G A B p1 (s2 q1)) (wt := 0) (cu' := 0) (su' := 0) (by decide) rfl rfl rfl rfl rfl rfl rfl ?_
    refine Wk.if_ne o_setWord_14 (fun q3 => ?_) (fun q3 => ?_)
    · refine Wk.aloadN o_setWord_20 rfl ?_
      refine Wk.iloadN o_setWord_21 rfl ?_
      refine Wk.callF [.int p1] [] (H.w 74 rfl) (cv_offsetOf H) o_setWord_22 (run_offsetOf H F G A B p1 (s4 q1 q3)) (wt := 0) (cu' := 0) (su' := 0) (by decide) rfl rfl rfl rfl rfl rfl rfl ?_
      refine Wk.istoreN o_setWord_25 (Or.inl rfl) (L' := [.val (.ref 0), .val (.int p1), .val (.int p2), .val (.int (R_offsetOf A p1))]) rfl ?_
      refine Wk.aloadN o_setWord_26 rfl ?_
      refine Wk.getA (mA_raw) (by decide) (i' := 3) rfl (wf_raw H) o_setWord_27 ?_
      refine Wk.iloadN o_setWord_30 rfl ?_
      refine Wk.iloadN o_setWord_31 rfl ?_
      refine Wk.iastore (coC H) (f := (A 2)) (mA_raw) rfl (by decide) (i' := 3) rfl (s5 q1 q3) (s6 q1 q3) o_setWord_32 ?_
      refine Wk.iconst o_setWord_33 (z := (0 : Int32)) (by decide) ?_
      exact Wk.ireturn mrC rfl o_setWord_34 rfl (by decide) (by decide) (h7 q1 q3)
    · refine Wk.bipush o_setWord_17 (z := (-2 : Int32)) (by decide) ?_
      exact Wk.ireturn mrC rfl o_setWord_19 rfl (by decide) (by decide) (h8 q1 q3)
  · refine Wk.iconst o_setWord_7 (z := (-1 : Int32)) (by decide) ?_
    exact Wk.ireturn mrC rfl o_setWord_8 rfl (by decide) (by decide) (h9 q1)

theorem rt_setWord (F : Nat → Int32) (G : Nat → Int64) (B : Nat → Int32 → Int64) (v0 : Int32) (xA : Nat → Int32 → Int32) (r : Int32 × (Nat → Int32 → Int32)) (e : (v0, xA) = r) : some (Value.int v0) = some (.int r.1) ∧ (10, F, G, xA, B) = (10, F, G, r.2, B) := by subst e; exact ⟨rfl, rfl⟩
def en_setWord (F : Nat → Int32) (A : Nat → Int32 → Int32) (p1 : Int32) (p2 : Int32) : Option (Int32 × (Nat → Int32 → Int32)) := (if (F 5) = 0 then (if ((en_validPos F A p1).isSome = true) then (if (R_validPos F A p1) = 0 then some ((-2 : Int32), A) else (if ((en_offsetOf A p1).isSome = true) ∧ (¬ (R_offsetOf A p1) < 0) ∧ ((R_offsetOf A p1) < (64 : Int32)) then some ((0 : Int32), (ups A 2 (ups (A 2) (R_offsetOf A p1) p2))) else none)) else none) else some ((-1 : Int32), A))
theorem een_setWord (F : Nat → Int32) (A : Nat → Int32 → Int32) (p1 : Int32) (p2 : Int32) : en_setWord F A p1 p2 = (if (F 5) = 0 then (if ((en_validPos F A p1).isSome = true) then (if (R_validPos F A p1) = 0 then some ((-2 : Int32), A) else (if ((en_offsetOf A p1).isSome = true) ∧ (¬ (R_offsetOf A p1) < 0) ∧ ((R_offsetOf A p1) < (64 : Int32)) then some ((0 : Int32), (ups A 2 (ups (A 2) (R_offsetOf A p1) p2))) else none)) else none) else some ((-1 : Int32), A)) := Eq.trans rfl rfl
def R_setWord (F : Nat → Int32) (A : Nat → Int32 → Int32) (p1 : Int32) (p2 : Int32) : Int32 × (Nat → Int32 → Int32) := (en_setWord F A p1 p2).getD (0, (fun _ _ => 0))
theorem eR_setWord (F : Nat → Int32) (A : Nat → Int32 → Int32) (p1 : Int32) (p2 : Int32) : R_setWord F A p1 p2 = (en_setWord F A p1 p2).getD (0, (fun _ _ => 0)) := Eq.trans rfl rfl
set_option maxRecDepth 65536 in
set_option maxHeartbeats 4000000 in
theorem run_setWord {l : Launch} {Z : State} {a0 : Array Value} (H : OK Z a0) (F : Nat → Int32) (G : Nat → Int64) (A : Nat → Int32 → Int32) (B : Nat → Int32 → Int64) (p1 : Int32) (p2 : Int32) (e1 : (en_setWord F A p1 p2).isSome = true) :
    Wk l Z (MoC Z cdC) md_setWord 0 [.val (.ref 0), .val (.int p1), .val (.int p2), .unset] [] (10, F, G, A, B) 0 0 (fun v w' => v = some (.int (R_setWord F A p1 p2).1) ∧ w' = (10, F, G, (R_setWord F A p1 p2).2, B)) := by
  obtain ⟨r, h⟩ := Option.isSome_iff_exists.mp e1
  have e : R_setWord F A p1 p2 = r := (eR_setWord F A p1 p2).trans (getD_some h)
  rw [e]
  rw [een_setWord] at h
  exact wp_setWord H F G A B p1 p2 (fun q1 => (gd (ifp q1 h)).1) (fun q1 q3 => (gd (ifn q3 (gd (ifp q1 h)).2)).1.1) (fun q1 q3 => (gd (ifn q3 (gd (ifp q1 h)).2)).1.2.1) (fun q1 q3 => (gd (ifn q3 (gd (ifp q1 h)).2)).1.2.2) (fun q1 q3 => (rt_setWord _ _ _ _ _ r (Option.some.inj (gd (ifn q3 (gd (ifp q1 h)).2)).2))) (fun q1 q3 => (rt_setWord _ _ _ _ _ r (Option.some.inj (ifp q3 (gd (ifp q1 h)).2)))) (fun q1 => (rt_setWord _ _ _ _ _ r (Option.some.inj (ifn q1 h))))
set_option maxRecDepth 65536 in
set_option maxHeartbeats 4000000 in
theorem wp_validTarget {l : Launch} {Z : State} {a0 : Array Value} (H : OK Z a0) (F : Nat → Int32) (G : Nat → Int64) (A : Nat → Int32 → Int32) (B : Nat → Int32 → Int64) (p1 : Int32) {Q : Option Value → WO → Prop} (h6 : ¬ p1 = (-1 : Int32) → Q (some (.int (nar .boolean (if p1 < 0 then (0 : Int32) else (if p1 < (F 2) then (1 : Int32) else (0 : Int32)))))) (10, F, G, A, B)) (h7 : p1 = (-1 : Int32) → Q (some (.int (1 : Int32))) (10, F, G, A, B)) :
    Wk l Z (MoC Z cdC) md_validTarget 0 [.val (.ref 0), .val (.int p1)] [] (10, F, G, A, B) 0 0 Q := by
  refine Wk.iloadN o_validTarget_0 rfl ?_
  refine Wk.iconst o_validTarget_1 (z := (-1 : Int32)) (by decide) ?_
  refine Wk.icmp_ne o_validTarget_2 (fun q1 => ?_) (fun q1 => ?_)
  · refine Wk.iloadN o_validTarget_7 rfl ?_
    have J5 : Wk l Z (MoC Z cdC) md_validTarget 24 [.val (.ref 0), .val (.int p1)] [.int (if p1 < 0 then (0 : Int32) else (if p1 < (F 2) then (1 : Int32) else (0 : Int32)))] (10, F, G, A, B) 0 0 Q := by
      exact Wk.zreturn mrC rfl o_validTarget_24 rfl (by decide) (by decide) (y := (nar .boolean (if p1 < 0 then (0 : Int32) else (if p1 < (F 2) then (1 : Int32) else (0 : Int32))))) rfl (h6 q1)
    refine Wk.if_lt o_validTarget_8 (fun q2 => ?_) (fun q2 => ?_)
    · refine Wk.iconst o_validTarget_23 (z := (0 : Int32)) (by decide) ?_
      first | (rw [show ((if p1 < 0 then (0 : Int32) else (if p1 < (F 2) then (1 : Int32) else (0 : Int32))) : Int32) = (0 : Int32) from if_pos q2] at J5; exact J5) | exact J5 | (simp only [if_pos q2] at J5 ⊢; exact J5)
    · refine Wk.iloadN o_validTarget_11 rfl ?_
      refine Wk.aloadN o_validTarget_12 rfl ?_
      refine Wk.getI (mI_nSec) (wf_nSec H) o_validTarget_13 (x := (F 2)) rfl ?_
      refine Wk.icmp_ge o_validTarget_16 (fun q3 => ?_) (fun q3 => ?_)
      · refine Wk.iconst o_validTarget_23 (z := (0 : Int32)) (by decide) ?_
        first | (rw [show ((if p1 < 0 then (0 : Int32) else (if p1 < (F 2) then (1 : Int32) else (0 : Int32))) : Int32) = (0 : Int32) from Eq.trans (if_neg q2) <| if_neg q3] at J5; exact J5) | exact J5 | (simp only [if_neg q2, if_neg q3] at J5 ⊢; exact J5)
      · refine Wk.iconst o_validTarget_19 (z := (1 : Int32)) (by decide) ?_
        refine Wk.goto o_validTarget_20 ?_
        first | (rw [show ((if p1 < 0 then (0 : Int32) else (if p1 < (F 2) then (1 : Int32) else (0 : Int32))) : Int32) = (1 : Int32) from Eq.trans (if_neg q2) <| if_pos q3] at J5; exact J5) | exact J5 | (simp only [if_neg q2, if_pos q3] at J5 ⊢; exact J5)
  · refine Wk.iconst o_validTarget_5 (z := (1 : Int32)) (by decide) ?_
    exact Wk.zreturn mrC rfl o_validTarget_6 rfl (by decide) (by decide) (y := (1 : Int32)) (by decide) (h7 q1)

def f_validTarget (F : Nat → Int32) (p1 : Int32) : Int32 := (if p1 = (-1 : Int32) then (1 : Int32) else (nar .boolean (if p1 < 0 then (0 : Int32) else (if p1 < (F 2) then (1 : Int32) else (0 : Int32)))))
theorem e_validTarget (F : Nat → Int32) (p1 : Int32) : f_validTarget F p1 = (if p1 = (-1 : Int32) then (1 : Int32) else (nar .boolean (if p1 < 0 then (0 : Int32) else (if p1 < (F 2) then (1 : Int32) else (0 : Int32))))) := Eq.trans rfl rfl
theorem bz_validTarget (F : Nat → Int32) (p1 : Int32) : nar .boolean (f_validTarget F p1) = f_validTarget F p1 := by
  unfold f_validTarget
  (repeat' split) <;> first | rfl | exact nar_nar _
theorem run_validTarget {l : Launch} {Z : State} {a0 : Array Value} (H : OK Z a0) (F : Nat → Int32) (G : Nat → Int64) (A : Nat → Int32 → Int32) (B : Nat → Int32 → Int64) (p1 : Int32) :
    Wk l Z (MoC Z cdC) md_validTarget 0 [.val (.ref 0), .val (.int p1)] [] (10, F, G, A, B) 0 0 (fun v w' => v = some (.int (f_validTarget F p1)) ∧ w' = (10, F, G, A, B)) :=
  wp_validTarget H F G A B p1 (fun q1 => ⟨by simp only [e_validTarget, if_neg q1], rfl⟩) (fun q1 => ⟨by simp only [e_validTarget, if_pos q1], rfl⟩)
set_option maxRecDepth 65536 in
set_option maxHeartbeats 4000000 in
theorem wp_storeRecord {l : Launch} {Z : State} {a0 : Array Value} (H : OK Z a0) (F : Nat → Int32) (G : Nat → Int64) (A : Nat → Int32 → Int32) (B : Nat → Int32 → Int64) (p1 : Int32) (p2 : Int32) (p3 : Int32) (p4 : Int32) {Q : Option Value → WO → Prop} (s1 : ¬ (F 4) < 0) (s2 : (F 4) < (32 : Int32)) (s3 : ¬ p2 < 0) (s4 : p2 < (64 : Int32)) (h9 : ¬ p1 = (4 : Int32) → Q (some (.int (F 4))) (10, (ups F 4 ((F 4) + (1 : Int32))), G, (ups (ups (ups (ups (ups A 5 (ups (A 5) (F 4) p1)) 6 (ups (A 6) (F 4) p2)) 7 (ups (A 7) (F 4) p3)) 8 (ups (A 8) (F 4) p4)) 4 (ups (A 4) p2 (1 : Int32))), B)) (h12 : p1 = (4 : Int32) → p4 < 0 → Q (some (.int (F 4))) (10, (ups F 4 ((F 4) + (1 : Int32))), G, (ups (ups (ups (ups (ups A 5 (ups (A 5) (F 4) p1)) 6 (ups (A 6) (F 4) p2)) 7 (ups (A 7) (F 4) p3)) 8 (ups (A 8) (F 4) p4)) 4 (ups (A 4) p2 (1 : Int32))), B)) (h14 : p1 = (4 : Int32) → ¬ p4 < 0 → ¬ p4 < (64 : Int32) → Q (some (.int (F 4))) (10, (ups F 4 ((F 4) + (1 : Int32))), G, (ups (ups (ups (ups (ups A 5 (ups (A 5) (F 4) p1)) 6 (ups (A 6) (F 4) p2)) 7 (ups (A 7) (F 4) p3)) 8 (ups (A 8) (F 4) p4)) 4 (ups (A 4) p2 (1 : Int32))), B)) (h15 : p1 = (4 : Int32) → ¬ p4 < 0 → p4 < (64 : Int32) → Q (some (.int (F 4))) (10, (ups F 4 ((F 4) + (1 : Int32))), G, (ups (ups (ups (ups (ups (ups A 5 (ups (A 5) (F 4) p1)) 6 (ups (A 6) (F 4) p2)) 7 (ups (A 7) (F 4) p3)) 8 (ups (A 8) (F 4) p4)) 4 (ups (A 4) p2 (1 : Int32))) 4 (ups (ups (A 4) p2 (1 : Int32)) p4 (1 : Int32))), B)) :
    Wk l Z (MoC Z cdC) md_storeRecord 0 [.val (.ref 0), .val (.int p1), .val (.int p2), .val (.int p3), .val (.int p4), .unset] [] (10, F, G, A, B) 0 0 Q := by
  refine Wk.aloadN o_storeRecord_0 rfl ?_
  refine Wk.getI (mI_nRec) (wf_nRec H) o_storeRecord_1 (x := (F 4)) rfl ?_
  refine Wk.istore o_storeRecord_4 (Or.inl rfl) (L' := [.val (.ref 0), .val (.int p1), .val (.int p2), .val (.int p3), .val (.int p4), .val (.int (F 4))]) rfl ?_
  refine Wk.aloadN o_storeRecord_6 rfl ?_
  refine Wk.getA (mA_recKind) (by decide) (i' := 6) rfl (wf_recKind H) o_storeRecord_7 ?_
  refine Wk.iload o_storeRecord_10 rfl ?_
  refine Wk.iloadN o_storeRecord_12 rfl ?_
  refine Wk.iastore (coC H) (f := (A 5)) (mA_recKind) rfl (by decide) (i' := 6) rfl s1 s2 o_storeRecord_13 ?_
  refine Wk.aloadN o_storeRecord_14 rfl ?_
  refine Wk.getA (mA_recOff) (by decide) (i' := 7) rfl (wf_recOff H) o_storeRecord_15 ?_
  refine Wk.iload o_storeRecord_18 rfl ?_
  refine Wk.iloadN o_storeRecord_20 rfl ?_
  refine Wk.iastore (coC H) (f := (A 6)) (mA_recOff) rfl (by decide) (i' := 7) rfl s1 s2 o_storeRecord_21 ?_
  refine Wk.aloadN o_storeRecord_22 rfl ?_
  refine Wk.getA (mA_recTarget) (by decide) (i' := 8) rfl (wf_recTarget H) o_storeRecord_23 ?_
  refine Wk.iload o_storeRecord_26 rfl ?_
  refine Wk.iloadN o_storeRecord_28 rfl ?_
  refine Wk.iastore (coC H) (f := (A 7)) (mA_recTarget) rfl (by decide) (i' := 8) rfl s1 s2 o_storeRecord_29 ?_
  refine Wk.aloadN o_storeRecord_30 rfl ?_
  refine Wk.getA (mA_recLoOff) (by decide) (i' := 9) rfl (wf_recLoOff H) o_storeRecord_31 ?_
  refine Wk.iload o_storeRecord_34 rfl ?_
  refine Wk.iload o_storeRecord_36 rfl ?_
  refine Wk.iastore (coC H) (f := (A 8)) (mA_recLoOff) rfl (by decide) (i' := 9) rfl s1 s2 o_storeRecord_38 ?_
  refine Wk.aloadN o_storeRecord_39 rfl ?_
  refine Wk.getA (mA_taken) (by decide) (i' := 5) rfl (wf_taken H) o_storeRecord_40 ?_
  refine Wk.iloadN o_storeRecord_43 rfl ?_
  refine Wk.iconst o_storeRecord_44 (z := (1 : Int32)) (by decide) ?_
  refine Wk.bastore (coC H) (f := (A 4)) (v' := (1 : Int32)) (by decide) (mA_taken) rfl (by decide) (i' := 5) rfl s3 s4 o_storeRecord_45 ?_
  refine Wk.iloadN o_storeRecord_46 rfl ?_
  refine Wk.iconst o_storeRecord_47 (z := (4 : Int32)) (by decide) ?_
  refine Wk.icmp_ne o_storeRecord_48 (fun q5 => ?_) (fun q5 => ?_)
  · refine Wk.aloadN o_storeRecord_71 rfl ?_
    refine Wk.aloadN o_storeRecord_72 rfl ?_
    refine Wk.getI (mI_nRec) (wf_nRec H) o_storeRecord_73 (x := (F 4)) rfl ?_
    refine Wk.iconst o_storeRecord_76 (z := (1 : Int32)) (by decide) ?_
    refine Wk.iadd o_storeRecord_77 ?_
    refine Wk.putI (coC H) (mI_nRec) (wf_nRec H) (Or.inl (wy_nRec H)) o_storeRecord_78 ?_
    refine Wk.iload o_storeRecord_81 rfl ?_
    exact Wk.ireturn mrC rfl o_storeRecord_83 rfl (by decide) (by decide) (h9 q5)
  · refine Wk.iload o_storeRecord_51 rfl ?_
    refine Wk.if_lt o_storeRecord_53 (fun q10 => ?_) (fun q10 => ?_)
    · refine Wk.aloadN o_storeRecord_71 rfl ?_
      refine Wk.aloadN o_storeRecord_72 rfl ?_
      refine Wk.getI (mI_nRec) (wf_nRec H) o_storeRecord_73 (x := (F 4)) rfl ?_
      refine Wk.iconst o_storeRecord_76 (z := (1 : Int32)) (by decide) ?_
      refine Wk.iadd o_storeRecord_77 ?_
      refine Wk.putI (coC H) (mI_nRec) (wf_nRec H) (Or.inl (wy_nRec H)) o_storeRecord_78 ?_
      refine Wk.iload o_storeRecord_81 rfl ?_
      exact Wk.ireturn mrC rfl o_storeRecord_83 rfl (by decide) (by decide) (h12 q5 q10)
    · refine Wk.iload o_storeRecord_56 rfl ?_
      refine Wk.bipush o_storeRecord_58 (z := (64 : Int32)) (by decide) ?_
      refine Wk.icmp_ge o_storeRecord_60 (fun q13 => ?_) (fun q13 => ?_)
      · refine Wk.aloadN o_storeRecord_71 rfl ?_
        refine Wk.aloadN o_storeRecord_72 rfl ?_
        refine Wk.getI (mI_nRec) (wf_nRec H) o_storeRecord_73 (x := (F 4)) rfl ?_
        refine Wk.iconst o_storeRecord_76 (z := (1 : Int32)) (by decide) ?_
        refine Wk.iadd o_storeRecord_77 ?_
        refine Wk.putI (coC H) (mI_nRec) (wf_nRec H) (Or.inl (wy_nRec H)) o_storeRecord_78 ?_
        refine Wk.iload o_storeRecord_81 rfl ?_
        exact Wk.ireturn mrC rfl o_storeRecord_83 rfl (by decide) (by decide) (h14 q5 q10 q13)
      · refine Wk.aloadN o_storeRecord_63 rfl ?_
        refine Wk.getA (mA_taken) (by decide) (i' := 5) rfl (wf_taken H) o_storeRecord_64 ?_
        refine Wk.iload o_storeRecord_67 rfl ?_
        refine Wk.iconst o_storeRecord_69 (z := (1 : Int32)) (by decide) ?_
        refine Wk.bastore (coC H) (f := (ups (A 4) p2 (1 : Int32))) (v' := (1 : Int32)) (by decide) (mA_taken) rfl (by decide) (i' := 5) rfl q10 q13 o_storeRecord_70 ?_
        refine Wk.aloadN o_storeRecord_71 rfl ?_
        refine Wk.aloadN o_storeRecord_72 rfl ?_
        refine Wk.getI (mI_nRec) (wf_nRec H) o_storeRecord_73 (x := (F 4)) rfl ?_
        refine Wk.iconst o_storeRecord_76 (z := (1 : Int32)) (by decide) ?_
        refine Wk.iadd o_storeRecord_77 ?_
        refine Wk.putI (coC H) (mI_nRec) (wf_nRec H) (Or.inl (wy_nRec H)) o_storeRecord_78 ?_
        refine Wk.iload o_storeRecord_81 rfl ?_
        exact Wk.ireturn mrC rfl o_storeRecord_83 rfl (by decide) (by decide) (h15 q5 q10 q13)

theorem rt_storeRecord (G : Nat → Int64) (B : Nat → Int32 → Int64) (v0 : Int32) (xF : Nat → Int32) (xA : Nat → Int32 → Int32) (r : Int32 × (Nat → Int32) × (Nat → Int32 → Int32)) (e : (v0, xF, xA) = r) : some (Value.int v0) = some (.int r.1) ∧ (10, xF, G, xA, B) = (10, r.2.1, G, r.2.2, B) := by subst e; exact ⟨rfl, rfl⟩
def en_storeRecord (F : Nat → Int32) (A : Nat → Int32 → Int32) (p1 : Int32) (p2 : Int32) (p3 : Int32) (p4 : Int32) : Option (Int32 × (Nat → Int32) × (Nat → Int32 → Int32)) := (if (¬ (F 4) < 0) ∧ ((F 4) < (32 : Int32)) ∧ (¬ p2 < 0) ∧ (p2 < (64 : Int32)) then (if p1 = (4 : Int32) then (if p4 < 0 then some ((F 4), (ups F 4 ((F 4) + (1 : Int32))), (ups (ups (ups (ups (ups A 5 (ups (A 5) (F 4) p1)) 6 (ups (A 6) (F 4) p2)) 7 (ups (A 7) (F 4) p3)) 8 (ups (A 8) (F 4) p4)) 4 (ups (A 4) p2 (1 : Int32)))) else (if p4 < (64 : Int32) then some ((F 4), (ups F 4 ((F 4) + (1 : Int32))), (ups (ups (ups (ups (ups (ups A 5 (ups (A 5) (F 4) p1)) 6 (ups (A 6) (F 4) p2)) 7 (ups (A 7) (F 4) p3)) 8 (ups (A 8) (F 4) p4)) 4 (ups (A 4) p2 (1 : Int32))) 4 (ups (ups (A 4) p2 (1 : Int32)) p4 (1 : Int32)))) else some ((F 4), (ups F 4 ((F 4) + (1 : Int32))), (ups (ups (ups (ups (ups A 5 (ups (A 5) (F 4) p1)) 6 (ups (A 6) (F 4) p2)) 7 (ups (A 7) (F 4) p3)) 8 (ups (A 8) (F 4) p4)) 4 (ups (A 4) p2 (1 : Int32)))))) else some ((F 4), (ups F 4 ((F 4) + (1 : Int32))), (ups (ups (ups (ups (ups A 5 (ups (A 5) (F 4) p1)) 6 (ups (A 6) (F 4) p2)) 7 (ups (A 7) (F 4) p3)) 8 (ups (A 8) (F 4) p4)) 4 (ups (A 4) p2 (1 : Int32))))) else none)
theorem een_storeRecord (F : Nat → Int32) (A : Nat → Int32 → Int32) (p1 : Int32) (p2 : Int32) (p3 : Int32) (p4 : Int32) : en_storeRecord F A p1 p2 p3 p4 = (if (¬ (F 4) < 0) ∧ ((F 4) < (32 : Int32)) ∧ (¬ p2 < 0) ∧ (p2 < (64 : Int32)) then (if p1 = (4 : Int32) then (if p4 < 0 then some ((F 4), (ups F 4 ((F 4) + (1 : Int32))), (ups (ups (ups (ups (ups A 5 (ups (A 5) (F 4) p1)) 6 (ups (A 6) (F 4) p2)) 7 (ups (A 7) (F 4) p3)) 8 (ups (A 8) (F 4) p4)) 4 (ups (A 4) p2 (1 : Int32)))) else (if p4 < (64 : Int32) then some ((F 4), (ups F 4 ((F 4) + (1 : Int32))), (ups (ups (ups (ups (ups (ups A 5 (ups (A 5) (F 4) p1)) 6 (ups (A 6) (F 4) p2)) 7 (ups (A 7) (F 4) p3)) 8 (ups (A 8) (F 4) p4)) 4 (ups (A 4) p2 (1 : Int32))) 4 (ups (ups (A 4) p2 (1 : Int32)) p4 (1 : Int32)))) else some ((F 4), (ups F 4 ((F 4) + (1 : Int32))), (ups (ups (ups (ups (ups A 5 (ups (A 5) (F 4) p1)) 6 (ups (A 6) (F 4) p2)) 7 (ups (A 7) (F 4) p3)) 8 (ups (A 8) (F 4) p4)) 4 (ups (A 4) p2 (1 : Int32)))))) else some ((F 4), (ups F 4 ((F 4) + (1 : Int32))), (ups (ups (ups (ups (ups A 5 (ups (A 5) (F 4) p1)) 6 (ups (A 6) (F 4) p2)) 7 (ups (A 7) (F 4) p3)) 8 (ups (A 8) (F 4) p4)) 4 (ups (A 4) p2 (1 : Int32))))) else none) := Eq.trans rfl rfl
def R_storeRecord (F : Nat → Int32) (A : Nat → Int32 → Int32) (p1 : Int32) (p2 : Int32) (p3 : Int32) (p4 : Int32) : Int32 × (Nat → Int32) × (Nat → Int32 → Int32) := (en_storeRecord F A p1 p2 p3 p4).getD (0, (fun _ => 0), (fun _ _ => 0))
theorem eR_storeRecord (F : Nat → Int32) (A : Nat → Int32 → Int32) (p1 : Int32) (p2 : Int32) (p3 : Int32) (p4 : Int32) : R_storeRecord F A p1 p2 p3 p4 = (en_storeRecord F A p1 p2 p3 p4).getD (0, (fun _ => 0), (fun _ _ => 0)) := Eq.trans rfl rfl
set_option maxRecDepth 65536 in
set_option maxHeartbeats 4000000 in
theorem run_storeRecord {l : Launch} {Z : State} {a0 : Array Value} (H : OK Z a0) (F : Nat → Int32) (G : Nat → Int64) (A : Nat → Int32 → Int32) (B : Nat → Int32 → Int64) (p1 : Int32) (p2 : Int32) (p3 : Int32) (p4 : Int32) (e1 : (en_storeRecord F A p1 p2 p3 p4).isSome = true) :
    Wk l Z (MoC Z cdC) md_storeRecord 0 [.val (.ref 0), .val (.int p1), .val (.int p2), .val (.int p3), .val (.int p4), .unset] [] (10, F, G, A, B) 0 0 (fun v w' => v = some (.int (R_storeRecord F A p1 p2 p3 p4).1) ∧ w' = (10, (R_storeRecord F A p1 p2 p3 p4).2.1, G, (R_storeRecord F A p1 p2 p3 p4).2.2, B)) := by
  obtain ⟨r, h⟩ := Option.isSome_iff_exists.mp e1
  have e : R_storeRecord F A p1 p2 p3 p4 = r := (eR_storeRecord F A p1 p2 p3 p4).trans (getD_some h)
  rw [e]
  rw [een_storeRecord] at h
  exact wp_storeRecord H F G A B p1 p2 p3 p4 ((gd h).1.1) ((gd h).1.2.1) ((gd h).1.2.2.1) ((gd h).1.2.2.2) (fun q5 => (rt_storeRecord _ _ _ _ _ r (Option.some.inj (ifn q5 (gd h).2)))) (fun q5 q10 => (rt_storeRecord _ _ _ _ _ r (Option.some.inj (ifp q10 (ifp q5 (gd h).2))))) (fun q5 q10 q13 => (rt_storeRecord _ _ _ _ _ r (Option.some.inj (ifn q13 (ifn q10 (ifp q5 (gd h).2)))))) (fun q5 q10 q13 => (rt_storeRecord _ _ _ _ _ r (Option.some.inj (ifp q13 (ifn q10 (ifp q5 (gd h).2))))))
set_option maxRecDepth 65536 in
set_option maxHeartbeats 4000000 in
theorem wp_addReloc {l : Launch} {Z : State} {a0 : Array Value} (H : OK Z a0) (F : Nat → Int32) (G : Nat → Int64) (A : Nat → Int32 → Int32) (B : Nat → Int32 → Int64) (p1 : Int32) (p2 : Int32) (p3 : Int32) (p4 : Int32) {Q : Option Value → WO → Prop} (h4 : (F 5) = 0 → (F 4) < (F 1) → p1 < (1 : Int32) → Q (some (.int (-2 : Int32))) (10, F, G, A, B)) (s6 : (F 5) = 0 → (F 4) < (F 1) → ¬ p1 < (1 : Int32) → ¬ (4 : Int32) < p1 → (en_validPos F A p2).isSome = true) (s12 : (F 5) = 0 → (F 4) < (F 1) → ¬ p1 < (1 : Int32) → ¬ (4 : Int32) < p1 → ¬ (R_validPos F A p2) = 0 → ¬ (f_validTarget F p3) = 0 → (if p1 = (4 : Int32) then (1 : Int32) else (0 : Int32)) = 0 → (en_offsetOf A p2).isSome = true) (s14 : (F 5) = 0 → (F 4) < (F 1) → ¬ p1 < (1 : Int32) → ¬ (4 : Int32) < p1 → ¬ (R_validPos F A p2) = 0 → ¬ (f_validTarget F p3) = 0 → (if p1 = (4 : Int32) then (1 : Int32) else (0 : Int32)) = 0 → ¬ (if p1 = (4 : Int32) then (1 : Int32) else (0 : Int32)) = 0 → (en_offsetOf A p4).isSome = true) (s16 : (F 5) = 0 → (F 4) < (F 1) → ¬ p1 < (1 : Int32) → ¬ (4 : Int32) < p1 → ¬ (R_validPos F A p2) = 0 → ¬ (f_validTarget F p3) = 0 → (if p1 = (4 : Int32) then (1 : Int32) else (0 : Int32)) = 0 → ¬ (R_offsetOf A p2) < 0) (s17 : (F 5) = 0 → (F 4) < (F 1) → ¬ p1 < (1 : Int32) → ¬ (4 : Int32) < p1 → ¬ (R_validPos F A p2) = 0 → ¬ (f_validTarget F p3) = 0 → (if p1 = (4 : Int32) then (1 : Int32) else (0 : Int32)) = 0 → (R_offsetOf A p2) < (64 : Int32)) (h19 : (F 5) = 0 → (F 4) < (F 1) → ¬ p1 < (1 : Int32) → ¬ (4 : Int32) < p1 → ¬ (R_validPos F A p2) = 0 → ¬ (f_validTarget F p3) = 0 → (if p1 = (4 : Int32) then (1 : Int32) else (0 : Int32)) = 0 → ¬ ((A 4) (R_offsetOf A p2)) = 0 → Q (some (.int (-4 : Int32))) (10, F, G, A, B)) (s21 : (F 5) = 0 → (F 4) < (F 1) → ¬ p1 < (1 : Int32) → ¬ (4 : Int32) < p1 → ¬ (R_validPos F A p2) = 0 → ¬ (f_validTarget F p3) = 0 → (if p1 = (4 : Int32) then (1 : Int32) else (0 : Int32)) = 0 → ((A 4) (R_offsetOf A p2)) = 0 → (if p1 = (4 : Int32) then (1 : Int32) else (0 : Int32)) = 0 → (en_storeRecord F A p1 (R_offsetOf A p2) p3 (if (if p1 = (4 : Int32) then (1 : Int32) else (0 : Int32)) = 0 then (-1 : Int32) else (R_offsetOf A p4))).isSome = true) (h22 : (F 5) = 0 → (F 4) < (F 1) → ¬ p1 < (1 : Int32) → ¬ (4 : Int32) < p1 → ¬ (R_validPos F A p2) = 0 → ¬ (f_validTarget F p3) = 0 → (if p1 = (4 : Int32) then (1 : Int32) else (0 : Int32)) = 0 → ((A 4) (R_offsetOf A p2)) = 0 → (if p1 = (4 : Int32) then (1 : Int32) else (0 : Int32)) = 0 → Q (some (.int (R_storeRecord F A p1 (R_offsetOf A p2) p3 (if (if p1 = (4 : Int32) then (1 : Int32) else (0 : Int32)) = 0 then (-1 : Int32) else (R_offsetOf A p4))).1)) (10, (R_storeRecord F A p1 (R_offsetOf A p2) p3 (if (if p1 = (4 : Int32) then (1 : Int32) else (0 : Int32)) = 0 then (-1 : Int32) else (R_offsetOf A p4))).2.1, G, (R_storeRecord F A p1 (R_offsetOf A p2) p3 (if (if p1 = (4 : Int32) then (1 : Int32) else (0 : Int32)) = 0 then (-1 : Int32) else (R_offsetOf A p4))).2.2, B)) (s23 : (F 5) = 0 → (F 4) < (F 1) → ¬ p1 < (1 : Int32) → ¬ (4 : Int32) < p1 → ¬ (R_validPos F A p2) = 0 → ¬ (f_validTarget F p3) = 0 → (if p1 = (4 : Int32) then (1 : Int32) else (0 : Int32)) = 0 → ((A 4) (R_offsetOf A p2)) = 0 → ¬ (if p1 = (4 : Int32) then (1 : Int32) else (0 : Int32)) = 0 → ¬ (if (if p1 = (4 : Int32) then (1 : Int32) else (0 : Int32)) = 0 then (-1 : Int32) else (R_offsetOf A p4)) < 0) (s24 : (F 5) = 0 → (F 4) < (F 1) → ¬ p1 < (1 : Int32) → ¬ (4 : Int32) < p1 → ¬ (R_validPos F A p2) = 0 → ¬ (f_validTarget F p3) = 0 → (if p1 = (4 : Int32) then (1 : Int32) else (0 : Int32)) = 0 → ((A 4) (R_offsetOf A p2)) = 0 → ¬ (if p1 = (4 : Int32) then (1 : Int32) else (0 : Int32)) = 0 → (if (if p1 = (4 : Int32) then (1 : Int32) else (0 : Int32)) = 0 then (-1 : Int32) else (R_offsetOf A p4)) < (64 : Int32)) (s26 : (F 5) = 0 → (F 4) < (F 1) → ¬ p1 < (1 : Int32) → ¬ (4 : Int32) < p1 → ¬ (R_validPos F A p2) = 0 → ¬ (f_validTarget F p3) = 0 → (if p1 = (4 : Int32) then (1 : Int32) else (0 : Int32)) = 0 → ((A 4) (R_offsetOf A p2)) = 0 → ¬ (if p1 = (4 : Int32) then (1 : Int32) else (0 : Int32)) = 0 → ((A 4) (if (if p1 = (4 : Int32) then (1 : Int32) else (0 : Int32)) = 0 then (-1 : Int32) else (R_offsetOf A p4))) = 0 → (en_storeRecord F A p1 (R_offsetOf A p2) p3 (if (if p1 = (4 : Int32) then (1 : Int32) else (0 : Int32)) = 0 then (-1 : Int32) else (R_offsetOf A p4))).isSome = true) (h27 : (F 5) = 0 → (F 4) < (F 1) → ¬ p1 < (1 : Int32) → ¬ (4 : Int32) < p1 → ¬ (R_validPos F A p2) = 0 → ¬ (f_validTarget F p3) = 0 → (if p1 = (4 : Int32) then (1 : Int32) else (0 : Int32)) = 0 → ((A 4) (R_offsetOf A p2)) = 0 → ¬ (if p1 = (4 : Int32) then (1 : Int32) else (0 : Int32)) = 0 → ((A 4) (if (if p1 = (4 : Int32) then (1 : Int32) else (0 : Int32)) = 0 then (-1 : Int32) else (R_offsetOf A p4))) = 0 → Q (some (.int (R_storeRecord F A p1 (R_offsetOf A p2) p3 (if (if p1 = (4 : Int32) then (1 : Int32) else (0 : Int32)) = 0 then (-1 : Int32) else (R_offsetOf A p4))).1)) (10, (R_storeRecord F A p1 (R_offsetOf A p2) p3 (if (if p1 = (4 : Int32) then (1 : Int32) else (0 : Int32)) = 0 then (-1 : Int32) else (R_offsetOf A p4))).2.1, G, (R_storeRecord F A p1 (R_offsetOf A p2) p3 (if (if p1 = (4 : Int32) then (1 : Int32) else (0 : Int32)) = 0 then (-1 : Int32) else (R_offsetOf A p4))).2.2, B)) (h28 : (F 5) = 0 → (F 4) < (F 1) → ¬ p1 < (1 : Int32) → ¬ (4 : Int32) < p1 → ¬ (R_validPos F A p2) = 0 → ¬ (f_validTarget F p3) = 0 → (if p1 = (4 : Int32) then (1 : Int32) else (0 : Int32)) = 0 → ((A 4) (R_offsetOf A p2)) = 0 → ¬ (if p1 = (4 : Int32) then (1 : Int32) else (0 : Int32)) = 0 → ¬ ((A 4) (if (if p1 = (4 : Int32) then (1 : Int32) else (0 : Int32)) = 0 then (-1 : Int32) else (R_offsetOf A p4))) = 0 → Q (some (.int (-4 : Int32))) (10, F, G, A, B)) (s29 : (F 5) = 0 → (F 4) < (F 1) → ¬ p1 < (1 : Int32) → ¬ (4 : Int32) < p1 → ¬ (R_validPos F A p2) = 0 → ¬ (f_validTarget F p3) = 0 → ¬ (if p1 = (4 : Int32) then (1 : Int32) else (0 : Int32)) = 0 → (en_validPos F A p4).isSome = true) (h31 : (F 5) = 0 → (F 4) < (F 1) → ¬ p1 < (1 : Int32) → ¬ (4 : Int32) < p1 → ¬ (R_validPos F A p2) = 0 → ¬ (f_validTarget F p3) = 0 → ¬ (if p1 = (4 : Int32) then (1 : Int32) else (0 : Int32)) = 0 → (R_validPos F A p4) = 0 → Q (some (.int (-2 : Int32))) (10, F, G, A, B)) (s33 : (F 5) = 0 → (F 4) < (F 1) → ¬ p1 < (1 : Int32) → ¬ (4 : Int32) < p1 → ¬ (R_validPos F A p2) = 0 → ¬ (f_validTarget F p3) = 0 → ¬ (if p1 = (4 : Int32) then (1 : Int32) else (0 : Int32)) = 0 → ¬ (R_validPos F A p4) = 0 → ¬ p4 = p2 → (en_offsetOf A p2).isSome = true) (s35 : (F 5) = 0 → (F 4) < (F 1) → ¬ p1 < (1 : Int32) → ¬ (4 : Int32) < p1 → ¬ (R_validPos F A p2) = 0 → ¬ (f_validTarget F p3) = 0 → ¬ (if p1 = (4 : Int32) then (1 : Int32) else (0 : Int32)) = 0 → ¬ (R_validPos F A p4) = 0 → ¬ p4 = p2 → ¬ (if p1 = (4 : Int32) then (1 : Int32) else (0 : Int32)) = 0 → (en_offsetOf A p4).isSome = true) (s37 : (F 5) = 0 → (F 4) < (F 1) → ¬ p1 < (1 : Int32) → ¬ (4 : Int32) < p1 → ¬ (R_validPos F A p2) = 0 → ¬ (f_validTarget F p3) = 0 → ¬ (if p1 = (4 : Int32) then (1 : Int32) else (0 : Int32)) = 0 → ¬ (R_validPos F A p4) = 0 → ¬ p4 = p2 → ¬ (R_offsetOf A p2) < 0) (s38 : (F 5) = 0 → (F 4) < (F 1) → ¬ p1 < (1 : Int32) → ¬ (4 : Int32) < p1 → ¬ (R_validPos F A p2) = 0 → ¬ (f_validTarget F p3) = 0 → ¬ (if p1 = (4 : Int32) then (1 : Int32) else (0 : Int32)) = 0 → ¬ (R_validPos F A p4) = 0 → ¬ p4 = p2 → (R_offsetOf A p2) < (64 : Int32)) (h40 : (F 5) = 0 → (F 4) < (F 1) → ¬ p1 < (1 : Int32) → ¬ (4 : Int32) < p1 → ¬ (R_validPos F A p2) = 0 → ¬ (f_validTarget F p3) = 0 → ¬ (if p1 = (4 : Int32) then (1 : Int32) else (0 : Int32)) = 0 → ¬ (R_validPos F A p4) = 0 → ¬ p4 = p2 → ¬ ((A 4) (R_offsetOf A p2)) = 0 → Q (some (.int (-4 : Int32))) (10, F, G, A, B)) (s42 : (F 5) = 0 → (F 4) < (F 1) → ¬ p1 < (1 : Int32) → ¬ (4 : Int32) < p1 → ¬ (R_validPos F A p2) = 0 → ¬ (f_validTarget F p3) = 0 → ¬ (if p1 = (4 : Int32) then (1 : Int32) else (0 : Int32)) = 0 → ¬ (R_validPos F A p4) = 0 → ¬ p4 = p2 → ((A 4) (R_offsetOf A p2)) = 0 → (if p1 = (4 : Int32) then (1 : Int32) else (0 : Int32)) = 0 → (en_storeRecord F A p1 (R_offsetOf A p2) p3 (if (if p1 = (4 : Int32) then (1 : Int32) else (0 : Int32)) = 0 then (-1 : Int32) else (R_offsetOf A p4))).isSome = true) (h43 : (F 5) = 0 → (F 4) < (F 1) → ¬ p1 < (1 : Int32) → ¬ (4 : Int32) < p1 → ¬ (R_validPos F A p2) = 0 → ¬ (f_validTarget F p3) = 0 → ¬ (if p1 = (4 : Int32) then (1 : Int32) else (0 : Int32)) = 0 → ¬ (R_validPos F A p4) = 0 → ¬ p4 = p2 → ((A 4) (R_offsetOf A p2)) = 0 → (if p1 = (4 : Int32) then (1 : Int32) else (0 : Int32)) = 0 → Q (some (.int (R_storeRecord F A p1 (R_offsetOf A p2) p3 (if (if p1 = (4 : Int32) then (1 : Int32) else (0 : Int32)) = 0 then (-1 : Int32) else (R_offsetOf A p4))).1)) (10, (R_storeRecord F A p1 (R_offsetOf A p2) p3 (if (if p1 = (4 : Int32) then (1 : Int32) else (0 : Int32)) = 0 then (-1 : Int32) else (R_offsetOf A p4))).2.1, G, (R_storeRecord F A p1 (R_offsetOf A p2) p3 (if (if p1 = (4 : Int32) then (1 : Int32) else (0 : Int32)) = 0 then (-1 : Int32) else (R_offsetOf A p4))).2.2, B)) (s44 : (F 5) = 0 → (F 4) < (F 1) → ¬ p1 < (1 : Int32) → ¬ (4 : Int32) < p1 → ¬ (R_validPos F A p2) = 0 → ¬ (f_validTarget F p3) = 0 → ¬ (if p1 = (4 : Int32) then (1 : Int32) else (0 : Int32)) = 0 → ¬ (R_validPos F A p4) = 0 → ¬ p4 = p2 → ((A 4) (R_offsetOf A p2)) = 0 → ¬ (if p1 = (4 : Int32) then (1 : Int32) else (0 : Int32)) = 0 → ¬ (if (if p1 = (4 : Int32) then (1 : Int32) else (0 : Int32)) = 0 then (-1 : Int32) else (R_offsetOf A p4)) < 0) (s45 : (F 5) = 0 → (F 4) < (F 1) → ¬ p1 < (1 : Int32) → ¬ (4 : Int32) < p1 → ¬ (R_validPos F A p2) = 0 → ¬ (f_validTarget F p3) = 0 → ¬ (if p1 = (4 : Int32) then (1 : Int32) else (0 : Int32)) = 0 → ¬ (R_validPos F A p4) = 0 → ¬ p4 = p2 → ((A 4) (R_offsetOf A p2)) = 0 → ¬ (if p1 = (4 : Int32) then (1 : Int32) else (0 : Int32)) = 0 → (if (if p1 = (4 : Int32) then (1 : Int32) else (0 : Int32)) = 0 then (-1 : Int32) else (R_offsetOf A p4)) < (64 : Int32)) (s47 : (F 5) = 0 → (F 4) < (F 1) → ¬ p1 < (1 : Int32) → ¬ (4 : Int32) < p1 → ¬ (R_validPos F A p2) = 0 → ¬ (f_validTarget F p3) = 0 → ¬ (if p1 = (4 : Int32) then (1 : Int32) else (0 : Int32)) = 0 → ¬ (R_validPos F A p4) = 0 → ¬ p4 = p2 → ((A 4) (R_offsetOf A p2)) = 0 → ¬ (if p1 = (4 : Int32) then (1 : Int32) else (0 : Int32)) = 0 → ((A 4) (if (if p1 = (4 : Int32) then (1 : Int32) else (0 : Int32)) = 0 then (-1 : Int32) else (R_offsetOf A p4))) = 0 → (en_storeRecord F A p1 (R_offsetOf A p2) p3 (if (if p1 = (4 : Int32) then (1 : Int32) else (0 : Int32)) = 0 then (-1 : Int32) else (R_offsetOf A p4))).isSome = true) (h48 : (F 5) = 0 → (F 4) < (F 1) → ¬ p1 < (1 : Int32) → ¬ (4 : Int32) < p1 → ¬ (R_validPos F A p2) = 0 → ¬ (f_validTarget F p3) = 0 → ¬ (if p1 = (4 : Int32) then (1 : Int32) else (0 : Int32)) = 0 → ¬ (R_validPos F A p4) = 0 → ¬ p4 = p2 → ((A 4) (R_offsetOf A p2)) = 0 → ¬ (if p1 = (4 : Int32) then (1 : Int32) else (0 : Int32)) = 0 → ((A 4) (if (if p1 = (4 : Int32) then (1 : Int32) else (0 : Int32)) = 0 then (-1 : Int32) else (R_offsetOf A p4))) = 0 → Q (some (.int (R_storeRecord F A p1 (R_offsetOf A p2) p3 (if (if p1 = (4 : Int32) then (1 : Int32) else (0 : Int32)) = 0 then (-1 : Int32) else (R_offsetOf A p4))).1)) (10, (R_storeRecord F A p1 (R_offsetOf A p2) p3 (if (if p1 = (4 : Int32) then (1 : Int32) else (0 : Int32)) = 0 then (-1 : Int32) else (R_offsetOf A p4))).2.1, G, (R_storeRecord F A p1 (R_offsetOf A p2) p3 (if (if p1 = (4 : Int32) then (1 : Int32) else (0 : Int32)) = 0 then (-1 : Int32) else (R_offsetOf A p4))).2.2, B)) (h49 : (F 5) = 0 → (F 4) < (F 1) → ¬ p1 < (1 : Int32) → ¬ (4 : Int32) < p1 → ¬ (R_validPos F A p2) = 0 → ¬ (f_validTarget F p3) = 0 → ¬ (if p1 = (4 : Int32) then (1 : Int32) else (0 : Int32)) = 0 → ¬ (R_validPos F A p4) = 0 → ¬ p4 = p2 → ((A 4) (R_offsetOf A p2)) = 0 → ¬ (if p1 = (4 : Int32) then (1 : Int32) else (0 : Int32)) = 0 → ¬ ((A 4) (if (if p1 = (4 : Int32) then (1 : Int32) else (0 : Int32)) = 0 then (-1 : Int32) else (R_offsetOf A p4))) = 0 → Q (some (.int (-4 : Int32))) (10, F, G, A, B)) (h50 : (F 5) = 0 → (F 4) < (F 1) → ¬ p1 < (1 : Int32) → ¬ (4 : Int32) < p1 → ¬ (R_validPos F A p2) = 0 → ¬ (f_validTarget F p3) = 0 → ¬ (if p1 = (4 : Int32) then (1 : Int32) else (0 : Int32)) = 0 → ¬ (R_validPos F A p4) = 0 → p4 = p2 → Q (some (.int (-2 : Int32))) (10, F, G, A, B)) (h51 : (F 5) = 0 → (F 4) < (F 1) → ¬ p1 < (1 : Int32) → ¬ (4 : Int32) < p1 → ¬ (R_validPos F A p2) = 0 → (f_validTarget F p3) = 0 → Q (some (.int (-2 : Int32))) (10, F, G, A, B)) (h52 : (F 5) = 0 → (F 4) < (F 1) → ¬ p1 < (1 : Int32) → ¬ (4 : Int32) < p1 → (R_validPos F A p2) = 0 → Q (some (.int (-2 : Int32))) (10, F, G, A, B)) (h53 : (F 5) = 0 → (F 4) < (F 1) → ¬ p1 < (1 : Int32) → (4 : Int32) < p1 → Q (some (.int (-2 : Int32))) (10, F, G, A, B)) (h54 : (F 5) = 0 → ¬ (F 4) < (F 1) → Q (some (.int (-3 : Int32))) (10, F, G, A, B)) (h55 : ¬ (F 5) = 0 → Q (some (.int (-1 : Int32))) (10, F, G, A, B)) :
    Wk l Z (MoC Z cdC) md_addReloc 0 [.val (.ref 0), .val (.int p1), .val (.int p2), .val (.int p3), .val (.int p4), .unset, .unset, .unset] [] (10, F, G, A, B) 0 0 Q := by
  refine Wk.aloadN o_addReloc_0 rfl ?_
  refine Wk.getI (mI_state) (wf_state H) o_addReloc_1 (x := (F 5)) rfl ?_
  refine Wk.if_eq o_addReloc_4 (fun q1 => ?_) (fun q1 => ?_)
  · refine Wk.aloadN o_addReloc_9 rfl ?_
    refine Wk.getI (mI_nRec) (wf_nRec H) o_addReloc_10 (x := (F 4)) rfl ?_
    refine Wk.aloadN o_addReloc_13 rfl ?_
    refine Wk.getI (mI_maxRec) (wf_maxRec H) o_addReloc_14 (x := (F 1)) rfl ?_
    refine Wk.icmp_lt o_addReloc_17 (fun q2 => ?_) (fun q2 => ?_)
    · refine Wk.iloadN o_addReloc_23 rfl ?_
      refine Wk.iconst o_addReloc_24 (z := (1 : Int32)) (by decide) ?_
      refine Wk.icmp_lt o_addReloc_25 (fun q3 => ?_) (fun q3 => ?_)
      · refine Wk.bipush o_addReloc_33 (z := (-2 : Int32)) (by decide) ?_
        exact Wk.ireturn mrC rfl o_addReloc_35 rfl (by decide) (by decide) (h4 q1 q2 q3)
      · refine Wk.iloadN o_addReloc_28 rfl ?_
        refine Wk.iconst o_addReloc_29 (z := (4 : Int32)) (by decide) ?_
        refine Wk.icmp_le o_addReloc_30 (fun q5 => ?_) (fun q5 => ?_)
        · refine Wk.aloadN o_addReloc_36 rfl ?_
          refine Wk.iloadN o_addReloc_37 rfl ?_
          refine Wk.callF [.int p2] [] (H.w 70 rfl) (cv_validPos H) o_addReloc_38 (run_validPos H F G A B p2 (s6 q1 q2 q3 q5)) (wt := 0) (cu' := 0) (su' := 0) (by decide) rfl rfl rfl rfl rfl rfl rfl ?_
          refine Wk.if_ne o_addReloc_41 (fun q7 => ?_) (fun q7 => ?_)
          · refine Wk.aloadN o_addReloc_47 rfl ?_
            refine Wk.iloadN o_addReloc_48 rfl ?_
            refine Wk.callF [.int p3] [] (H.w 90 rfl) (cv_validTarget H) o_addReloc_49 (run_validTarget H F G A B p3) (wt := 0) (cu' := 0) (su' := 0) (by decide) rfl rfl rfl rfl rfl rfl rfl ?_
            refine Wk.if_ne o_addReloc_52 (fun q8 => ?_) (fun q8 => ?_)
            · refine Wk.iloadN o_addReloc_58 rfl ?_
              refine Wk.iconst o_addReloc_59 (z := (4 : Int32)) (by decide) ?_
              have J10 : Wk l Z (MoC Z cdC) md_addReloc 68 [.val (.ref 0), .val (.int p1), .val (.int p2), .val (.int p3), .val (.int p4), .unset, .unset, .unset] [.int (if p1 = (4 : Int32) then (1 : Int32) else (0 : Int32))] (10, F, G, A, B) 0 0 Q := by
                refine Wk.istore o_addReloc_68 (Or.inl rfl) (L' := [.val (.ref 0), .val (.int p1), .val (.int p2), .val (.int p3), .val (.int p4), .val (.int (if p1 = (4 : Int32) then (1 : Int32) else (0 : Int32))), .unset, .unset]) rfl ?_
                refine Wk.iload o_addReloc_70 rfl ?_
                refine Wk.if_eq o_addReloc_72 (fun q11 => ?_) (fun q11 => ?_)
                · refine Wk.aloadN o_addReloc_93 rfl ?_
                  refine Wk.iloadN o_addReloc_94 rfl ?_
                  refine Wk.callF [.int p2] [] (H.w 74 rfl) (cv_offsetOf H) o_addReloc_95 (run_offsetOf H F G A B p2 (s12 q1 q2 q3 q5 q7 q8 q11)) (wt := 0) (cu' := 0) (su' := 0) (by decide) rfl rfl rfl rfl rfl rfl rfl ?_
                  refine Wk.istore o_addReloc_98 (Or.inl rfl) (L' := [.val (.ref 0), .val (.int p1), .val (.int p2), .val (.int p3), .val (.int p4), .val (.int (if p1 = (4 : Int32) then (1 : Int32) else (0 : Int32))), .val (.int (R_offsetOf A p2)), .unset]) rfl ?_
                  refine Wk.iconst o_addReloc_100 (z := (-1 : Int32)) (by decide) ?_
                  refine Wk.istore o_addReloc_101 (Or.inl rfl) (L' := [.val (.ref 0), .val (.int p1), .val (.int p2), .val (.int p3), .val (.int p4), .val (.int (if p1 = (4 : Int32) then (1 : Int32) else (0 : Int32))), .val (.int (R_offsetOf A p2)), .val (.int (-1 : Int32))]) rfl ?_
                  refine Wk.iload o_addReloc_103 rfl ?_
                  have J15 : Wk l Z (MoC Z cdC) md_addReloc 116 [.val (.ref 0), .val (.int p1), .val (.int p2), .val (.int p3), .val (.int p4), .val (.int (if p1 = (4 : Int32) then (1 : Int32) else (0 : Int32))), .val (.int (R_offsetOf A p2)), .val (.int (if (if p1 = (4 : Int32) then (1 : Int32) else (0 : Int32)) = 0 then (-1 : Int32) else (R_offsetOf A p4)))] [] (10, F, G, A, B) 0 0 Q := by
                    refine Wk.aloadN o_addReloc_116 rfl ?_
                    refine Wk.getA (mA_taken) (by decide) (i' := 5) rfl (wf_taken H) o_addReloc_117 ?_
                    refine Wk.iload o_addReloc_120 rfl ?_
                    refine Wk.baload (mA_taken) (by decide) (i' := 5) rfl (s16 q1 q2 q3 q5 q7 q8 q11) (s17 q1 q2 q3 q5 q7 q8 q11) o_addReloc_122 (y := ((A 4) (R_offsetOf A p2))) rfl ?_
                    refine Wk.if_ne o_addReloc_123 (fun q18 => ?_) (fun q18 => ?_)
                    · refine Wk.bipush o_addReloc_141 (z := (-4 : Int32)) (by decide) ?_
                      exact Wk.ireturn mrC rfl o_addReloc_143 rfl (by decide) (by decide) (h19 q1 q2 q3 q5 q7 q8 q11 q18)
                    · refine Wk.iload o_addReloc_126 rfl ?_
                      refine Wk.if_eq o_addReloc_128 (fun q20 => ?_) (fun q20 => ?_)
                      · refine Wk.aloadN o_addReloc_144 rfl ?_
                        refine Wk.iloadN o_addReloc_145 rfl ?_
                        refine Wk.iload o_addReloc_146 rfl ?_
                        refine Wk.iloadN o_addReloc_148 rfl ?_
                        refine Wk.iload o_addReloc_149 rfl ?_
                        refine Wk.callF [.int p1, .int (R_offsetOf A p2), .int p3, .int (if (if p1 = (4 : Int32) then (1 : Int32) else (0 : Int32)) = 0 then (-1 : Int32) else (R_offsetOf A p4))] [] (H.w 94 rfl) (cv_storeRecord H) o_addReloc_151 (run_storeRecord H F G A B p1 (R_offsetOf A p2) p3 (if (if p1 = (4 : Int32) then (1 : Int32) else (0 : Int32)) = 0 then (-1 : Int32) else (R_offsetOf A p4)) (s21 q1 q2 q3 q5 q7 q8 q11 q18 q20)) (wt := 0) (cu' := 0) (su' := 0) (by decide) rfl rfl rfl (al_storeRecord _ _ _ _) rfl rfl rfl ?_
                        exact Wk.ireturn mrC rfl o_addReloc_154 rfl (by decide) (by decide) (h22 q1 q2 q3 q5 q7 q8 q11 q18 q20)
                      · refine Wk.aloadN o_addReloc_131 rfl ?_
                        refine Wk.getA (mA_taken) (by decide) (i' := 5) rfl (wf_taken H) o_addReloc_132 ?_
                        refine Wk.iload o_addReloc_135 rfl ?_
                        refine Wk.baload (mA_taken) (by decide) (i' := 5) rfl (s23 q1 q2 q3 q5 q7 q8 q11 q18 q20) (s24 q1 q2 q3 q5 q7 q8 q11 q18 q20) o_addReloc_137 (y := ((A 4) (if (if p1 = (4 : Int32) then (1 : Int32) else (0 : Int32)) = 0 then (-1 : Int32) else (R_offsetOf A p4)))) rfl ?_
                        refine Wk.if_eq o_addReloc_138 (fun q25 => ?_) (fun q25 => ?_)
                        · refine Wk.aloadN o_addReloc_144 rfl ?_
                          refine Wk.iloadN o_addReloc_145 rfl ?_
                          refine Wk.iload o_addReloc_146 rfl ?_
                          refine Wk.iloadN o_addReloc_148 rfl ?_
                          refine Wk.iload o_addReloc_149 rfl ?_
                          refine Wk.callF [.int p1, .int (R_offsetOf A p2), .int p3, .int (if (if p1 = (4 : Int32) then (1 : Int32) else (0 : Int32)) = 0 then (-1 : Int32) else (R_offsetOf A p4))] [] (H.w 94 rfl) (cv_storeRecord H) o_addReloc_151 (run_storeRecord H F G A B p1 (R_offsetOf A p2) p3 (if (if p1 = (4 : Int32) then (1 : Int32) else (0 : Int32)) = 0 then (-1 : Int32) else (R_offsetOf A p4)) (s26 q1 q2 q3 q5 q7 q8 q11 q18 q20 q25)) (wt := 0) (cu' := 0) (su' := 0) (by decide) rfl rfl rfl (al_storeRecord _ _ _ _) rfl rfl rfl ?_
                          exact Wk.ireturn mrC rfl o_addReloc_154 rfl (by decide) (by decide) (h27 q1 q2 q3 q5 q7 q8 q11 q18 q20 q25)
                        · refine Wk.bipush o_addReloc_141 (z := (-4 : Int32)) (by decide) ?_
                          exact Wk.ireturn mrC rfl o_addReloc_143 rfl (by decide) (by decide) (h28 q1 q2 q3 q5 q7 q8 q11 q18 q20 q25)
                  refine Wk.if_eq o_addReloc_105 (fun q13 => ?_) (fun q13 => ?_)
                  · first | (rw [show ((if (if p1 = (4 : Int32) then (1 : Int32) else (0 : Int32)) = 0 then (-1 : Int32) else (R_offsetOf A p4)) : Int32) = (-1 : Int32) from if_pos q13] at J15; exact J15) | exact J15 | (simp only [if_pos q13] at J15 ⊢; exact J15)
                  · refine Wk.aloadN o_addReloc_108 rfl ?_
                    refine Wk.iload o_addReloc_109 rfl ?_
                    refine Wk.callF [.int p4] [] (H.w 74 rfl) (cv_offsetOf H) o_addReloc_111 (run_offsetOf H F G A B p4 (s14 q1 q2 q3 q5 q7 q8 q11 q13)) (wt := 0) (cu' := 0) (su' := 0) (by decide) rfl rfl rfl rfl rfl rfl rfl ?_
                    refine Wk.istore o_addReloc_114 (Or.inr ⟨_, rfl, rfl⟩) (L' := [.val (.ref 0), .val (.int p1), .val (.int p2), .val (.int p3), .val (.int p4), .val (.int (if p1 = (4 : Int32) then (1 : Int32) else (0 : Int32))), .val (.int (R_offsetOf A p2)), .val (.int (R_offsetOf A p4))]) rfl ?_
                    first | (rw [show ((if (if p1 = (4 : Int32) then (1 : Int32) else (0 : Int32)) = 0 then (-1 : Int32) else (R_offsetOf A p4)) : Int32) = (R_offsetOf A p4) from if_neg q13] at J15; exact J15) | exact J15 | (simp only [if_neg q13] at J15 ⊢; exact J15)
                · refine Wk.aloadN o_addReloc_75 rfl ?_
                  refine Wk.iload o_addReloc_76 rfl ?_
                  refine Wk.callF [.int p4] [] (H.w 70 rfl) (cv_validPos H) o_addReloc_78 (run_validPos H F G A B p4 (s29 q1 q2 q3 q5 q7 q8 q11)) (wt := 0) (cu' := 0) (su' := 0) (by decide) rfl rfl rfl rfl rfl rfl rfl ?_
                  refine Wk.if_eq o_addReloc_81 (fun q30 => ?_) (fun q30 => ?_)
                  · refine Wk.bipush o_addReloc_90 (z := (-2 : Int32)) (by decide) ?_
                    exact Wk.ireturn mrC rfl o_addReloc_92 rfl (by decide) (by decide) (h31 q1 q2 q3 q5 q7 q8 q11 q30)
                  · refine Wk.iload o_addReloc_84 rfl ?_
                    refine Wk.iloadN o_addReloc_86 rfl ?_
                    refine Wk.icmp_ne o_addReloc_87 (fun q32 => ?_) (fun q32 => ?_)
                    · refine Wk.aloadN o_addReloc_93 rfl ?_
                      refine Wk.iloadN o_addReloc_94 rfl ?_
                      refine Wk.callF [.int p2] [] (H.w 74 rfl) (cv_offsetOf H) o_addReloc_95 (run_offsetOf H F G A B p2 (s33 q1 q2 q3 q5 q7 q8 q11 q30 q32)) (wt := 0) (cu' := 0) (su' := 0) (by decide) rfl rfl rfl rfl rfl rfl rfl ?_
                      refine Wk.istore o_addReloc_98 (Or.inl rfl) (L' := [.val (.ref 0), .val (.int p1), .val (.int p2), .val (.int p3), .val (.int p4), .val (.int (if p1 = (4 : Int32) then (1 : Int32) else (0 : Int32))), .val (.int (R_offsetOf A p2)), .unset]) rfl ?_
                      refine Wk.iconst o_addReloc_100 (z := (-1 : Int32)) (by decide) ?_
                      refine Wk.istore o_addReloc_101 (Or.inl rfl) (L' := [.val (.ref 0), .val (.int p1), .val (.int p2), .val (.int p3), .val (.int p4), .val (.int (if p1 = (4 : Int32) then (1 : Int32) else (0 : Int32))), .val (.int (R_offsetOf A p2)), .val (.int (-1 : Int32))]) rfl ?_
                      refine Wk.iload o_addReloc_103 rfl ?_
                      have J36 : Wk l Z (MoC Z cdC) md_addReloc 116 [.val (.ref 0), .val (.int p1), .val (.int p2), .val (.int p3), .val (.int p4), .val (.int (if p1 = (4 : Int32) then (1 : Int32) else (0 : Int32))), .val (.int (R_offsetOf A p2)), .val (.int (if (if p1 = (4 : Int32) then (1 : Int32) else (0 : Int32)) = 0 then (-1 : Int32) else (R_offsetOf A p4)))] [] (10, F, G, A, B) 0 0 Q := by
                        refine Wk.aloadN o_addReloc_116 rfl ?_
                        refine Wk.getA (mA_taken) (by decide) (i' := 5) rfl (wf_taken H) o_addReloc_117 ?_
                        refine Wk.iload o_addReloc_120 rfl ?_
                        refine Wk.baload (mA_taken) (by decide) (i' := 5) rfl (s37 q1 q2 q3 q5 q7 q8 q11 q30 q32) (s38 q1 q2 q3 q5 q7 q8 q11 q30 q32) o_addReloc_122 (y := ((A 4) (R_offsetOf A p2))) rfl ?_
                        refine Wk.if_ne o_addReloc_123 (fun q39 => ?_) (fun q39 => ?_)
                        · refine Wk.bipush o_addReloc_141 (z := (-4 : Int32)) (by decide) ?_
                          exact Wk.ireturn mrC rfl o_addReloc_143 rfl (by decide) (by decide) (h40 q1 q2 q3 q5 q7 q8 q11 q30 q32 q39)
                        · refine Wk.iload o_addReloc_126 rfl ?_
                          refine Wk.if_eq o_addReloc_128 (fun q41 => ?_) (fun q41 => ?_)
                          · refine Wk.aloadN o_addReloc_144 rfl ?_
                            refine Wk.iloadN o_addReloc_145 rfl ?_
                            refine Wk.iload o_addReloc_146 rfl ?_
                            refine Wk.iloadN o_addReloc_148 rfl ?_
                            refine Wk.iload o_addReloc_149 rfl ?_
                            refine Wk.callF [.int p1, .int (R_offsetOf A p2), .int p3, .int (if (if p1 = (4 : Int32) then (1 : Int32) else (0 : Int32)) = 0 then (-1 : Int32) else (R_offsetOf A p4))] [] (H.w 94 rfl) (cv_storeRecord H) o_addReloc_151 (run_storeRecord H F G A B p1 (R_offsetOf A p2) p3 (if (if p1 = (4 : Int32) then (1 : Int32) else (0 : Int32)) = 0 then (-1 : Int32) else (R_offsetOf A p4)) (s42 q1 q2 q3 q5 q7 q8 q11 q30 q32 q39 q41)) (wt := 0) (cu' := 0) (su' := 0) (by decide) rfl rfl rfl (al_storeRecord _ _ _ _) rfl rfl rfl ?_
                            exact Wk.ireturn mrC rfl o_addReloc_154 rfl (by decide) (by decide) (h43 q1 q2 q3 q5 q7 q8 q11 q30 q32 q39 q41)
                          · refine Wk.aloadN o_addReloc_131 rfl ?_
                            refine Wk.getA (mA_taken) (by decide) (i' := 5) rfl (wf_taken H) o_addReloc_132 ?_
                            refine Wk.iload o_addReloc_135 rfl ?_
                            refine Wk.baload (mA_taken) (by decide) (i' := 5) rfl (s44 q1 q2 q3 q5 q7 q8 q11 q30 q32 q39 q41) (s45 q1 q2 q3 q5 q7 q8 q11 q30 q32 q39 q41) o_addReloc_137 (y := ((A 4) (if (if p1 = (4 : Int32) then (1 : Int32) else (0 : Int32)) = 0 then (-1 : Int32) else (R_offsetOf A p4)))) rfl ?_
                            refine Wk.if_eq o_addReloc_138 (fun q46 => ?_) (fun q46 => ?_)
                            · refine Wk.aloadN o_addReloc_144 rfl ?_
                              refine Wk.iloadN o_addReloc_145 rfl ?_
                              refine Wk.iload o_addReloc_146 rfl ?_
                              refine Wk.iloadN o_addReloc_148 rfl ?_
                              refine Wk.iload o_addReloc_149 rfl ?_
                              refine Wk.callF [.int p1, .int (R_offsetOf A p2), .int p3, .int (if (if p1 = (4 : Int32) then (1 : Int32) else (0 : Int32)) = 0 then (-1 : Int32) else (R_offsetOf A p4))] [] (H.w 94 rfl) (cv_storeRecord H) o_addReloc_151 (run_storeRecord H F G A B p1 (R_offsetOf A p2) p3 (if (if p1 = (4 : Int32) then (1 : Int32) else (0 : Int32)) = 0 then (-1 : Int32) else (R_offsetOf A p4)) (s47 q1 q2 q3 q5 q7 q8 q11 q30 q32 q39 q41 q46)) (wt := 0) (cu' := 0) (su' := 0) (by decide) rfl rfl rfl (al_storeRecord _ _ _ _) rfl rfl rfl ?_
                              exact Wk.ireturn mrC rfl o_addReloc_154 rfl (by decide) (by decide) (h48 q1 q2 q3 q5 q7 q8 q11 q30 q32 q39 q41 q46)
                            · refine Wk.bipush o_addReloc_141 (z := (-4 : Int32)) (by decide) ?_
                              exact Wk.ireturn mrC rfl o_addReloc_143 rfl (by decide) (by decide) (h49 q1 q2 q3 q5 q7 q8 q11 q30 q32 q39 q41 q46)
                      refine Wk.if_eq o_addReloc_105 (fun q34 => ?_) (fun q34 => ?_)
                      · first | (rw [show ((if (if p1 = (4 : Int32) then (1 : Int32) else (0 : Int32)) = 0 then (-1 : Int32) else (R_offsetOf A p4)) : Int32) = (-1 : Int32) from if_pos q34] at J36; exact J36) | exact J36 | (simp only [if_pos q34] at J36 ⊢; exact J36)
                      · refine Wk.aloadN o_addReloc_108 rfl ?_
                        refine Wk.iload o_addReloc_109 rfl ?_
                        refine Wk.callF [.int p4] [] (H.w 74 rfl) (cv_offsetOf H) o_addReloc_111 (run_offsetOf H F G A B p4 (s35 q1 q2 q3 q5 q7 q8 q11 q30 q32 q34)) (wt := 0) (cu' := 0) (su' := 0) (by decide) rfl rfl rfl rfl rfl rfl rfl ?_
                        refine Wk.istore o_addReloc_114 (Or.inr ⟨_, rfl, rfl⟩) (L' := [.val (.ref 0), .val (.int p1), .val (.int p2), .val (.int p3), .val (.int p4), .val (.int (if p1 = (4 : Int32) then (1 : Int32) else (0 : Int32))), .val (.int (R_offsetOf A p2)), .val (.int (R_offsetOf A p4))]) rfl ?_
                        first | (rw [show ((if (if p1 = (4 : Int32) then (1 : Int32) else (0 : Int32)) = 0 then (-1 : Int32) else (R_offsetOf A p4)) : Int32) = (R_offsetOf A p4) from if_neg q34] at J36; exact J36) | exact J36 | (simp only [if_neg q34] at J36 ⊢; exact J36)
                    · refine Wk.bipush o_addReloc_90 (z := (-2 : Int32)) (by decide) ?_
                      exact Wk.ireturn mrC rfl o_addReloc_92 rfl (by decide) (by decide) (h50 q1 q2 q3 q5 q7 q8 q11 q30 q32)
              refine Wk.icmp_ne o_addReloc_60 (fun q9 => ?_) (fun q9 => ?_)
              · refine Wk.iconst o_addReloc_67 (z := (0 : Int32)) (by decide) ?_
                first | (rw [show ((if p1 = (4 : Int32) then (1 : Int32) else (0 : Int32)) : Int32) = (0 : Int32) from if_neg q9] at J10; exact J10) | exact J10 | (simp only [if_neg q9] at J10 ⊢; exact J10)
              · refine Wk.iconst o_addReloc_63 (z := (1 : Int32)) (by decide) ?_
                refine Wk.goto o_addReloc_64 ?_
                first | (rw [show ((if p1 = (4 : Int32) then (1 : Int32) else (0 : Int32)) : Int32) = (1 : Int32) from if_pos q9] at J10; exact J10) | exact J10 | (simp only [if_pos q9] at J10 ⊢; exact J10)
            · refine Wk.bipush o_addReloc_55 (z := (-2 : Int32)) (by decide) ?_
              exact Wk.ireturn mrC rfl o_addReloc_57 rfl (by decide) (by decide) (h51 q1 q2 q3 q5 q7 q8)
          · refine Wk.bipush o_addReloc_44 (z := (-2 : Int32)) (by decide) ?_
            exact Wk.ireturn mrC rfl o_addReloc_46 rfl (by decide) (by decide) (h52 q1 q2 q3 q5 q7)
        · refine Wk.bipush o_addReloc_33 (z := (-2 : Int32)) (by decide) ?_
          exact Wk.ireturn mrC rfl o_addReloc_35 rfl (by decide) (by decide) (h53 q1 q2 q3 q5)
    · refine Wk.bipush o_addReloc_20 (z := (-3 : Int32)) (by decide) ?_
      exact Wk.ireturn mrC rfl o_addReloc_22 rfl (by decide) (by decide) (h54 q1 q2)
  · refine Wk.iconst o_addReloc_7 (z := (-1 : Int32)) (by decide) ?_
    exact Wk.ireturn mrC rfl o_addReloc_8 rfl (by decide) (by decide) (h55 q1)

theorem rt_addReloc (G : Nat → Int64) (B : Nat → Int32 → Int64) (v0 : Int32) (xF : Nat → Int32) (xA : Nat → Int32 → Int32) (r : Int32 × (Nat → Int32) × (Nat → Int32 → Int32)) (e : (v0, xF, xA) = r) : some (Value.int v0) = some (.int r.1) ∧ (10, xF, G, xA, B) = (10, r.2.1, G, r.2.2, B) := by subst e; exact ⟨rfl, rfl⟩
def en_addReloc (F : Nat → Int32) (A : Nat → Int32 → Int32) (p1 : Int32) (p2 : Int32) (p3 : Int32) (p4 : Int32) : Option (Int32 × (Nat → Int32) × (Nat → Int32 → Int32)) := (if (F 5) = 0 then (if (F 4) < (F 1) then (if p1 < (1 : Int32) then some ((-2 : Int32), F, A) else (if (4 : Int32) < p1 then some ((-2 : Int32), F, A) else (if ((en_validPos F A p2).isSome = true) then (if (R_validPos F A p2) = 0 then some ((-2 : Int32), F, A) else (if (f_validTarget F p3) = 0 then some ((-2 : Int32), F, A) else (if (if p1 = (4 : Int32) then (1 : Int32) else (0 : Int32)) = 0 then (if ((en_offsetOf A p2).isSome = true) ∧ (¬ (if p1 = (4 : Int32) then (1 : Int32) else (0 : Int32)) = 0 → (en_offsetOf A p4).isSome = true) ∧ (¬ (R_offsetOf A p2) < 0) ∧ ((R_offsetOf A p2) < (64 : Int32)) then (if ((A 4) (R_offsetOf A p2)) = 0 then (if (if p1 = (4 : Int32) then (1 : Int32) else (0 : Int32)) = 0 then (if ((en_storeRecord F A p1 (R_offsetOf A p2) p3 (if (if p1 = (4 : Int32) then (1 : Int32) else (0 : Int32)) = 0 then (-1 : Int32) else (R_offsetOf A p4))).isSome = true) then some ((R_storeRecord F A p1 (R_offsetOf A p2) p3 (if (if p1 = (4 : Int32) then (1 : Int32) else (0 : Int32)) = 0 then (-1 : Int32) else (R_offsetOf A p4))).1, (R_storeRecord F A p1 (R_offsetOf A p2) p3 (if (if p1 = (4 : Int32) then (1 : Int32) else (0 : Int32)) = 0 then (-1 : Int32) else (R_offsetOf A p4))).2.1, (R_storeRecord F A p1 (R_offsetOf A p2) p3 (if (if p1 = (4 : Int32) then (1 : Int32) else (0 : Int32)) = 0 then (-1 : Int32) else (R_offsetOf A p4))).2.2) else none) else (if (¬ (if (if p1 = (4 : Int32) then (1 : Int32) else (0 : Int32)) = 0 then (-1 : Int32) else (R_offsetOf A p4)) < 0) ∧ ((if (if p1 = (4 : Int32) then (1 : Int32) else (0 : Int32)) = 0 then (-1 : Int32) else (R_offsetOf A p4)) < (64 : Int32)) then (if ((A 4) (if (if p1 = (4 : Int32) then (1 : Int32) else (0 : Int32)) = 0 then (-1 : Int32) else (R_offsetOf A p4))) = 0 then (if ((en_storeRecord F A p1 (R_offsetOf A p2) p3 (if (if p1 = (4 : Int32) then (1 : Int32) else (0 : Int32)) = 0 then (-1 : Int32) else (R_offsetOf A p4))).isSome = true) then some ((R_storeRecord F A p1 (R_offsetOf A p2) p3 (if (if p1 = (4 : Int32) then (1 : Int32) else (0 : Int32)) = 0 then (-1 : Int32) else (R_offsetOf A p4))).1, (R_storeRecord F A p1 (R_offsetOf A p2) p3 (if (if p1 = (4 : Int32) then (1 : Int32) else (0 : Int32)) = 0 then (-1 : Int32) else (R_offsetOf A p4))).2.1, (R_storeRecord F A p1 (R_offsetOf A p2) p3 (if (if p1 = (4 : Int32) then (1 : Int32) else (0 : Int32)) = 0 then (-1 : Int32) else (R_offsetOf A p4))).2.2) else none) else some ((-4 : Int32), F, A)) else none)) else some ((-4 : Int32), F, A)) else none) else (if ((en_validPos F A p4).isSome = true) then (if (R_validPos F A p4) = 0 then some ((-2 : Int32), F, A) else (if p4 = p2 then some ((-2 : Int32), F, A) else (if ((en_offsetOf A p2).isSome = true) ∧ (¬ (if p1 = (4 : Int32) then (1 : Int32) else (0 : Int32)) = 0 → (en_offsetOf A p4).isSome = true) ∧ (¬ (R_offsetOf A p2) < 0) ∧ ((R_offsetOf A p2) < (64 : Int32)) then (if ((A 4) (R_offsetOf A p2)) = 0 then (if (if p1 = (4 : Int32) then (1 : Int32) else (0 : Int32)) = 0 then (if ((en_storeRecord F A p1 (R_offsetOf A p2) p3 (if (if p1 = (4 : Int32) then (1 : Int32) else (0 : Int32)) = 0 then (-1 : Int32) else (R_offsetOf A p4))).isSome = true) then some ((R_storeRecord F A p1 (R_offsetOf A p2) p3 (if (if p1 = (4 : Int32) then (1 : Int32) else (0 : Int32)) = 0 then (-1 : Int32) else (R_offsetOf A p4))).1, (R_storeRecord F A p1 (R_offsetOf A p2) p3 (if (if p1 = (4 : Int32) then (1 : Int32) else (0 : Int32)) = 0 then (-1 : Int32) else (R_offsetOf A p4))).2.1, (R_storeRecord F A p1 (R_offsetOf A p2) p3 (if (if p1 = (4 : Int32) then (1 : Int32) else (0 : Int32)) = 0 then (-1 : Int32) else (R_offsetOf A p4))).2.2) else none) else (if (¬ (if (if p1 = (4 : Int32) then (1 : Int32) else (0 : Int32)) = 0 then (-1 : Int32) else (R_offsetOf A p4)) < 0) ∧ ((if (if p1 = (4 : Int32) then (1 : Int32) else (0 : Int32)) = 0 then (-1 : Int32) else (R_offsetOf A p4)) < (64 : Int32)) then (if ((A 4) (if (if p1 = (4 : Int32) then (1 : Int32) else (0 : Int32)) = 0 then (-1 : Int32) else (R_offsetOf A p4))) = 0 then (if ((en_storeRecord F A p1 (R_offsetOf A p2) p3 (if (if p1 = (4 : Int32) then (1 : Int32) else (0 : Int32)) = 0 then (-1 : Int32) else (R_offsetOf A p4))).isSome = true) then some ((R_storeRecord F A p1 (R_offsetOf A p2) p3 (if (if p1 = (4 : Int32) then (1 : Int32) else (0 : Int32)) = 0 then (-1 : Int32) else (R_offsetOf A p4))).1, (R_storeRecord F A p1 (R_offsetOf A p2) p3 (if (if p1 = (4 : Int32) then (1 : Int32) else (0 : Int32)) = 0 then (-1 : Int32) else (R_offsetOf A p4))).2.1, (R_storeRecord F A p1 (R_offsetOf A p2) p3 (if (if p1 = (4 : Int32) then (1 : Int32) else (0 : Int32)) = 0 then (-1 : Int32) else (R_offsetOf A p4))).2.2) else none) else some ((-4 : Int32), F, A)) else none)) else some ((-4 : Int32), F, A)) else none))) else none)))) else none))) else some ((-3 : Int32), F, A)) else some ((-1 : Int32), F, A))
theorem een_addReloc (F : Nat → Int32) (A : Nat → Int32 → Int32) (p1 : Int32) (p2 : Int32) (p3 : Int32) (p4 : Int32) : en_addReloc F A p1 p2 p3 p4 = (if (F 5) = 0 then (if (F 4) < (F 1) then (if p1 < (1 : Int32) then some ((-2 : Int32), F, A) else (if (4 : Int32) < p1 then some ((-2 : Int32), F, A) else (if ((en_validPos F A p2).isSome = true) then (if (R_validPos F A p2) = 0 then some ((-2 : Int32), F, A) else (if (f_validTarget F p3) = 0 then some ((-2 : Int32), F, A) else (if (if p1 = (4 : Int32) then (1 : Int32) else (0 : Int32)) = 0 then (if ((en_offsetOf A p2).isSome = true) ∧ (¬ (if p1 = (4 : Int32) then (1 : Int32) else (0 : Int32)) = 0 → (en_offsetOf A p4).isSome = true) ∧ (¬ (R_offsetOf A p2) < 0) ∧ ((R_offsetOf A p2) < (64 : Int32)) then (if ((A 4) (R_offsetOf A p2)) = 0 then (if (if p1 = (4 : Int32) then (1 : Int32) else (0 : Int32)) = 0 then (if ((en_storeRecord F A p1 (R_offsetOf A p2) p3 (if (if p1 = (4 : Int32) then (1 : Int32) else (0 : Int32)) = 0 then (-1 : Int32) else (R_offsetOf A p4))).isSome = true) then some ((R_storeRecord F A p1 (R_offsetOf A p2) p3 (if (if p1 = (4 : Int32) then (1 : Int32) else (0 : Int32)) = 0 then (-1 : Int32) else (R_offsetOf A p4))).1, (R_storeRecord F A p1 (R_offsetOf A p2) p3 (if (if p1 = (4 : Int32) then (1 : Int32) else (0 : Int32)) = 0 then (-1 : Int32) else (R_offsetOf A p4))).2.1, (R_storeRecord F A p1 (R_offsetOf A p2) p3 (if (if p1 = (4 : Int32) then (1 : Int32) else (0 : Int32)) = 0 then (-1 : Int32) else (R_offsetOf A p4))).2.2) else none) else (if (¬ (if (if p1 = (4 : Int32) then (1 : Int32) else (0 : Int32)) = 0 then (-1 : Int32) else (R_offsetOf A p4)) < 0) ∧ ((if (if p1 = (4 : Int32) then (1 : Int32) else (0 : Int32)) = 0 then (-1 : Int32) else (R_offsetOf A p4)) < (64 : Int32)) then (if ((A 4) (if (if p1 = (4 : Int32) then (1 : Int32) else (0 : Int32)) = 0 then (-1 : Int32) else (R_offsetOf A p4))) = 0 then (if ((en_storeRecord F A p1 (R_offsetOf A p2) p3 (if (if p1 = (4 : Int32) then (1 : Int32) else (0 : Int32)) = 0 then (-1 : Int32) else (R_offsetOf A p4))).isSome = true) then some ((R_storeRecord F A p1 (R_offsetOf A p2) p3 (if (if p1 = (4 : Int32) then (1 : Int32) else (0 : Int32)) = 0 then (-1 : Int32) else (R_offsetOf A p4))).1, (R_storeRecord F A p1 (R_offsetOf A p2) p3 (if (if p1 = (4 : Int32) then (1 : Int32) else (0 : Int32)) = 0 then (-1 : Int32) else (R_offsetOf A p4))).2.1, (R_storeRecord F A p1 (R_offsetOf A p2) p3 (if (if p1 = (4 : Int32) then (1 : Int32) else (0 : Int32)) = 0 then (-1 : Int32) else (R_offsetOf A p4))).2.2) else none) else some ((-4 : Int32), F, A)) else none)) else some ((-4 : Int32), F, A)) else none) else (if ((en_validPos F A p4).isSome = true) then (if (R_validPos F A p4) = 0 then some ((-2 : Int32), F, A) else (if p4 = p2 then some ((-2 : Int32), F, A) else (if ((en_offsetOf A p2).isSome = true) ∧ (¬ (if p1 = (4 : Int32) then (1 : Int32) else (0 : Int32)) = 0 → (en_offsetOf A p4).isSome = true) ∧ (¬ (R_offsetOf A p2) < 0) ∧ ((R_offsetOf A p2) < (64 : Int32)) then (if ((A 4) (R_offsetOf A p2)) = 0 then (if (if p1 = (4 : Int32) then (1 : Int32) else (0 : Int32)) = 0 then (if ((en_storeRecord F A p1 (R_offsetOf A p2) p3 (if (if p1 = (4 : Int32) then (1 : Int32) else (0 : Int32)) = 0 then (-1 : Int32) else (R_offsetOf A p4))).isSome = true) then some ((R_storeRecord F A p1 (R_offsetOf A p2) p3 (if (if p1 = (4 : Int32) then (1 : Int32) else (0 : Int32)) = 0 then (-1 : Int32) else (R_offsetOf A p4))).1, (R_storeRecord F A p1 (R_offsetOf A p2) p3 (if (if p1 = (4 : Int32) then (1 : Int32) else (0 : Int32)) = 0 then (-1 : Int32) else (R_offsetOf A p4))).2.1, (R_storeRecord F A p1 (R_offsetOf A p2) p3 (if (if p1 = (4 : Int32) then (1 : Int32) else (0 : Int32)) = 0 then (-1 : Int32) else (R_offsetOf A p4))).2.2) else none) else (if (¬ (if (if p1 = (4 : Int32) then (1 : Int32) else (0 : Int32)) = 0 then (-1 : Int32) else (R_offsetOf A p4)) < 0) ∧ ((if (if p1 = (4 : Int32) then (1 : Int32) else (0 : Int32)) = 0 then (-1 : Int32) else (R_offsetOf A p4)) < (64 : Int32)) then (if ((A 4) (if (if p1 = (4 : Int32) then (1 : Int32) else (0 : Int32)) = 0 then (-1 : Int32) else (R_offsetOf A p4))) = 0 then (if ((en_storeRecord F A p1 (R_offsetOf A p2) p3 (if (if p1 = (4 : Int32) then (1 : Int32) else (0 : Int32)) = 0 then (-1 : Int32) else (R_offsetOf A p4))).isSome = true) then some ((R_storeRecord F A p1 (R_offsetOf A p2) p3 (if (if p1 = (4 : Int32) then (1 : Int32) else (0 : Int32)) = 0 then (-1 : Int32) else (R_offsetOf A p4))).1, (R_storeRecord F A p1 (R_offsetOf A p2) p3 (if (if p1 = (4 : Int32) then (1 : Int32) else (0 : Int32)) = 0 then (-1 : Int32) else (R_offsetOf A p4))).2.1, (R_storeRecord F A p1 (R_offsetOf A p2) p3 (if (if p1 = (4 : Int32) then (1 : Int32) else (0 : Int32)) = 0 then (-1 : Int32) else (R_offsetOf A p4))).2.2) else none) else some ((-4 : Int32), F, A)) else none)) else some ((-4 : Int32), F, A)) else none))) else none)))) else none))) else some ((-3 : Int32), F, A)) else some ((-1 : Int32), F, A)) := Eq.trans rfl rfl
def R_addReloc (F : Nat → Int32) (A : Nat → Int32 → Int32) (p1 : Int32) (p2 : Int32) (p3 : Int32) (p4 : Int32) : Int32 × (Nat → Int32) × (Nat → Int32 → Int32) := (en_addReloc F A p1 p2 p3 p4).getD (0, (fun _ => 0), (fun _ _ => 0))
theorem eR_addReloc (F : Nat → Int32) (A : Nat → Int32 → Int32) (p1 : Int32) (p2 : Int32) (p3 : Int32) (p4 : Int32) : R_addReloc F A p1 p2 p3 p4 = (en_addReloc F A p1 p2 p3 p4).getD (0, (fun _ => 0), (fun _ _ => 0)) := Eq.trans rfl rfl
set_option maxRecDepth 65536 in
set_option maxHeartbeats 4000000 in
theorem run_addReloc {l : Launch} {Z : State} {a0 : Array Value} (H : OK Z a0) (F : Nat → Int32) (G : Nat → Int64) (A : Nat → Int32 → Int32) (B : Nat → Int32 → Int64) (p1 : Int32) (p2 : Int32) (p3 : Int32) (p4 : Int32) (e1 : (en_addReloc F A p1 p2 p3 p4).isSome = true) :
    Wk l Z (MoC Z cdC) md_addReloc 0 [.val (.ref 0), .val (.int p1), .val (.int p2), .val (.int p3), .val (.int p4), .unset, .unset, .unset] [] (10, F, G, A, B) 0 0 (fun v w' => v = some (.int (R_addReloc F A p1 p2 p3 p4).1) ∧ w' = (10, (R_addReloc F A p1 p2 p3 p4).2.1, G, (R_addReloc F A p1 p2 p3 p4).2.2, B)) := by
  obtain ⟨r, h⟩ := Option.isSome_iff_exists.mp e1
  have e : R_addReloc F A p1 p2 p3 p4 = r := (eR_addReloc F A p1 p2 p3 p4).trans (getD_some h)
  rw [e]
  rw [een_addReloc] at h
  exact wp_addReloc H F G A B p1 p2 p3 p4 (fun q1 q2 q3 => (rt_addReloc _ _ _ _ _ r (Option.some.inj (ifp q3 (ifp q2 (ifp q1 h)))))) (fun q1 q2 q3 q5 => (gd (ifn q5 (ifn q3 (ifp q2 (ifp q1 h))))).1) (fun q1 q2 q3 q5 q7 q8 q11 => (gd (ifp q11 (ifn q8 (ifn q7 (gd (ifn q5 (ifn q3 (ifp q2 (ifp q1 h))))).2)))).1.1) (fun q1 q2 q3 q5 q7 q8 q11 q13 => ((gd (ifp q11 (ifn q8 (ifn q7 (gd (ifn q5 (ifn q3 (ifp q2 (ifp q1 h))))).2)))).1.2.1) q13) (fun q1 q2 q3 q5 q7 q8 q11 => (gd (ifp q11 (ifn q8 (ifn q7 (gd (ifn q5 (ifn q3 (ifp q2 (ifp q1 h))))).2)))).1.2.2.1) (fun q1 q2 q3 q5 q7 q8 q11 => (gd (ifp q11 (ifn q8 (ifn q7 (gd (ifn q5 (ifn q3 (ifp q2 (ifp q1 h))))).2)))).1.2.2.2) (fun q1 q2 q3 q5 q7 q8 q11 q18 => (rt_addReloc _ _ _ _ _ r (Option.some.inj (ifn q18 (gd (ifp q11 (ifn q8 (ifn q7 (gd (ifn q5 (ifn q3 (ifp q2 (ifp q1 h))))).2)))).2)))) (fun q1 q2 q3 q5 q7 q8 q11 q18 q20 => (gd (ifp q20 (ifp q18 (gd (ifp q11 (ifn q8 (ifn q7 (gd (ifn q5 (ifn q3 (ifp q2 (ifp q1 h))))).2)))).2))).1) (fun q1 q2 q3 q5 q7 q8 q11 q18 q20 => (rt_addReloc _ _ _ _ _ r (Option.some.inj (gd (ifp q20 (ifp q18 (gd (ifp q11 (ifn q8 (ifn q7 (gd (ifn q5 (ifn q3 (ifp q2 (ifp q1 h))))).2)))).2))).2))) (fun q1 q2 q3 q5 q7 q8 q11 q18 q20 => (gd (ifn q20 (ifp q18 (gd (ifp q11 (ifn q8 (ifn q7 (gd (ifn q5 (ifn q3 (ifp q2 (ifp q1 h))))).2)))).2))).1.1) (fun q1 q2 q3 q5 q7 q8 q11 q18 q20 => (gd (ifn q20 (ifp q18 (gd (ifp q11 (ifn q8 (ifn q7 (gd (ifn q5 (ifn q3 (ifp q2 (ifp q1 h))))).2)))).2))).1.2) (fun q1 q2 q3 q5 q7 q8 q11 q18 q20 q25 => (gd (ifp q25 (gd (ifn q20 (ifp q18 (gd (ifp q11 (ifn q8 (ifn q7 (gd (ifn q5 (ifn q3 (ifp q2 (ifp q1 h))))).2)))).2))).2)).1) (fun q1 q2 q3 q5 q7 q8 q11 q18 q20 q25 => (rt_addReloc _ _ _ _ _ r (Option.some.inj (gd (ifp q25 (gd (ifn q20 (ifp q18 (gd (ifp q11 (ifn q8 (ifn q7 (gd (ifn q5 (ifn q3 (ifp q2 (ifp q1 h))))).2)))).2))).2)).2))) (fun q1 q2 q3 q5 q7 q8 q11 q18 q20 q25 => (rt_addReloc _ _ _ _ _ r (Option.some.inj (ifn q25 (gd (ifn q20 (ifp q18 (gd (ifp q11 (ifn q8 (ifn q7 (gd (ifn q5 (ifn q3 (ifp q2 (ifp q1 h))))).2)))).2))).2)))) (fun q1 q2 q3 q5 q7 q8 q11 => (gd (ifn q11 (ifn q8 (ifn q7 (gd (ifn q5 (ifn q3 (ifp q2 (ifp q1 h))))).2)))).1) (fun q1 q2 q3 q5 q7 q8 q11 q30 => (rt_addReloc _ _ _ _ _ r (Option.some.inj (ifp q30 (gd (ifn q11 (ifn q8 (ifn q7 (gd (ifn q5 (ifn q3 (ifp q2 (ifp q1 h))))).2)))).2)))) (fun q1 q2 q3 q5 q7 q8 q11 q30 q32 => (gd (ifn q32 (ifn q30 (gd (ifn q11 (ifn q8 (ifn q7 (gd (ifn q5 (ifn q3 (ifp q2 (ifp q1 h))))).2)))).2))).1.1) (fun q1 q2 q3 q5 q7 q8 q11 q30 q32 q34 => ((gd (ifn q32 (ifn q30 (gd (ifn q11 (ifn q8 (ifn q7 (gd (ifn q5 (ifn q3 (ifp q2 (ifp q1 h))))).2)))).2))).1.2.1) q34) (fun q1 q2 q3 q5 q7 q8 q11 q30 q32 => (gd (ifn q32 (ifn q30 (gd (ifn q11 (ifn q8 (ifn q7 (gd (ifn q5 (ifn q3 (ifp q2 (ifp q1 h))))).2)))).2))).1.2.2.1) (fun q1 q2 q3 q5 q7 q8 q11 q30 q32 => (gd (ifn q32 (ifn q30 (gd (ifn q11 (ifn q8 (ifn q7 (gd (ifn q5 (ifn q3 (ifp q2 (ifp q1 h))))).2)))).2))).1.2.2.2) (fun q1 q2 q3 q5 q7 q8 q11 q30 q32 q39 => (rt_addReloc _ _ _ _ _ r (Option.some.inj (ifn q39 (gd (ifn q32 (ifn q30 (gd (ifn q11 (ifn q8 (ifn q7 (gd (ifn q5 (ifn q3 (ifp q2 (ifp q1 h))))).2)))).2))).2)))) (fun q1 q2 q3 q5 q7 q8 q11 q30 q32 q39 q41 => (gd (ifp q41 (ifp q39 (gd (ifn q32 (ifn q30 (gd (ifn q11 (ifn q8 (ifn q7 (gd (ifn q5 (ifn q3 (ifp q2 (ifp q1 h))))).2)))).2))).2))).1) (fun q1 q2 q3 q5 q7 q8 q11 q30 q32 q39 q41 => (rt_addReloc _ _ _ _ _ r (Option.some.inj (gd (ifp q41 (ifp q39 (gd (ifn q32 (ifn q30 (gd (ifn q11 (ifn q8 (ifn q7 (gd (ifn q5 (ifn q3 (ifp q2 (ifp q1 h))))).2)))).2))).2))).2))) (fun q1 q2 q3 q5 q7 q8 q11 q30 q32 q39 q41 => (gd (ifn q41 (ifp q39 (gd (ifn q32 (ifn q30 (gd (ifn q11 (ifn q8 (ifn q7 (gd (ifn q5 (ifn q3 (ifp q2 (ifp q1 h))))).2)))).2))).2))).1.1) (fun q1 q2 q3 q5 q7 q8 q11 q30 q32 q39 q41 => (gd (ifn q41 (ifp q39 (gd (ifn q32 (ifn q30 (gd (ifn q11 (ifn q8 (ifn q7 (gd (ifn q5 (ifn q3 (ifp q2 (ifp q1 h))))).2)))).2))).2))).1.2) (fun q1 q2 q3 q5 q7 q8 q11 q30 q32 q39 q41 q46 => (gd (ifp q46 (gd (ifn q41 (ifp q39 (gd (ifn q32 (ifn q30 (gd (ifn q11 (ifn q8 (ifn q7 (gd (ifn q5 (ifn q3 (ifp q2 (ifp q1 h))))).2)))).2))).2))).2)).1) (fun q1 q2 q3 q5 q7 q8 q11 q30 q32 q39 q41 q46 => (rt_addReloc _ _ _ _ _ r (Option.some.inj (gd (ifp q46 (gd (ifn q41 (ifp q39 (gd (ifn q32 (ifn q30 (gd (ifn q11 (ifn q8 (ifn q7 (gd (ifn q5 (ifn q3 (ifp q2 (ifp q1 h))))).2)))).2))).2))).2)).2))) (fun q1 q2 q3 q5 q7 q8 q11 q30 q32 q39 q41 q46 => (rt_addReloc _ _ _ _ _ r (Option.some.inj (ifn q46 (gd (ifn q41 (ifp q39 (gd (ifn q32 (ifn q30 (gd (ifn q11 (ifn q8 (ifn q7 (gd (ifn q5 (ifn q3 (ifp q2 (ifp q1 h))))).2)))).2))).2))).2)))) (fun q1 q2 q3 q5 q7 q8 q11 q30 q32 => (rt_addReloc _ _ _ _ _ r (Option.some.inj (ifp q32 (ifn q30 (gd (ifn q11 (ifn q8 (ifn q7 (gd (ifn q5 (ifn q3 (ifp q2 (ifp q1 h))))).2)))).2))))) (fun q1 q2 q3 q5 q7 q8 => (rt_addReloc _ _ _ _ _ r (Option.some.inj (ifp q8 (ifn q7 (gd (ifn q5 (ifn q3 (ifp q2 (ifp q1 h))))).2))))) (fun q1 q2 q3 q5 q7 => (rt_addReloc _ _ _ _ _ r (Option.some.inj (ifp q7 (gd (ifn q5 (ifn q3 (ifp q2 (ifp q1 h))))).2)))) (fun q1 q2 q3 q5 => (rt_addReloc _ _ _ _ _ r (Option.some.inj (ifp q5 (ifn q3 (ifp q2 (ifp q1 h))))))) (fun q1 q2 => (rt_addReloc _ _ _ _ _ r (Option.some.inj (ifn q2 (ifp q1 h))))) (fun q1 => (rt_addReloc _ _ _ _ _ r (Option.some.inj (ifn q1 h))))
set_option maxRecDepth 65536 in
set_option maxHeartbeats 4000000 in
theorem wp_legalBase {l : Launch} {Z : State} {a0 : Array Value} (H : OK Z a0) (F : Nat → Int32) (G : Nat → Int64) (A : Nat → Int32 → Int32) (B : Nat → Int32 → Int64) (p1 : Int32) {Q : Option Value → WO → Prop} (h3 : Q (some (.int (nar .boolean (if (p1 &&& (15 : Int32)) = 0 then (1 : Int32) else (0 : Int32))))) (10, F, G, A, B)) :
    Wk l Z (MoC Z cdC) md_legalBase 0 [.val (.ref 0), .val (.int p1)] [] (10, F, G, A, B) 0 0 Q := by
  refine Wk.iloadN o_legalBase_0 rfl ?_
  refine Wk.bipush o_legalBase_1 (z := (15 : Int32)) (by decide) ?_
  refine Wk.iand o_legalBase_3 ?_
  have J2 : Wk l Z (MoC Z cdC) md_legalBase 12 [.val (.ref 0), .val (.int p1)] [.int (if (p1 &&& (15 : Int32)) = 0 then (1 : Int32) else (0 : Int32))] (10, F, G, A, B) 0 0 Q := by
    exact Wk.zreturn mrC rfl o_legalBase_12 rfl (by decide) (by decide) (y := (nar .boolean (if (p1 &&& (15 : Int32)) = 0 then (1 : Int32) else (0 : Int32)))) rfl h3
  refine Wk.if_ne o_legalBase_4 (fun q1 => ?_) (fun q1 => ?_)
  · refine Wk.iconst o_legalBase_11 (z := (0 : Int32)) (by decide) ?_
    first | (rw [show ((if (p1 &&& (15 : Int32)) = 0 then (1 : Int32) else (0 : Int32)) : Int32) = (0 : Int32) from if_neg q1] at J2; exact J2) | exact J2 | (simp only [if_neg q1] at J2 ⊢; exact J2)
  · refine Wk.iconst o_legalBase_7 (z := (1 : Int32)) (by decide) ?_
    refine Wk.goto o_legalBase_8 ?_
    first | (rw [show ((if (p1 &&& (15 : Int32)) = 0 then (1 : Int32) else (0 : Int32)) : Int32) = (1 : Int32) from if_pos q1] at J2; exact J2) | exact J2 | (simp only [if_pos q1] at J2 ⊢; exact J2)

def f_legalBase (p1 : Int32) : Int32 := (nar .boolean (if (p1 &&& (15 : Int32)) = 0 then (1 : Int32) else (0 : Int32)))
theorem e_legalBase (p1 : Int32) : f_legalBase p1 = (nar .boolean (if (p1 &&& (15 : Int32)) = 0 then (1 : Int32) else (0 : Int32))) := Eq.trans rfl rfl
theorem bz_legalBase (p1 : Int32) : nar .boolean (f_legalBase p1) = f_legalBase p1 := by
  unfold f_legalBase
  (repeat' split) <;> first | rfl | exact nar_nar _
theorem run_legalBase {l : Launch} {Z : State} {a0 : Array Value} (H : OK Z a0) (F : Nat → Int32) (G : Nat → Int64) (A : Nat → Int32 → Int32) (B : Nat → Int32 → Int64) (p1 : Int32) :
    Wk l Z (MoC Z cdC) md_legalBase 0 [.val (.ref 0), .val (.int p1)] [] (10, F, G, A, B) 0 0 (fun v w' => v = some (.int (f_legalBase p1)) ∧ w' = (10, F, G, A, B)) :=
  wp_legalBase H F G A B p1 ⟨rfl, rfl⟩
set_option maxRecDepth 65536 in
set_option maxHeartbeats 4000000 in
theorem wp_symbolAddr {l : Launch} {Z : State} {a0 : Array Value} (H : OK Z a0) (F : Nat → Int32) (G : Nat → Int64) (A : Nat → Int32 → Int32) (B : Nat → Int32 → Int64) (p1 : Int32) (p2 : Int32) {Q : Option Value → WO → Prop} (h2 : p1 < 0 → Q (some (.int (0 : Int32))) (10, F, G, A, B)) (s4 : ¬ p1 < 0 → p1 < (F 2) → p1 < (4 : Int32)) (h5 : ¬ p1 < 0 → p1 < (F 2) → Q (some (.int (p2 + ((A 0) p1)))) (10, F, G, A, B)) (h6 : ¬ p1 < 0 → ¬ p1 < (F 2) → Q (some (.int (0 : Int32))) (10, F, G, A, B)) :
    Wk l Z (MoC Z cdC) md_symbolAddr 0 [.val (.ref 0), .val (.int p1), .val (.int p2)] [] (10, F, G, A, B) 0 0 Q := by
  refine Wk.iloadN o_symbolAddr_0 rfl ?_
  refine Wk.if_lt o_symbolAddr_1 (fun q1 => ?_) (fun q1 => ?_)
  · refine Wk.iconst o_symbolAddr_12 (z := (0 : Int32)) (by decide) ?_
    exact Wk.ireturn mrC rfl o_symbolAddr_13 rfl (by decide) (by decide) (h2 q1)
  · refine Wk.iloadN o_symbolAddr_4 rfl ?_
    refine Wk.aloadN o_symbolAddr_5 rfl ?_
    refine Wk.getI (mI_nSec) (wf_nSec H) o_symbolAddr_6 (x := (F 2)) rfl ?_
    refine Wk.icmp_lt o_symbolAddr_9 (fun q3 => ?_) (fun q3 => ?_)
    · refine Wk.iloadN o_symbolAddr_14 rfl ?_
      refine Wk.aloadN o_symbolAddr_15 rfl ?_
      refine Wk.getA (mA_secStart) (by decide) (i' := 1) rfl (wf_secStart H) o_symbolAddr_16 ?_
      refine Wk.iloadN o_symbolAddr_19 rfl ?_
      refine Wk.iaload (mA_secStart) (by decide) (i' := 1) rfl q1 (s4 q1 q3) o_symbolAddr_20 (y := ((A 0) p1)) rfl ?_
      refine Wk.iadd o_symbolAddr_21 ?_
      exact Wk.ireturn mrC rfl o_symbolAddr_22 rfl (by decide) (by decide) (h5 q1 q3)
    · refine Wk.iconst o_symbolAddr_12 (z := (0 : Int32)) (by decide) ?_
      exact Wk.ireturn mrC rfl o_symbolAddr_13 rfl (by decide) (by decide) (h6 q1 q3)

theorem rt_symbolAddr (F : Nat → Int32) (G : Nat → Int64) (A : Nat → Int32 → Int32) (B : Nat → Int32 → Int64) (v0 : Int32) (r : Int32) (e : v0 = r) : some (Value.int v0) = some (.int r) ∧ (10, F, G, A, B) = (10, F, G, A, B) := by subst e; exact ⟨rfl, rfl⟩
def en_symbolAddr (F : Nat → Int32) (A : Nat → Int32 → Int32) (p1 : Int32) (p2 : Int32) : Option (Int32) := (if p1 < 0 then some ((0 : Int32)) else (if p1 < (F 2) then (if (p1 < (4 : Int32)) then some ((p2 + ((A 0) p1))) else none) else some ((0 : Int32))))
theorem een_symbolAddr (F : Nat → Int32) (A : Nat → Int32 → Int32) (p1 : Int32) (p2 : Int32) : en_symbolAddr F A p1 p2 = (if p1 < 0 then some ((0 : Int32)) else (if p1 < (F 2) then (if (p1 < (4 : Int32)) then some ((p2 + ((A 0) p1))) else none) else some ((0 : Int32)))) := Eq.trans rfl rfl
def R_symbolAddr (F : Nat → Int32) (A : Nat → Int32 → Int32) (p1 : Int32) (p2 : Int32) : Int32 := (en_symbolAddr F A p1 p2).getD (0)
theorem eR_symbolAddr (F : Nat → Int32) (A : Nat → Int32 → Int32) (p1 : Int32) (p2 : Int32) : R_symbolAddr F A p1 p2 = (en_symbolAddr F A p1 p2).getD (0) := Eq.trans rfl rfl
set_option maxRecDepth 65536 in
set_option maxHeartbeats 4000000 in
theorem run_symbolAddr {l : Launch} {Z : State} {a0 : Array Value} (H : OK Z a0) (F : Nat → Int32) (G : Nat → Int64) (A : Nat → Int32 → Int32) (B : Nat → Int32 → Int64) (p1 : Int32) (p2 : Int32) (e1 : (en_symbolAddr F A p1 p2).isSome = true) :
    Wk l Z (MoC Z cdC) md_symbolAddr 0 [.val (.ref 0), .val (.int p1), .val (.int p2)] [] (10, F, G, A, B) 0 0 (fun v w' => v = some (.int (R_symbolAddr F A p1 p2)) ∧ w' = (10, F, G, A, B)) := by
  obtain ⟨r, h⟩ := Option.isSome_iff_exists.mp e1
  have e : R_symbolAddr F A p1 p2 = r := (eR_symbolAddr F A p1 p2).trans (getD_some h)
  rw [e]
  rw [een_symbolAddr] at h
  exact wp_symbolAddr H F G A B p1 p2 (fun q1 => (rt_symbolAddr _ _ _ _ _ r (Option.some.inj (ifp q1 h)))) (fun q1 q3 => (gd (ifp q3 (ifn q1 h))).1) (fun q1 q3 => (rt_symbolAddr _ _ _ _ _ r (Option.some.inj (gd (ifp q3 (ifn q1 h))).2))) (fun q1 q3 => (rt_symbolAddr _ _ _ _ _ r (Option.some.inj (ifn q3 (ifn q1 h)))))
set_option maxRecDepth 65536 in
set_option maxHeartbeats 4000000 in
theorem wp_imm {l : Launch} {Z : State} {a0 : Array Value} (H : OK Z a0) (F : Nat → Int32) (G : Nat → Int64) (A : Nat → Int32 → Int32) (B : Nat → Int32 → Int64) (p1 : Int32) {Q : Option Value → WO → Prop} (h1 : Q (some (.int (p1 &&& (65535 : Int32)))) (10, F, G, A, B)) :
    Wk l Z (MoC Z cdC) md_imm 0 [.val (.ref 0), .val (.int p1)] [] (10, F, G, A, B) 0 0 Q := by
  refine Wk.iloadN o_imm_0 rfl ?_
  refine Wk.ldc o_imm_1 (z := (65535 : Int32)) (H.w 123 rfl) ?_
  refine Wk.iand o_imm_3 ?_
  exact Wk.ireturn mrC rfl o_imm_4 rfl (by decide) (by decide) h1

def f_imm (p1 : Int32) : Int32 := (p1 &&& (65535 : Int32))
theorem e_imm (p1 : Int32) : f_imm p1 = (p1 &&& (65535 : Int32)) := Eq.trans rfl rfl
theorem run_imm {l : Launch} {Z : State} {a0 : Array Value} (H : OK Z a0) (F : Nat → Int32) (G : Nat → Int64) (A : Nat → Int32 → Int32) (B : Nat → Int32 → Int64) (p1 : Int32) :
    Wk l Z (MoC Z cdC) md_imm 0 [.val (.ref 0), .val (.int p1)] [] (10, F, G, A, B) 0 0 (fun v w' => v = some (.int (f_imm p1)) ∧ w' = (10, F, G, A, B)) :=
  wp_imm H F G A B p1 ⟨rfl, rfl⟩
set_option maxRecDepth 65536 in
set_option maxHeartbeats 4000000 in
theorem wp_sext {l : Launch} {Z : State} {a0 : Array Value} (H : OK Z a0) (F : Nat → Int32) (G : Nat → Int64) (A : Nat → Int32 → Int32) (B : Nat → Int32 → Int64) (p1 : Int32) {Q : Option Value → WO → Prop} (h2 : p1 < (32768 : Int32) → Q (some (.int p1)) (10, F, G, A, B)) (h3 : ¬ p1 < (32768 : Int32) → Q (some (.int (p1 - (65536 : Int32)))) (10, F, G, A, B)) :
    Wk l Z (MoC Z cdC) md_sext 0 [.val (.ref 0), .val (.int p1)] [] (10, F, G, A, B) 0 0 Q := by
  refine Wk.iloadN o_sext_0 rfl ?_
  refine Wk.ldc o_sext_1 (z := (32768 : Int32)) (H.w 128 rfl) ?_
  refine Wk.icmp_lt o_sext_3 (fun q1 => ?_) (fun q1 => ?_)
  · refine Wk.iloadN o_sext_11 rfl ?_
    exact Wk.ireturn mrC rfl o_sext_12 rfl (by decide) (by decide) (h2 q1)
  · refine Wk.iloadN o_sext_6 rfl ?_
    refine Wk.ldc o_sext_7 (z := (65536 : Int32)) (H.w 190 rfl) ?_
    refine Wk.isub o_sext_9 ?_
    exact Wk.ireturn mrC rfl o_sext_10 rfl (by decide) (by decide) (h3 q1)

def f_sext (p1 : Int32) : Int32 := (if p1 < (32768 : Int32) then p1 else (p1 - (65536 : Int32)))
theorem e_sext (p1 : Int32) : f_sext p1 = (if p1 < (32768 : Int32) then p1 else (p1 - (65536 : Int32))) := Eq.trans rfl rfl
theorem run_sext {l : Launch} {Z : State} {a0 : Array Value} (H : OK Z a0) (F : Nat → Int32) (G : Nat → Int64) (A : Nat → Int32 → Int32) (B : Nat → Int32 → Int64) (p1 : Int32) :
    Wk l Z (MoC Z cdC) md_sext 0 [.val (.ref 0), .val (.int p1)] [] (10, F, G, A, B) 0 0 (fun v w' => v = some (.int (f_sext p1)) ∧ w' = (10, F, G, A, B)) :=
  wp_sext H F G A B p1 (fun q1 => ⟨by simp only [e_sext, if_pos q1], rfl⟩) (fun q1 => ⟨by simp only [e_sext, if_neg q1], rfl⟩)
set_option maxRecDepth 65536 in
set_option maxHeartbeats 4000000 in
theorem wp_setImm {l : Launch} {Z : State} {a0 : Array Value} (H : OK Z a0) (F : Nat → Int32) (G : Nat → Int64) (A : Nat → Int32 → Int32) (B : Nat → Int32 → Int64) (p1 : Int32) (p2 : Int32) {Q : Option Value → WO → Prop} (h1 : Q (some (.int ((p1 &&& (-65536 : Int32)) ||| (p2 &&& (65535 : Int32))))) (10, F, G, A, B)) :
    Wk l Z (MoC Z cdC) md_setImm 0 [.val (.ref 0), .val (.int p1), .val (.int p2)] [] (10, F, G, A, B) 0 0 Q := by
  refine Wk.iloadN o_setImm_0 rfl ?_
  refine Wk.ldc o_setImm_1 (z := (-65536 : Int32)) (H.w 137 rfl) ?_
  refine Wk.iand o_setImm_3 ?_
  refine Wk.iloadN o_setImm_4 rfl ?_
  refine Wk.ldc o_setImm_5 (z := (65535 : Int32)) (H.w 123 rfl) ?_
  refine Wk.iand o_setImm_7 ?_
  refine Wk.ior o_setImm_8 ?_
  exact Wk.ireturn mrC rfl o_setImm_9 rfl (by decide) (by decide) h1

def f_setImm (p1 : Int32) (p2 : Int32) : Int32 := ((p1 &&& (-65536 : Int32)) ||| (p2 &&& (65535 : Int32)))
theorem e_setImm (p1 : Int32) (p2 : Int32) : f_setImm p1 p2 = ((p1 &&& (-65536 : Int32)) ||| (p2 &&& (65535 : Int32))) := Eq.trans rfl rfl
theorem run_setImm {l : Launch} {Z : State} {a0 : Array Value} (H : OK Z a0) (F : Nat → Int32) (G : Nat → Int64) (A : Nat → Int32 → Int32) (B : Nat → Int32 → Int64) (p1 : Int32) (p2 : Int32) :
    Wk l Z (MoC Z cdC) md_setImm 0 [.val (.ref 0), .val (.int p1), .val (.int p2)] [] (10, F, G, A, B) 0 0 (fun v w' => v = some (.int (f_setImm p1 p2)) ∧ w' = (10, F, G, A, B)) :=
  wp_setImm H F G A B p1 p2 ⟨rfl, rfl⟩
set_option maxRecDepth 65536 in
set_option maxHeartbeats 4000000 in
theorem wp_writePair {l : Launch} {Z : State} {a0 : Array Value} (H : OK Z a0) (F : Nat → Int32) (G : Nat → Int64) (A : Nat → Int32 → Int32) (B : Nat → Int32 → Int64) (p1 : Int32) (p2 : Int32) (p3 : Int32) {Q : Option Value → WO → Prop} (s1 : ¬ p1 < 0) (s2 : p1 < (64 : Int32)) (s3 : ¬ p2 < 0) (s4 : p2 < (64 : Int32)) (h5 : Q none (10, F, G, (ups (ups A 3 (ups (A 3) p1 (f_setImm ((A 3) p1) (XT.ushr (p3 + (32768 : Int32)) (16 : Int32))))) 3 (ups (ups (A 3) p1 (f_setImm ((A 3) p1) (XT.ushr (p3 + (32768 : Int32)) (16 : Int32)))) p2 (f_setImm ((A 3) p2) p3))), B)) :
    Wk l Z (MoC Z cdC) md_writePair 0 [.val (.ref 0), .val (.int p1), .val (.int p2), .val (.int p3), .unset, .unset] [] (10, F, G, A, B) 0 0 Q := by
  refine Wk.aloadN o_writePair_0 rfl ?_
  refine Wk.getA (mA_cur) (by decide) (i' := 4) rfl (wf_cur H) o_writePair_1 ?_
  refine Wk.iloadN o_writePair_4 rfl ?_
  refine Wk.iaload (mA_cur) (by decide) (i' := 4) rfl s1 s2 o_writePair_5 (y := ((A 3) p1)) rfl ?_
  refine Wk.istore o_writePair_6 (Or.inl rfl) (L' := [.val (.ref 0), .val (.int p1), .val (.int p2), .val (.int p3), .val (.int ((A 3) p1)), .unset]) rfl ?_
  refine Wk.aloadN o_writePair_8 rfl ?_
  refine Wk.getA (mA_cur) (by decide) (i' := 4) rfl (wf_cur H) o_writePair_9 ?_
  refine Wk.iloadN o_writePair_12 rfl ?_
  refine Wk.iaload (mA_cur) (by decide) (i' := 4) rfl s3 s4 o_writePair_13 (y := ((A 3) p2)) rfl ?_
  refine Wk.istore o_writePair_14 (Or.inl rfl) (L' := [.val (.ref 0), .val (.int p1), .val (.int p2), .val (.int p3), .val (.int ((A 3) p1)), .val (.int ((A 3) p2))]) rfl ?_
  refine Wk.aloadN o_writePair_16 rfl ?_
  refine Wk.getA (mA_cur) (by decide) (i' := 4) rfl (wf_cur H) o_writePair_17 ?_
  refine Wk.iloadN o_writePair_20 rfl ?_
  refine Wk.aloadN o_writePair_21 rfl ?_
  refine Wk.iload o_writePair_22 rfl ?_
  refine Wk.iloadN o_writePair_24 rfl ?_
  refine Wk.ldc o_writePair_25 (z := (32768 : Int32)) (H.w 128 rfl) ?_
  refine Wk.iadd o_writePair_27 ?_
  refine Wk.bipush o_writePair_28 (z := (16 : Int32)) (by decide) ?_
  refine Wk.iushr o_writePair_30 ?_
  refine Wk.callF [.int ((A 3) p1), .int (XT.ushr (p3 + (32768 : Int32)) (16 : Int32))] [.int p1, .ref 4] (H.w 133 rfl) (cv_setImm H) o_writePair_31 (run_setImm H F G A B ((A 3) p1) (XT.ushr (p3 + (32768 : Int32)) (16 : Int32))) (wt := 2) (cu' := 0) (su' := 0) (by decide) rfl rfl rfl rfl rfl rfl rfl ?_
  refine Wk.iastore (coC H) (f := (A 3)) (mA_cur) rfl (by decide) (i' := 4) rfl s1 s2 o_writePair_34 ?_
  refine Wk.aloadN o_writePair_35 rfl ?_
  refine Wk.getA (mA_cur) (by decide) (i' := 4) rfl (wf_cur H) o_writePair_36 ?_
  refine Wk.iloadN o_writePair_39 rfl ?_
  refine Wk.aloadN o_writePair_40 rfl ?_
  refine Wk.iload o_writePair_41 rfl ?_
  refine Wk.iloadN o_writePair_43 rfl ?_
  refine Wk.callF [.int ((A 3) p2), .int p3] [.int p2, .ref 4] (H.w 133 rfl) (cv_setImm H) o_writePair_44 (run_setImm H F G (ups A 3 (ups (A 3) p1 (f_setImm ((A 3) p1) (XT.ushr (p3 + (32768 : Int32)) (16 : Int32))))) B ((A 3) p2) p3) (wt := 2) (cu' := 0) (su' := 0) (by decide) rfl rfl rfl rfl rfl rfl rfl ?_
  refine Wk.iastore (coC H) (f := (ups (A 3) p1 (f_setImm ((A 3) p1) (XT.ushr (p3 + (32768 : Int32)) (16 : Int32))))) (mA_cur) rfl (by decide) (i' := 4) rfl s3 s4 o_writePair_47 ?_
  exact Wk.ret mrC rfl o_writePair_48 rfl (by decide) (by decide) h5

theorem rt_writePair (F : Nat → Int32) (G : Nat → Int64) (B : Nat → Int32 → Int64) (v0 : Int32) (xA : Nat → Int32 → Int32) (r : Int32 × (Nat → Int32 → Int32)) (e : (v0, xA) = r) : (none : Option Value) = none ∧ (10, F, G, xA, B) = (10, F, G, r.2, B) := by subst e; exact ⟨rfl, rfl⟩
def en_writePair (A : Nat → Int32 → Int32) (p1 : Int32) (p2 : Int32) (p3 : Int32) : Option (Int32 × (Nat → Int32 → Int32)) := (if (¬ p1 < 0) ∧ (p1 < (64 : Int32)) ∧ (¬ p2 < 0) ∧ (p2 < (64 : Int32)) then some ((0 : Int32), (ups (ups A 3 (ups (A 3) p1 (f_setImm ((A 3) p1) (XT.ushr (p3 + (32768 : Int32)) (16 : Int32))))) 3 (ups (ups (A 3) p1 (f_setImm ((A 3) p1) (XT.ushr (p3 + (32768 : Int32)) (16 : Int32)))) p2 (f_setImm ((A 3) p2) p3)))) else none)
theorem een_writePair (A : Nat → Int32 → Int32) (p1 : Int32) (p2 : Int32) (p3 : Int32) : en_writePair A p1 p2 p3 = (if (¬ p1 < 0) ∧ (p1 < (64 : Int32)) ∧ (¬ p2 < 0) ∧ (p2 < (64 : Int32)) then some ((0 : Int32), (ups (ups A 3 (ups (A 3) p1 (f_setImm ((A 3) p1) (XT.ushr (p3 + (32768 : Int32)) (16 : Int32))))) 3 (ups (ups (A 3) p1 (f_setImm ((A 3) p1) (XT.ushr (p3 + (32768 : Int32)) (16 : Int32)))) p2 (f_setImm ((A 3) p2) p3)))) else none) := Eq.trans rfl rfl
def R_writePair (A : Nat → Int32 → Int32) (p1 : Int32) (p2 : Int32) (p3 : Int32) : Int32 × (Nat → Int32 → Int32) := (en_writePair A p1 p2 p3).getD (0, (fun _ _ => 0))
theorem eR_writePair (A : Nat → Int32 → Int32) (p1 : Int32) (p2 : Int32) (p3 : Int32) : R_writePair A p1 p2 p3 = (en_writePair A p1 p2 p3).getD (0, (fun _ _ => 0)) := Eq.trans rfl rfl
set_option maxRecDepth 65536 in
set_option maxHeartbeats 4000000 in
theorem run_writePair {l : Launch} {Z : State} {a0 : Array Value} (H : OK Z a0) (F : Nat → Int32) (G : Nat → Int64) (A : Nat → Int32 → Int32) (B : Nat → Int32 → Int64) (p1 : Int32) (p2 : Int32) (p3 : Int32) (e1 : (en_writePair A p1 p2 p3).isSome = true) :
    Wk l Z (MoC Z cdC) md_writePair 0 [.val (.ref 0), .val (.int p1), .val (.int p2), .val (.int p3), .unset, .unset] [] (10, F, G, A, B) 0 0 (fun v w' => v = none ∧ w' = (10, F, G, (R_writePair A p1 p2 p3).2, B)) := by
  obtain ⟨r, h⟩ := Option.isSome_iff_exists.mp e1
  have e : R_writePair A p1 p2 p3 = r := (eR_writePair A p1 p2 p3).trans (getD_some h)
  rw [e]
  rw [een_writePair] at h
  exact wp_writePair H F G A B p1 p2 p3 ((gd h).1.1) ((gd h).1.2.1) ((gd h).1.2.2.1) ((gd h).1.2.2.2) ((rt_writePair _ _ _ _ _ r (Option.some.inj (gd h).2)))
set_option maxRecDepth 65536 in
set_option maxHeartbeats 4000000 in
theorem wp_loadPair {l : Launch} {Z : State} {a0 : Array Value} (H : OK Z a0) (F : Nat → Int32) (G : Nat → Int64) (A : Nat → Int32 → Int32) (B : Nat → Int32 → Int64) (p1 : Int32) (p2 : Int32) {Q : Option Value → WO → Prop} (s1 : ¬ p1 < 0) (s2 : p1 < (32 : Int32)) (h4 : ((A 8) p1) < 0 → Q none (10, F, G, A, B)) (s6 : ¬ ((A 8) p1) < 0 → ((A 8) p1) < (64 : Int32) → ¬ ((A 6) p1) < 0) (s7 : ¬ ((A 8) p1) < 0 → ((A 8) p1) < (64 : Int32) → ((A 6) p1) < (64 : Int32)) (s8 : ¬ ((A 8) p1) < 0 → ((A 8) p1) < (64 : Int32) → (en_writePair A ((A 6) p1) ((A 8) p1) ((p2 + ((f_imm ((A 2) ((A 6) p1))) <<< ((16 : Int32) &&& 31))) + (f_sext (f_imm ((A 2) ((A 8) p1)))))).isSome = true) (h9 : ¬ ((A 8) p1) < 0 → ((A 8) p1) < (64 : Int32) → Q none (10, F, G, (R_writePair A ((A 6) p1) ((A 8) p1) ((p2 + ((f_imm ((A 2) ((A 6) p1))) <<< ((16 : Int32) &&& 31))) + (f_sext (f_imm ((A 2) ((A 8) p1)))))).2, B)) (h10 : ¬ ((A 8) p1) < 0 → ¬ ((A 8) p1) < (64 : Int32) → Q none (10, F, G, A, B)) :
    Wk l Z (MoC Z cdC) md_loadPair 0 [.val (.ref 0), .val (.int p1), .val (.int p2), .unset, .unset, .unset, .unset, .unset, .unset] [] (10, F, G, A, B) 0 0 Q := by
  refine Wk.aloadN o_loadPair_0 rfl ?_
  refine Wk.getA (mA_recOff) (by decide) (i' := 7) rfl (wf_recOff H) o_loadPair_1 ?_
  refine Wk.iloadN o_loadPair_4 rfl ?_
  refine Wk.iaload (mA_recOff) (by decide) (i' := 7) rfl s1 s2 o_loadPair_5 (y := ((A 6) p1)) rfl ?_
  refine Wk.istoreN o_loadPair_6 (Or.inl rfl) (L' := [.val (.ref 0), .val (.int p1), .val (.int p2), .val (.int ((A 6) p1)), .unset, .unset, .unset, .unset, .unset]) rfl ?_
  refine Wk.aloadN o_loadPair_7 rfl ?_
  refine Wk.getA (mA_recLoOff) (by decide) (i' := 9) rfl (wf_recLoOff H) o_loadPair_8 ?_
  refine Wk.iloadN o_loadPair_11 rfl ?_
  refine Wk.iaload (mA_recLoOff) (by decide) (i' := 9) rfl s1 s2 o_loadPair_12 (y := ((A 8) p1)) rfl ?_
  refine Wk.istore o_loadPair_13 (Or.inl rfl) (L' := [.val (.ref 0), .val (.int p1), .val (.int p2), .val (.int ((A 6) p1)), .val (.int ((A 8) p1)), .unset, .unset, .unset, .unset]) rfl ?_
  refine Wk.iload o_loadPair_15 rfl ?_
  refine Wk.if_lt o_loadPair_17 (fun q3 => ?_) (fun q3 => ?_)
  · exact Wk.ret mrC rfl o_loadPair_27 rfl (by decide) (by decide) (h4 q3)
  · refine Wk.iload o_loadPair_20 rfl ?_
    refine Wk.bipush o_loadPair_22 (z := (64 : Int32)) (by decide) ?_
    refine Wk.icmp_lt o_loadPair_24 (fun q5 => ?_) (fun q5 => ?_)
    · refine Wk.aloadN o_loadPair_28 rfl ?_
      refine Wk.getA (mA_raw) (by decide) (i' := 3) rfl (wf_raw H) o_loadPair_29 ?_
      refine Wk.iloadN o_loadPair_32 rfl ?_
      refine Wk.iaload (mA_raw) (by decide) (i' := 3) rfl (s6 q3 q5) (s7 q3 q5) o_loadPair_33 (y := ((A 2) ((A 6) p1))) rfl ?_
      refine Wk.istore o_loadPair_34 (Or.inl rfl) (L' := [.val (.ref 0), .val (.int p1), .val (.int p2), .val (.int ((A 6) p1)), .val (.int ((A 8) p1)), .val (.int ((A 2) ((A 6) p1))), .unset, .unset, .unset]) rfl ?_
      refine Wk.aloadN o_loadPair_36 rfl ?_
      refine Wk.getA (mA_raw) (by decide) (i' := 3) rfl (wf_raw H) o_loadPair_37 ?_
      refine Wk.iload o_loadPair_40 rfl ?_
      refine Wk.iaload (mA_raw) (by decide) (i' := 3) rfl q3 q5 o_loadPair_42 (y := ((A 2) ((A 8) p1))) rfl ?_
      refine Wk.istore o_loadPair_43 (Or.inl rfl) (L' := [.val (.ref 0), .val (.int p1), .val (.int p2), .val (.int ((A 6) p1)), .val (.int ((A 8) p1)), .val (.int ((A 2) ((A 6) p1))), .val (.int ((A 2) ((A 8) p1))), .unset, .unset]) rfl ?_
      refine Wk.aloadN o_loadPair_45 rfl ?_
      refine Wk.iload o_loadPair_46 rfl ?_
      refine Wk.callF [.int ((A 2) ((A 8) p1))] [] (H.w 119 rfl) (cv_imm H) o_loadPair_48 (run_imm H F G A B ((A 2) ((A 8) p1))) (wt := 0) (cu' := 0) (su' := 0) (by decide) rfl rfl rfl rfl rfl rfl rfl ?_
      refine Wk.istore o_loadPair_51 (Or.inl rfl) (L' := [.val (.ref 0), .val (.int p1), .val (.int p2), .val (.int ((A 6) p1)), .val (.int ((A 8) p1)), .val (.int ((A 2) ((A 6) p1))), .val (.int ((A 2) ((A 8) p1))), .val (.int (f_imm ((A 2) ((A 8) p1)))), .unset]) rfl ?_
      refine Wk.iloadN o_loadPair_53 rfl ?_
      refine Wk.aloadN o_loadPair_54 rfl ?_
      refine Wk.iload o_loadPair_55 rfl ?_
      refine Wk.callF [.int ((A 2) ((A 6) p1))] [.int p2] (H.w 119 rfl) (cv_imm H) o_loadPair_57 (run_imm H F G A B ((A 2) ((A 6) p1))) (wt := 1) (cu' := 0) (su' := 0) (by decide) rfl rfl rfl rfl rfl rfl rfl ?_
      refine Wk.bipush o_loadPair_60 (z := (16 : Int32)) (by decide) ?_
      refine Wk.ishl o_loadPair_62 ?_
      refine Wk.iadd o_loadPair_63 ?_
      refine Wk.aloadN o_loadPair_64 rfl ?_
      refine Wk.iload o_loadPair_65 rfl ?_
      refine Wk.callF [.int (f_imm ((A 2) ((A 8) p1)))] [.int (p2 + ((f_imm ((A 2) ((A 6) p1))) <<< ((16 : Int32) &&& 31)))] (H.w 124 rfl) (cv_sext H) o_loadPair_67 (run_sext H F G A B (f_imm ((A 2) ((A 8) p1)))) (wt := 1) (cu' := 0) (su' := 0) (by decide) rfl rfl rfl rfl rfl rfl rfl ?_
      refine Wk.iadd o_loadPair_70 ?_
      refine Wk.istore o_loadPair_71 (Or.inl rfl) (L' := [.val (.ref 0), .val (.int p1), .val (.int p2), .val (.int ((A 6) p1)), .val (.int ((A 8) p1)), .val (.int ((A 2) ((A 6) p1))), .val (.int ((A 2) ((A 8) p1))), .val (.int (f_imm ((A 2) ((A 8) p1)))), .val (.int ((p2 + ((f_imm ((A 2) ((A 6) p1))) <<< ((16 : Int32) &&& 31))) + (f_sext (f_imm ((A 2) ((A 8) p1))))))]) rfl ?_
      refine Wk.aloadN o_loadPair_73 rfl ?_
      refine Wk.iloadN o_loadPair_74 rfl ?_
      refine Wk.iload o_loadPair_75 rfl ?_
      refine Wk.iload o_loadPair_77 rfl ?_
      refine Wk.callU [.int ((A 6) p1), .int ((A 8) p1), .int ((p2 + ((f_imm ((A 2) ((A 6) p1))) <<< ((16 : Int32) &&& 31))) + (f_sext (f_imm ((A 2) ((A 8) p1)))))] [] (H.w 129 rfl) (cv_writePair H) o_loadPair_79 (run_writePair H F G A B ((A 6) p1) ((A 8) p1) ((p2 + ((f_imm ((A 2) ((A 6) p1))) <<< ((16 : Int32) &&& 31))) + (f_sext (f_imm ((A 2) ((A 8) p1))))) (s8 q3 q5)) (wt := 0) (cu' := 0) (su' := 0) (by decide) rfl rfl rfl rfl rfl rfl rfl ?_
      exact Wk.ret mrC rfl o_loadPair_82 rfl (by decide) (by decide) (h9 q3 q5)
    · exact Wk.ret mrC rfl o_loadPair_27 rfl (by decide) (by decide) (h10 q3 q5)

theorem rt_loadPair (F : Nat → Int32) (G : Nat → Int64) (B : Nat → Int32 → Int64) (v0 : Int32) (xA : Nat → Int32 → Int32) (r : Int32 × (Nat → Int32 → Int32)) (e : (v0, xA) = r) : (none : Option Value) = none ∧ (10, F, G, xA, B) = (10, F, G, r.2, B) := by subst e; exact ⟨rfl, rfl⟩
def en_loadPair (A : Nat → Int32 → Int32) (p1 : Int32) (p2 : Int32) : Option (Int32 × (Nat → Int32 → Int32)) := (if (¬ p1 < 0) ∧ (p1 < (32 : Int32)) then (if ((A 8) p1) < 0 then some ((0 : Int32), A) else (if ((A 8) p1) < (64 : Int32) then (if (¬ ((A 6) p1) < 0) ∧ (((A 6) p1) < (64 : Int32)) ∧ ((en_writePair A ((A 6) p1) ((A 8) p1) ((p2 + ((f_imm ((A 2) ((A 6) p1))) <<< ((16 : Int32) &&& 31))) + (f_sext (f_imm ((A 2) ((A 8) p1)))))).isSome = true) then some ((0 : Int32), (R_writePair A ((A 6) p1) ((A 8) p1) ((p2 + ((f_imm ((A 2) ((A 6) p1))) <<< ((16 : Int32) &&& 31))) + (f_sext (f_imm ((A 2) ((A 8) p1)))))).2) else none) else some ((0 : Int32), A))) else none)
theorem een_loadPair (A : Nat → Int32 → Int32) (p1 : Int32) (p2 : Int32) : en_loadPair A p1 p2 = (if (¬ p1 < 0) ∧ (p1 < (32 : Int32)) then (if ((A 8) p1) < 0 then some ((0 : Int32), A) else (if ((A 8) p1) < (64 : Int32) then (if (¬ ((A 6) p1) < 0) ∧ (((A 6) p1) < (64 : Int32)) ∧ ((en_writePair A ((A 6) p1) ((A 8) p1) ((p2 + ((f_imm ((A 2) ((A 6) p1))) <<< ((16 : Int32) &&& 31))) + (f_sext (f_imm ((A 2) ((A 8) p1)))))).isSome = true) then some ((0 : Int32), (R_writePair A ((A 6) p1) ((A 8) p1) ((p2 + ((f_imm ((A 2) ((A 6) p1))) <<< ((16 : Int32) &&& 31))) + (f_sext (f_imm ((A 2) ((A 8) p1)))))).2) else none) else some ((0 : Int32), A))) else none) := Eq.trans rfl rfl
def R_loadPair (A : Nat → Int32 → Int32) (p1 : Int32) (p2 : Int32) : Int32 × (Nat → Int32 → Int32) := (en_loadPair A p1 p2).getD (0, (fun _ _ => 0))
theorem eR_loadPair (A : Nat → Int32 → Int32) (p1 : Int32) (p2 : Int32) : R_loadPair A p1 p2 = (en_loadPair A p1 p2).getD (0, (fun _ _ => 0)) := Eq.trans rfl rfl
set_option maxRecDepth 65536 in
set_option maxHeartbeats 4000000 in
theorem run_loadPair {l : Launch} {Z : State} {a0 : Array Value} (H : OK Z a0) (F : Nat → Int32) (G : Nat → Int64) (A : Nat → Int32 → Int32) (B : Nat → Int32 → Int64) (p1 : Int32) (p2 : Int32) (e1 : (en_loadPair A p1 p2).isSome = true) :
    Wk l Z (MoC Z cdC) md_loadPair 0 [.val (.ref 0), .val (.int p1), .val (.int p2), .unset, .unset, .unset, .unset, .unset, .unset] [] (10, F, G, A, B) 0 0 (fun v w' => v = none ∧ w' = (10, F, G, (R_loadPair A p1 p2).2, B)) := by
  obtain ⟨r, h⟩ := Option.isSome_iff_exists.mp e1
  have e : R_loadPair A p1 p2 = r := (eR_loadPair A p1 p2).trans (getD_some h)
  rw [e]
  rw [een_loadPair] at h
  exact wp_loadPair H F G A B p1 p2 ((gd h).1.1) ((gd h).1.2) (fun q3 => (rt_loadPair _ _ _ _ _ r (Option.some.inj (ifp q3 (gd h).2)))) (fun q3 q5 => (gd (ifp q5 (ifn q3 (gd h).2))).1.1) (fun q3 q5 => (gd (ifp q5 (ifn q3 (gd h).2))).1.2.1) (fun q3 q5 => (gd (ifp q5 (ifn q3 (gd h).2))).1.2.2) (fun q3 q5 => (rt_loadPair _ _ _ _ _ r (Option.some.inj (gd (ifp q5 (ifn q3 (gd h).2))).2))) (fun q3 q5 => (rt_loadPair _ _ _ _ _ r (Option.some.inj (ifn q5 (ifn q3 (gd h).2)))))
set_option maxRecDepth 65536 in
set_option maxHeartbeats 4000000 in
theorem wp_applyLoad {l : Launch} {Z : State} {a0 : Array Value} (H : OK Z a0) (F : Nat → Int32) (G : Nat → Int64) (A : Nat → Int32 → Int32) (B : Nat → Int32 → Int64) (p1 : Int32) (p2 : Int32) {Q : Option Value → WO → Prop} (s1 : ¬ p1 < 0) (s2 : p1 < (32 : Int32)) (s3 : (en_symbolAddr F A ((A 7) p1) p2).isSome = true) (s4 : ¬ ((A 6) p1) < 0) (s5 : ((A 6) p1) < (64 : Int32)) (s9 : ¬ ((A 5) p1) = (1 : Int32) → ¬ ((A 5) p1) = (2 : Int32) → ¬ ((A 5) p1) = (3 : Int32) → (en_loadPair A p1 (R_symbolAddr F A ((A 7) p1) p2)).isSome = true) (h10 : ¬ ((A 5) p1) = (1 : Int32) → ¬ ((A 5) p1) = (2 : Int32) → ¬ ((A 5) p1) = (3 : Int32) → Q none (10, F, G, (R_loadPair A p1 (R_symbolAddr F A ((A 7) p1) p2)).2, B)) (h11 : ¬ ((A 5) p1) = (1 : Int32) → ¬ ((A 5) p1) = (2 : Int32) → ((A 5) p1) = (3 : Int32) → False) (s12 : ¬ ((A 5) p1) = (1 : Int32) → ((A 5) p1) = (2 : Int32) → ¬ ((A 6) p1) < 0) (s13 : ¬ ((A 5) p1) = (1 : Int32) → ((A 5) p1) = (2 : Int32) → ((A 6) p1) < (64 : Int32)) (h14 : ¬ ((A 5) p1) = (1 : Int32) → ((A 5) p1) = (2 : Int32) → Q none (10, F, G, (ups A 3 (ups (A 3) ((A 6) p1) (((R_symbolAddr F A ((A 7) p1) p2) + ((A 2) ((A 6) p1))) - (p2 + ((A 6) p1))))), B)) (s15 : ((A 5) p1) = (1 : Int32) → ¬ ((A 6) p1) < 0) (s16 : ((A 5) p1) = (1 : Int32) → ((A 6) p1) < (64 : Int32)) (h17 : ((A 5) p1) = (1 : Int32) → Q none (10, F, G, (ups A 3 (ups (A 3) ((A 6) p1) ((R_symbolAddr F A ((A 7) p1) p2) + ((A 2) ((A 6) p1))))), B)) :
    Wk l Z (MoC Z cdC) md_applyLoad 0 [.val (.ref 0), .val (.int p1), .val (.int p2), .unset, .unset, .unset, .unset, .unset] [] (10, F, G, A, B) 0 0 Q := by
  refine Wk.aloadN o_applyLoad_0 rfl ?_
  refine Wk.getA (mA_recKind) (by decide) (i' := 6) rfl (wf_recKind H) o_applyLoad_1 ?_
  refine Wk.iloadN o_applyLoad_4 rfl ?_
  refine Wk.iaload (mA_recKind) (by decide) (i' := 6) rfl s1 s2 o_applyLoad_5 (y := ((A 5) p1)) rfl ?_
  refine Wk.istoreN o_applyLoad_6 (Or.inl rfl) (L' := [.val (.ref 0), .val (.int p1), .val (.int p2), .val (.int ((A 5) p1)), .unset, .unset, .unset, .unset]) rfl ?_
  refine Wk.aloadN o_applyLoad_7 rfl ?_
  refine Wk.getA (mA_recOff) (by decide) (i' := 7) rfl (wf_recOff H) o_applyLoad_8 ?_
  refine Wk.iloadN o_applyLoad_11 rfl ?_
  refine Wk.iaload (mA_recOff) (by decide) (i' := 7) rfl s1 s2 o_applyLoad_12 (y := ((A 6) p1)) rfl ?_
  refine Wk.istore o_applyLoad_13 (Or.inl rfl) (L' := [.val (.ref 0), .val (.int p1), .val (.int p2), .val (.int ((A 5) p1)), .val (.int ((A 6) p1)), .unset, .unset, .unset]) rfl ?_
  refine Wk.aloadN o_applyLoad_15 rfl ?_
  refine Wk.aloadN o_applyLoad_16 rfl ?_
  refine Wk.getA (mA_recTarget) (by decide) (i' := 8) rfl (wf_recTarget H) o_applyLoad_17 ?_
  refine Wk.iloadN o_applyLoad_20 rfl ?_
  refine Wk.iaload (mA_recTarget) (by decide) (i' := 8) rfl s1 s2 o_applyLoad_21 (y := ((A 7) p1)) rfl ?_
  refine Wk.iloadN o_applyLoad_22 rfl ?_
  refine Wk.callF [.int ((A 7) p1), .int p2] [] (H.w 111 rfl) (cv_symbolAddr H) o_applyLoad_23 (run_symbolAddr H F G A B ((A 7) p1) p2 s3) (wt := 0) (cu' := 0) (su' := 0) (by decide) rfl rfl rfl rfl rfl rfl rfl ?_
  refine Wk.istore o_applyLoad_26 (Or.inl rfl) (L' := [.val (.ref 0), .val (.int p1), .val (.int p2), .val (.int ((A 5) p1)), .val (.int ((A 6) p1)), .val (.int (R_symbolAddr F A ((A 7) p1) p2)), .unset, .unset]) rfl ?_
  refine Wk.aloadN o_applyLoad_28 rfl ?_
  refine Wk.getA (mA_raw) (by decide) (i' := 3) rfl (wf_raw H) o_applyLoad_29 ?_
  refine Wk.iload o_applyLoad_32 rfl ?_
  refine Wk.iaload (mA_raw) (by decide) (i' := 3) rfl s4 s5 o_applyLoad_34 (y := ((A 2) ((A 6) p1))) rfl ?_
  refine Wk.istore o_applyLoad_35 (Or.inl rfl) (L' := [.val (.ref 0), .val (.int p1), .val (.int p2), .val (.int ((A 5) p1)), .val (.int ((A 6) p1)), .val (.int (R_symbolAddr F A ((A 7) p1) p2)), .val (.int ((A 2) ((A 6) p1))), .unset]) rfl ?_
  refine Wk.iloadN o_applyLoad_37 rfl ?_
  refine Wk.iconst o_applyLoad_38 (z := (1 : Int32)) (by decide) ?_
  refine Wk.icmp_ne o_applyLoad_39 (fun q6 => ?_) (fun q6 => ?_)
  · refine Wk.iloadN o_applyLoad_57 rfl ?_
    refine Wk.iconst o_applyLoad_58 (z := (2 : Int32)) (by decide) ?_
    refine Wk.icmp_ne o_applyLoad_59 (fun q7 => ?_) (fun q7 => ?_)
    · refine Wk.iloadN o_applyLoad_86 rfl ?_
      refine Wk.iconst o_applyLoad_87 (z := (3 : Int32)) (by decide) ?_
      refine Wk.icmp_ne o_applyLoad_88 (fun q8 => ?_) (fun q8 => ?_)
      · refine Wk.aloadN o_applyLoad_109 rfl ?_
        refine Wk.iloadN o_applyLoad_110 rfl ?_
        refine Wk.iload o_applyLoad_111 rfl ?_
        refine Wk.callU [.int p1, .int (R_symbolAddr F A ((A 7) p1) p2)] [] (H.w 115 rfl) (cv_loadPair H) o_applyLoad_113 (run_loadPair H F G A B p1 (R_symbolAddr F A ((A 7) p1) p2) (s9 q6 q7 q8)) (wt := 0) (cu' := 0) (su' := 0) (by decide) rfl rfl rfl rfl rfl rfl rfl ?_
        exact Wk.ret mrC rfl o_applyLoad_116 rfl (by decide) (by decide) (h10 q6 q7 q8)
      · refine Wk.aloadN o_applyLoad_91 rfl ?_
        refine Wk.getA (mA_cur) (by decide) (i' := 4) rfl (wf_cur H) o_applyLoad_92 ?_
        refine Wk.iload o_applyLoad_95 rfl ?_
        refine Wk.aloadN o_applyLoad_97 rfl ?_
        refine Wk.iload o_applyLoad_98 rfl ?_
        refine Wk.iload o_applyLoad_100 rfl ?_
        exact False.elim (h11 q6 q7 q8)
    · refine Wk.iloadN o_applyLoad_62 rfl ?_
      refine Wk.iload o_applyLoad_63 rfl ?_
      refine Wk.iadd o_applyLoad_65 ?_
      refine Wk.istore o_applyLoad_66 (Or.inl rfl) (L' := [.val (.ref 0), .val (.int p1), .val (.int p2), .val (.int ((A 5) p1)), .val (.int ((A 6) p1)), .val (.int (R_symbolAddr F A ((A 7) p1) p2)), .val (.int ((A 2) ((A 6) p1))), .val (.int (p2 + ((A 6) p1)))]) rfl ?_
      refine Wk.aloadN o_applyLoad_68 rfl ?_
      refine Wk.getA (mA_cur) (by decide) (i' := 4) rfl (wf_cur H) o_applyLoad_69 ?_
      refine Wk.iload o_applyLoad_72 rfl ?_
      refine Wk.iload o_applyLoad_74 rfl ?_
      refine Wk.iload o_applyLoad_76 rfl ?_
      refine Wk.iadd o_applyLoad_78 ?_
      refine Wk.iload o_applyLoad_79 rfl ?_
      refine Wk.isub o_applyLoad_81 ?_
      refine Wk.iastore (coC H) (f := (A 3)) (mA_cur) rfl (by decide) (i' := 4) rfl (s12 q6 q7) (s13 q6 q7) o_applyLoad_82 ?_
      refine Wk.goto o_applyLoad_83 ?_
      exact Wk.ret mrC rfl o_applyLoad_116 rfl (by decide) (by decide) (h14 q6 q7)
  · refine Wk.aloadN o_applyLoad_42 rfl ?_
    refine Wk.getA (mA_cur) (by decide) (i' := 4) rfl (wf_cur H) o_applyLoad_43 ?_
    refine Wk.iload o_applyLoad_46 rfl ?_
    refine Wk.iload o_applyLoad_48 rfl ?_
    refine Wk.iload o_applyLoad_50 rfl ?_
    refine Wk.iadd o_applyLoad_52 ?_
    refine Wk.iastore (coC H) (f := (A 3)) (mA_cur) rfl (by decide) (i' := 4) rfl (s15 q6) (s16 q6) o_applyLoad_53 ?_
    refine Wk.goto o_applyLoad_54 ?_
    exact Wk.ret mrC rfl o_applyLoad_116 rfl (by decide) (by decide) (h17 q6)

theorem rt_applyLoad (F : Nat → Int32) (G : Nat → Int64) (B : Nat → Int32 → Int64) (v0 : Int32) (xA : Nat → Int32 → Int32) (r : Int32 × (Nat → Int32 → Int32)) (e : (v0, xA) = r) : (none : Option Value) = none ∧ (10, F, G, xA, B) = (10, F, G, r.2, B) := by subst e; exact ⟨rfl, rfl⟩
def en_applyLoad (F : Nat → Int32) (A : Nat → Int32 → Int32) (p1 : Int32) (p2 : Int32) : Option (Int32 × (Nat → Int32 → Int32)) := (if (¬ p1 < 0) ∧ (p1 < (32 : Int32)) ∧ ((en_symbolAddr F A ((A 7) p1) p2).isSome = true) ∧ (¬ ((A 6) p1) < 0) ∧ (((A 6) p1) < (64 : Int32)) then (if ((A 5) p1) = (1 : Int32) then (if (¬ ((A 6) p1) < 0) ∧ (((A 6) p1) < (64 : Int32)) then some ((0 : Int32), (ups A 3 (ups (A 3) ((A 6) p1) ((R_symbolAddr F A ((A 7) p1) p2) + ((A 2) ((A 6) p1)))))) else none) else (if ((A 5) p1) = (2 : Int32) then (if (¬ ((A 6) p1) < 0) ∧ (((A 6) p1) < (64 : Int32)) then some ((0 : Int32), (ups A 3 (ups (A 3) ((A 6) p1) (((R_symbolAddr F A ((A 7) p1) p2) + ((A 2) ((A 6) p1))) - (p2 + ((A 6) p1)))))) else none) else (if ((A 5) p1) = (3 : Int32) then none else (if ((en_loadPair A p1 (R_symbolAddr F A ((A 7) p1) p2)).isSome = true) then some ((0 : Int32), (R_loadPair A p1 (R_symbolAddr F A ((A 7) p1) p2)).2) else none)))) else none)
theorem een_applyLoad (F : Nat → Int32) (A : Nat → Int32 → Int32) (p1 : Int32) (p2 : Int32) : en_applyLoad F A p1 p2 = (if (¬ p1 < 0) ∧ (p1 < (32 : Int32)) ∧ ((en_symbolAddr F A ((A 7) p1) p2).isSome = true) ∧ (¬ ((A 6) p1) < 0) ∧ (((A 6) p1) < (64 : Int32)) then (if ((A 5) p1) = (1 : Int32) then (if (¬ ((A 6) p1) < 0) ∧ (((A 6) p1) < (64 : Int32)) then some ((0 : Int32), (ups A 3 (ups (A 3) ((A 6) p1) ((R_symbolAddr F A ((A 7) p1) p2) + ((A 2) ((A 6) p1)))))) else none) else (if ((A 5) p1) = (2 : Int32) then (if (¬ ((A 6) p1) < 0) ∧ (((A 6) p1) < (64 : Int32)) then some ((0 : Int32), (ups A 3 (ups (A 3) ((A 6) p1) (((R_symbolAddr F A ((A 7) p1) p2) + ((A 2) ((A 6) p1))) - (p2 + ((A 6) p1)))))) else none) else (if ((A 5) p1) = (3 : Int32) then none else (if ((en_loadPair A p1 (R_symbolAddr F A ((A 7) p1) p2)).isSome = true) then some ((0 : Int32), (R_loadPair A p1 (R_symbolAddr F A ((A 7) p1) p2)).2) else none)))) else none) := Eq.trans rfl rfl
def R_applyLoad (F : Nat → Int32) (A : Nat → Int32 → Int32) (p1 : Int32) (p2 : Int32) : Int32 × (Nat → Int32 → Int32) := (en_applyLoad F A p1 p2).getD (0, (fun _ _ => 0))
theorem eR_applyLoad (F : Nat → Int32) (A : Nat → Int32 → Int32) (p1 : Int32) (p2 : Int32) : R_applyLoad F A p1 p2 = (en_applyLoad F A p1 p2).getD (0, (fun _ _ => 0)) := Eq.trans rfl rfl
set_option maxRecDepth 65536 in
set_option maxHeartbeats 4000000 in
theorem run_applyLoad {l : Launch} {Z : State} {a0 : Array Value} (H : OK Z a0) (F : Nat → Int32) (G : Nat → Int64) (A : Nat → Int32 → Int32) (B : Nat → Int32 → Int64) (p1 : Int32) (p2 : Int32) (e1 : (en_applyLoad F A p1 p2).isSome = true) :
    Wk l Z (MoC Z cdC) md_applyLoad 0 [.val (.ref 0), .val (.int p1), .val (.int p2), .unset, .unset, .unset, .unset, .unset] [] (10, F, G, A, B) 0 0 (fun v w' => v = none ∧ w' = (10, F, G, (R_applyLoad F A p1 p2).2, B)) := by
  obtain ⟨r, h⟩ := Option.isSome_iff_exists.mp e1
  have e : R_applyLoad F A p1 p2 = r := (eR_applyLoad F A p1 p2).trans (getD_some h)
  rw [e]
  rw [een_applyLoad] at h
  exact wp_applyLoad H F G A B p1 p2 ((gd h).1.1) ((gd h).1.2.1) ((gd h).1.2.2.1) ((gd h).1.2.2.2.1) ((gd h).1.2.2.2.2) (fun q6 q7 q8 => (gd (ifn q8 (ifn q7 (ifn q6 (gd h).2)))).1) (fun q6 q7 q8 => (rt_applyLoad _ _ _ _ _ r (Option.some.inj (gd (ifn q8 (ifn q7 (ifn q6 (gd h).2)))).2))) (fun q6 q7 q8 => (by have e := (ifp q8 (ifn q7 (ifn q6 (gd h).2))); cases e)) (fun q6 q7 => (gd (ifp q7 (ifn q6 (gd h).2))).1.1) (fun q6 q7 => (gd (ifp q7 (ifn q6 (gd h).2))).1.2) (fun q6 q7 => (rt_applyLoad _ _ _ _ _ r (Option.some.inj (gd (ifp q7 (ifn q6 (gd h).2))).2))) (fun q6 => (gd (ifp q6 (gd h).2)).1.1) (fun q6 => (gd (ifp q6 (gd h).2)).1.2) (fun q6 => (rt_applyLoad _ _ _ _ _ r (Option.some.inj (gd (ifp q6 (gd h).2)).2)))
set_option maxRecDepth 65536 in
set_option maxHeartbeats 4000000 in
theorem wp_resetMachine {l : Launch} {Z : State} {a0 : Array Value} (H : OK Z a0) (F : Nat → Int32) (G : Nat → Int64) (A : Nat → Int32 → Int32) (B : Nat → Int32 → Int64) (p1 : Int32) {Q : Option Value → WO → Prop} (h1 : Wk l Z (MoC Z cdC) md_resetMachine 2 [.val (.ref 0), .val (.int p1), .val (.int (0 : Int32))] [] (10, F, G, A, B) 0 0 Q) :
    Wk l Z (MoC Z cdC) md_resetMachine 0 [.val (.ref 0), .val (.int p1), .unset] [] (10, F, G, A, B) 0 0 Q := by
  refine Wk.iconst o_resetMachine_0 (z := (0 : Int32)) (by decide) ?_
  refine Wk.istoreN o_resetMachine_1 (Or.inl rfl) (L' := [.val (.ref 0), .val (.int p1), .val (.int (0 : Int32))]) rfl ?_
  exact h1

set_option maxRecDepth 65536 in
set_option maxHeartbeats 4000000 in
theorem wp_resetMachine_2 {l : Launch} {Z : State} {a0 : Array Value} (H : OK Z a0) (F : Nat → Int32) (G : Nat → Int64) (A : Nat → Int32 → Int32) (B : Nat → Int32 → Int64) (v1 : Int32) (v2 : Int32) {Q : Option Value → WO → Prop} (h2 : ¬ v2 < (8 : Int32) → Q none (10, (ups (ups F 7 (0 : Int32)) 5 v1), G, A, B)) (s3 : v2 < (8 : Int32) → ¬ v2 < 0) (h4 : v2 < (8 : Int32) → Wk l Z (MoC Z cdC) md_resetMachine 2 [.val (.ref 0), .val (.int v1), .val (.int (v2 + (1 : Int32)))] [] (10, F, G, (ups A 9 (ups (A 9) v2 (0 : Int32))), B) 0 0 Q) :
    Wk l Z (MoC Z cdC) md_resetMachine 2 [.val (.ref 0), .val (.int v1), .val (.int v2)] [] (10, F, G, A, B) 0 0 Q := by
  refine Wk.iloadN o_resetMachine_2 rfl ?_
  refine Wk.bipush o_resetMachine_3 (z := (8 : Int32)) (by decide) ?_
  refine Wk.icmp_ge o_resetMachine_5 (fun q1 => ?_) (fun q1 => ?_)
  · refine Wk.aloadN o_resetMachine_21 rfl ?_
    refine Wk.iconst o_resetMachine_22 (z := (0 : Int32)) (by decide) ?_
    refine Wk.putI (coC H) (mI_pcReg) (wf_pcReg H) (Or.inl (wy_pcReg H)) o_resetMachine_23 ?_
    refine Wk.aloadN o_resetMachine_26 rfl ?_
    refine Wk.iloadN o_resetMachine_27 rfl ?_
    refine Wk.putI (coC H) (mI_state) (wf_state H) (Or.inl (wy_state H)) o_resetMachine_28 ?_
    exact Wk.ret mrC rfl o_resetMachine_31 rfl (by decide) (by decide) (h2 q1)
  · refine Wk.aloadN o_resetMachine_8 rfl ?_
    refine Wk.getA (mA_regs) (by decide) (i' := 10) rfl (wf_regs H) o_resetMachine_9 ?_
    refine Wk.iloadN o_resetMachine_12 rfl ?_
    refine Wk.iconst o_resetMachine_13 (z := (0 : Int32)) (by decide) ?_
    refine Wk.iastore (coC H) (f := (A 9)) (mA_regs) rfl (by decide) (i' := 10) rfl (s3 q1) q1 o_resetMachine_14 ?_
    refine Wk.iinc o_resetMachine_15 rfl (z := (v2 + (1 : Int32))) rfl (L' := [.val (.ref 0), .val (.int v1), .val (.int (v2 + (1 : Int32)))]) rfl ?_
    refine Wk.goto o_resetMachine_18 ?_
    exact (h4 q1)

theorem rt_resetMachine (G : Nat → Int64) (B : Nat → Int32 → Int64) (v0 : Int32) (xF : Nat → Int32) (xA : Nat → Int32 → Int32) (r : Int32 × (Nat → Int32) × (Nat → Int32 → Int32)) (e : (v0, xF, xA) = r) : (none : Option Value) = none ∧ (10, xF, G, xA, B) = (10, r.2.1, G, r.2.2, B) := by subst e; exact ⟨rfl, rfl⟩
def lp_resetMachine : Nat → Nat → Int32 → Int32 → (Nat → Int32) → (Nat → Int32 → Int32) → Option (Int32 × (Nat → Int32) × (Nat → Int32 → Int32))
  | 0, _, _, _, _, _ => none
  | n + 1, tag, v1, v2, F, A => if tag = 2 then (if v2 < (8 : Int32) then (if (¬ v2 < 0) then lp_resetMachine n 2 v1 (v2 + (1 : Int32)) F (ups A 9 (ups (A 9) v2 (0 : Int32))) else none) else some ((0 : Int32), (ups (ups F 7 (0 : Int32)) 5 v1), A)) else none
theorem lp_resetMachine_z (tag : Nat) (v1 : Int32) (v2 : Int32) (F : Nat → Int32) (A : Nat → Int32 → Int32) : lp_resetMachine 0 tag v1 v2 F A = none := Eq.trans rfl rfl
theorem lp_resetMachine_2 (n : Nat) (v1 : Int32) (v2 : Int32) (F : Nat → Int32) (A : Nat → Int32 → Int32) : lp_resetMachine (n + 1) 2 v1 v2 F A = (if v2 < (8 : Int32) then (if (¬ v2 < 0) then lp_resetMachine n 2 v1 (v2 + (1 : Int32)) F (ups A 9 (ups (A 9) v2 (0 : Int32))) else none) else some ((0 : Int32), (ups (ups F 7 (0 : Int32)) 5 v1), A)) := by
  rw [lp_resetMachine, if_pos rfl]
set_option maxRecDepth 65536 in
set_option maxHeartbeats 4000000 in
theorem lpw_resetMachine {l : Launch} {Z : State} {a0 : Array Value} (H : OK Z a0) (G : Nat → Int64) (B : Nat → Int32 → Int64) : ∀ (n : Nat) (v1 : Int32) (v2 : Int32) (F : Nat → Int32) (A : Nat → Int32 → Int32) (r : Int32 × (Nat → Int32) × (Nat → Int32 → Int32)), (lp_resetMachine n 2 v1 v2 F A = some r → Wk l Z (MoC Z cdC) md_resetMachine 2 [.val (.ref 0), .val (.int v1), .val (.int v2)] [] (10, F, G, A, B) 0 0 (fun v w' => v = none ∧ w' = (10, r.2.1, G, r.2.2, B))) := by
  intro n
  induction n with
  | zero =>
    intro v1 v2 F A r
    exact (fun h => by rw [lp_resetMachine_z] at h; cases h)
  | succ n ih =>
    intro v1 v2 F A r
    refine fun h => ?_
    · rw [lp_resetMachine_2] at h
      exact wp_resetMachine_2 H F G A B v1 v2 (fun q1 => (rt_resetMachine _ _ _ _ _ r (Option.some.inj (ifn q1 h)))) (fun q1 => (gd (ifp q1 h)).1) (fun q1 => (ih _ _ _ _ _) (gd (ifp q1 h)).2)
def en_resetMachine (F : Nat → Int32) (A : Nat → Int32 → Int32) (p1 : Int32) : Option (Int32 × (Nat → Int32) × (Nat → Int32 → Int32)) := lp_resetMachine 1000 2 p1 (0 : Int32) F A
theorem een_resetMachine (F : Nat → Int32) (A : Nat → Int32 → Int32) (p1 : Int32) : en_resetMachine F A p1 = lp_resetMachine 1000 2 p1 (0 : Int32) F A := Eq.trans rfl rfl
def R_resetMachine (F : Nat → Int32) (A : Nat → Int32 → Int32) (p1 : Int32) : Int32 × (Nat → Int32) × (Nat → Int32 → Int32) := (en_resetMachine F A p1).getD (0, (fun _ => 0), (fun _ _ => 0))
theorem eR_resetMachine (F : Nat → Int32) (A : Nat → Int32 → Int32) (p1 : Int32) : R_resetMachine F A p1 = (en_resetMachine F A p1).getD (0, (fun _ => 0), (fun _ _ => 0)) := Eq.trans rfl rfl
set_option maxRecDepth 65536 in
set_option maxHeartbeats 4000000 in
theorem run_resetMachine {l : Launch} {Z : State} {a0 : Array Value} (H : OK Z a0) (F : Nat → Int32) (G : Nat → Int64) (A : Nat → Int32 → Int32) (B : Nat → Int32 → Int64) (p1 : Int32) (e1 : (en_resetMachine F A p1).isSome = true) :
    Wk l Z (MoC Z cdC) md_resetMachine 0 [.val (.ref 0), .val (.int p1), .unset] [] (10, F, G, A, B) 0 0 (fun v w' => v = none ∧ w' = (10, (R_resetMachine F A p1).2.1, G, (R_resetMachine F A p1).2.2, B)) := by
  obtain ⟨r, h⟩ := Option.isSome_iff_exists.mp e1
  have e : R_resetMachine F A p1 = r := (eR_resetMachine F A p1).trans (getD_some h)
  rw [e]
  rw [een_resetMachine] at h
  exact wp_resetMachine H F G A B p1 ((lpw_resetMachine H G B _ _ _ _ _ _) h)
set_option maxRecDepth 65536 in
set_option maxHeartbeats 4000000 in
theorem wp_load {l : Launch} {Z : State} {a0 : Array Value} (H : OK Z a0) (F : Nat → Int32) (G : Nat → Int64) (A : Nat → Int32 → Int32) (B : Nat → Int32 → Int64) (p1 : Int32) {Q : Option Value → WO → Prop} (h3 : (F 5) = 0 → ¬ (f_legalBase p1) = 0 → Wk l Z (MoC Z cdC) md_load 22 [.val (.ref 0), .val (.int p1), .val (.int (0 : Int32))] [] (10, F, G, A, B) 0 0 Q) (h4 : (F 5) = 0 → (f_legalBase p1) = 0 → Q (some (.int (-2 : Int32))) (10, F, G, A, B)) (h5 : ¬ (F 5) = 0 → Q (some (.int (-1 : Int32))) (10, F, G, A, B)) :
    Wk l Z (MoC Z cdC) md_load 0 [.val (.ref 0), .val (.int p1), .unset] [] (10, F, G, A, B) 0 0 Q := by
  refine Wk.aloadN o_load_0 rfl ?_
  refine Wk.getI (mI_state) (wf_state H) o_load_1 (x := (F 5)) rfl ?_
  refine Wk.if_eq o_load_4 (fun q1 => ?_) (fun q1 => ?_)
  · refine Wk.aloadN o_load_9 rfl ?_
    refine Wk.iloadN o_load_10 rfl ?_
    refine Wk.callF [.int p1] [] (H.w 103 rfl) (cv_legalBase H) o_load_11 (run_legalBase H F G A B p1) (wt := 0) (cu' := 0) (su' := 0) (by decide) rfl rfl rfl rfl rfl rfl rfl ?_
    refine Wk.if_ne o_load_14 (fun q2 => ?_) (fun q2 => ?_)
    · refine Wk.iconst o_load_20 (z := (0 : Int32)) (by decide) ?_
      refine Wk.istoreN o_load_21 (Or.inl rfl) (L' := [.val (.ref 0), .val (.int p1), .val (.int (0 : Int32))]) rfl ?_
      exact (h3 q1 q2)
    · refine Wk.bipush o_load_17 (z := (-2 : Int32)) (by decide) ?_
      exact Wk.ireturn mrC rfl o_load_19 rfl (by decide) (by decide) (h4 q1 q2)
  · refine Wk.iconst o_load_7 (z := (-1 : Int32)) (by decide) ?_
    exact Wk.ireturn mrC rfl o_load_8 rfl (by decide) (by decide) (h5 q1)

set_option maxRecDepth 65536 in
set_option maxHeartbeats 4000000 in
theorem wp_load_22 {l : Launch} {Z : State} {a0 : Array Value} (H : OK Z a0) (F : Nat → Int32) (G : Nat → Int64) (A : Nat → Int32 → Int32) (B : Nat → Int32 → Int64) (v1 : Int32) (v2 : Int32) {Q : Option Value → WO → Prop} (h2 : ¬ v2 < (F 3) → Wk l Z (MoC Z cdC) md_load 56 [.val (.ref 0), .val (.int v1), .val (.int (0 : Int32))] [] (10, F, G, A, B) 0 0 Q) (h4 : v2 < (F 3) → ¬ v2 < (64 : Int32) → Wk l Z (MoC Z cdC) md_load 56 [.val (.ref 0), .val (.int v1), .val (.int (0 : Int32))] [] (10, F, G, A, B) 0 0 Q) (s5 : v2 < (F 3) → v2 < (64 : Int32) → ¬ v2 < 0) (h6 : v2 < (F 3) → v2 < (64 : Int32) → Wk l Z (MoC Z cdC) md_load 22 [.val (.ref 0), .val (.int v1), .val (.int (v2 + (1 : Int32)))] [] (10, F, G, (ups A 3 (ups (A 3) v2 ((A 2) v2))), B) 0 0 Q) :
    Wk l Z (MoC Z cdC) md_load 22 [.val (.ref 0), .val (.int v1), .val (.int v2)] [] (10, F, G, A, B) 0 0 Q := by
  refine Wk.iloadN o_load_22 rfl ?_
  refine Wk.aloadN o_load_23 rfl ?_
  refine Wk.getI (mI_imgSize) (wf_imgSize H) o_load_24 (x := (F 3)) rfl ?_
  refine Wk.icmp_ge o_load_27 (fun q1 => ?_) (fun q1 => ?_)
  · refine Wk.iconst o_load_54 (z := (0 : Int32)) (by decide) ?_
    refine Wk.istoreN o_load_55 (Or.inr ⟨_, rfl, rfl⟩) (L' := [.val (.ref 0), .val (.int v1), .val (.int (0 : Int32))]) rfl ?_
    exact (h2 q1)
  · refine Wk.iloadN o_load_30 rfl ?_
    refine Wk.bipush o_load_31 (z := (64 : Int32)) (by decide) ?_
    refine Wk.icmp_ge o_load_33 (fun q3 => ?_) (fun q3 => ?_)
    · refine Wk.iconst o_load_54 (z := (0 : Int32)) (by decide) ?_
      refine Wk.istoreN o_load_55 (Or.inr ⟨_, rfl, rfl⟩) (L' := [.val (.ref 0), .val (.int v1), .val (.int (0 : Int32))]) rfl ?_
      exact (h4 q1 q3)
    · refine Wk.aloadN o_load_36 rfl ?_
      refine Wk.getA (mA_cur) (by decide) (i' := 4) rfl (wf_cur H) o_load_37 ?_
      refine Wk.iloadN o_load_40 rfl ?_
      refine Wk.aloadN o_load_41 rfl ?_
      refine Wk.getA (mA_raw) (by decide) (i' := 3) rfl (wf_raw H) o_load_42 ?_
      refine Wk.iloadN o_load_45 rfl ?_
      refine Wk.iaload (mA_raw) (by decide) (i' := 3) rfl (s5 q1 q3) q3 o_load_46 (y := ((A 2) v2)) rfl ?_
      refine Wk.iastore (coC H) (f := (A 3)) (mA_cur) rfl (by decide) (i' := 4) rfl (s5 q1 q3) q3 o_load_47 ?_
      refine Wk.iinc o_load_48 rfl (z := (v2 + (1 : Int32))) rfl (L' := [.val (.ref 0), .val (.int v1), .val (.int (v2 + (1 : Int32)))]) rfl ?_
      refine Wk.goto o_load_51 ?_
      exact (h6 q1 q3)

set_option maxRecDepth 65536 in
set_option maxHeartbeats 4000000 in
theorem wp_load_56 {l : Launch} {Z : State} {a0 : Array Value} (H : OK Z a0) (F : Nat → Int32) (G : Nat → Int64) (A : Nat → Int32 → Int32) (B : Nat → Int32 → Int64) (v1 : Int32) (v2 : Int32) {Q : Option Value → WO → Prop} (s2 : ¬ v2 < (F 4) → (en_resetMachine (ups F 6 v1) A (1 : Int32)).isSome = true) (h3 : ¬ v2 < (F 4) → Q (some (.int (0 : Int32))) (10, (R_resetMachine (ups F 6 v1) A (1 : Int32)).2.1, G, (R_resetMachine (ups F 6 v1) A (1 : Int32)).2.2, B)) (s5 : v2 < (F 4) → ¬ v2 < (32 : Int32) → (en_resetMachine (ups F 6 v1) A (1 : Int32)).isSome = true) (h6 : v2 < (F 4) → ¬ v2 < (32 : Int32) → Q (some (.int (0 : Int32))) (10, (R_resetMachine (ups F 6 v1) A (1 : Int32)).2.1, G, (R_resetMachine (ups F 6 v1) A (1 : Int32)).2.2, B)) (s7 : v2 < (F 4) → v2 < (32 : Int32) → (en_applyLoad F A v2 v1).isSome = true) (h8 : v2 < (F 4) → v2 < (32 : Int32) → Wk l Z (MoC Z cdC) md_load 56 [.val (.ref 0), .val (.int v1), .val (.int (v2 + (1 : Int32)))] [] (10, F, G, (R_applyLoad F A v2 v1).2, B) 0 0 Q) :
    Wk l Z (MoC Z cdC) md_load 56 [.val (.ref 0), .val (.int v1), .val (.int v2)] [] (10, F, G, A, B) 0 0 Q := by
  refine Wk.iloadN o_load_56 rfl ?_
  refine Wk.aloadN o_load_57 rfl ?_
  refine Wk.getI (mI_nRec) (wf_nRec H) o_load_58 (x := (F 4)) rfl ?_
  refine Wk.icmp_ge o_load_61 (fun q1 => ?_) (fun q1 => ?_)
  · refine Wk.aloadN o_load_82 rfl ?_
    refine Wk.iloadN o_load_83 rfl ?_
    refine Wk.putI (coC H) (mI_baseAddr) (wf_baseAddr H) (Or.inl (wy_baseAddr H)) o_load_84 ?_
    refine Wk.aloadN o_load_87 rfl ?_
    refine Wk.iconst o_load_88 (z := (1 : Int32)) (by decide) ?_
    refine Wk.callU [.int (1 : Int32)] [] (H.w 138 rfl) (cv_resetMachine H) o_load_89 (run_resetMachine H (ups F 6 v1) G A B (1 : Int32) (s2 q1)) (wt := 0) (cu' := 0) (su' := 0) (by decide) rfl rfl rfl rfl rfl rfl rfl ?_
    refine Wk.iconst o_load_92 (z := (0 : Int32)) (by decide) ?_
    exact Wk.ireturn mrC rfl o_load_93 rfl (by decide) (by decide) (h3 q1)
  · refine Wk.iloadN o_load_64 rfl ?_
    refine Wk.bipush o_load_65 (z := (32 : Int32)) (by decide) ?_
    refine Wk.icmp_ge o_load_67 (fun q4 => ?_) (fun q4 => ?_)
    · refine Wk.aloadN o_load_82 rfl ?_
      refine Wk.iloadN o_load_83 rfl ?_
      refine Wk.putI (coC H) (mI_baseAddr) (wf_baseAddr H) (Or.inl (wy_baseAddr H)) o_load_84 ?_
      refine Wk.aloadN o_load_87 rfl ?_
      refine Wk.iconst o_load_88 (z := (1 : Int32)) (by decide) ?_
      refine Wk.callU [.int (1 : Int32)] [] (H.w 138 rfl) (cv_resetMachine H) o_load_89 (run_resetMachine H (ups F 6 v1) G A B (1 : Int32) (s5 q1 q4)) (wt := 0) (cu' := 0) (su' := 0) (by decide) rfl rfl rfl rfl rfl rfl rfl ?_
      refine Wk.iconst o_load_92 (z := (0 : Int32)) (by decide) ?_
      exact Wk.ireturn mrC rfl o_load_93 rfl (by decide) (by decide) (h6 q1 q4)
    · refine Wk.aloadN o_load_70 rfl ?_
      refine Wk.iloadN o_load_71 rfl ?_
      refine Wk.iloadN o_load_72 rfl ?_
      refine Wk.callU [.int v2, .int v1] [] (H.w 107 rfl) (cv_applyLoad H) o_load_73 (run_applyLoad H F G A B v2 v1 (s7 q1 q4)) (wt := 0) (cu' := 0) (su' := 0) (by decide) rfl rfl rfl rfl rfl rfl rfl ?_
      refine Wk.iinc o_load_76 rfl (z := (v2 + (1 : Int32))) rfl (L' := [.val (.ref 0), .val (.int v1), .val (.int (v2 + (1 : Int32)))]) rfl ?_
      refine Wk.goto o_load_79 ?_
      exact (h8 q1 q4)

theorem rt_load (G : Nat → Int64) (B : Nat → Int32 → Int64) (v0 : Int32) (xF : Nat → Int32) (xA : Nat → Int32 → Int32) (r : Int32 × (Nat → Int32) × (Nat → Int32 → Int32)) (e : (v0, xF, xA) = r) : some (Value.int v0) = some (.int r.1) ∧ (10, xF, G, xA, B) = (10, r.2.1, G, r.2.2, B) := by subst e; exact ⟨rfl, rfl⟩
def lp_load : Nat → Nat → Int32 → Int32 → (Nat → Int32) → (Nat → Int32 → Int32) → Option (Int32 × (Nat → Int32) × (Nat → Int32 → Int32))
  | 0, _, _, _, _, _ => none
  | n + 1, tag, v1, v2, F, A => if tag = 22 then (if v2 < (F 3) then (if v2 < (64 : Int32) then (if (¬ v2 < 0) then lp_load n 22 v1 (v2 + (1 : Int32)) F (ups A 3 (ups (A 3) v2 ((A 2) v2))) else none) else lp_load n 56 v1 (0 : Int32) F A) else lp_load n 56 v1 (0 : Int32) F A) else if tag = 56 then (if v2 < (F 4) then (if v2 < (32 : Int32) then (if ((en_applyLoad F A v2 v1).isSome = true) then lp_load n 56 v1 (v2 + (1 : Int32)) F (R_applyLoad F A v2 v1).2 else none) else (if ((en_resetMachine (ups F 6 v1) A (1 : Int32)).isSome = true) then some ((0 : Int32), (R_resetMachine (ups F 6 v1) A (1 : Int32)).2.1, (R_resetMachine (ups F 6 v1) A (1 : Int32)).2.2) else none)) else (if ((en_resetMachine (ups F 6 v1) A (1 : Int32)).isSome = true) then some ((0 : Int32), (R_resetMachine (ups F 6 v1) A (1 : Int32)).2.1, (R_resetMachine (ups F 6 v1) A (1 : Int32)).2.2) else none)) else none
theorem lp_load_z (tag : Nat) (v1 : Int32) (v2 : Int32) (F : Nat → Int32) (A : Nat → Int32 → Int32) : lp_load 0 tag v1 v2 F A = none := Eq.trans rfl rfl
theorem lp_load_22 (n : Nat) (v1 : Int32) (v2 : Int32) (F : Nat → Int32) (A : Nat → Int32 → Int32) : lp_load (n + 1) 22 v1 v2 F A = (if v2 < (F 3) then (if v2 < (64 : Int32) then (if (¬ v2 < 0) then lp_load n 22 v1 (v2 + (1 : Int32)) F (ups A 3 (ups (A 3) v2 ((A 2) v2))) else none) else lp_load n 56 v1 (0 : Int32) F A) else lp_load n 56 v1 (0 : Int32) F A) := by
  rw [lp_load, if_pos rfl]
theorem lp_load_56 (n : Nat) (v1 : Int32) (v2 : Int32) (F : Nat → Int32) (A : Nat → Int32 → Int32) : lp_load (n + 1) 56 v1 v2 F A = (if v2 < (F 4) then (if v2 < (32 : Int32) then (if ((en_applyLoad F A v2 v1).isSome = true) then lp_load n 56 v1 (v2 + (1 : Int32)) F (R_applyLoad F A v2 v1).2 else none) else (if ((en_resetMachine (ups F 6 v1) A (1 : Int32)).isSome = true) then some ((0 : Int32), (R_resetMachine (ups F 6 v1) A (1 : Int32)).2.1, (R_resetMachine (ups F 6 v1) A (1 : Int32)).2.2) else none)) else (if ((en_resetMachine (ups F 6 v1) A (1 : Int32)).isSome = true) then some ((0 : Int32), (R_resetMachine (ups F 6 v1) A (1 : Int32)).2.1, (R_resetMachine (ups F 6 v1) A (1 : Int32)).2.2) else none)) := by
  rw [lp_load, if_neg (by decide), if_pos rfl]
set_option maxRecDepth 65536 in
set_option maxHeartbeats 4000000 in
theorem lpw_load {l : Launch} {Z : State} {a0 : Array Value} (H : OK Z a0) (G : Nat → Int64) (B : Nat → Int32 → Int64) : ∀ (n : Nat) (v1 : Int32) (v2 : Int32) (F : Nat → Int32) (A : Nat → Int32 → Int32) (r : Int32 × (Nat → Int32) × (Nat → Int32 → Int32)), (lp_load n 22 v1 v2 F A = some r → Wk l Z (MoC Z cdC) md_load 22 [.val (.ref 0), .val (.int v1), .val (.int v2)] [] (10, F, G, A, B) 0 0 (fun v w' => v = some (.int r.1) ∧ w' = (10, r.2.1, G, r.2.2, B))) ∧ (lp_load n 56 v1 v2 F A = some r → Wk l Z (MoC Z cdC) md_load 56 [.val (.ref 0), .val (.int v1), .val (.int v2)] [] (10, F, G, A, B) 0 0 (fun v w' => v = some (.int r.1) ∧ w' = (10, r.2.1, G, r.2.2, B))) := by
  intro n
  induction n with
  | zero =>
    intro v1 v2 F A r
    exact ⟨(fun h => by rw [lp_load_z] at h; cases h), (fun h => by rw [lp_load_z] at h; cases h)⟩
  | succ n ih =>
    intro v1 v2 F A r
    refine ⟨fun h => ?_, fun h => ?_⟩
    · rw [lp_load_22] at h
      exact wp_load_22 H F G A B v1 v2 (fun q1 => (ih _ _ _ _ _).2 (ifn q1 h)) (fun q1 q3 => (ih _ _ _ _ _).2 (ifn q3 (ifp q1 h))) (fun q1 q3 => (gd (ifp q3 (ifp q1 h))).1) (fun q1 q3 => (ih _ _ _ _ _).1 (gd (ifp q3 (ifp q1 h))).2)
    · rw [lp_load_56] at h
      exact wp_load_56 H F G A B v1 v2 (fun q1 => (gd (ifn q1 h)).1) (fun q1 => (rt_load _ _ _ _ _ r (Option.some.inj (gd (ifn q1 h)).2))) (fun q1 q4 => (gd (ifn q4 (ifp q1 h))).1) (fun q1 q4 => (rt_load _ _ _ _ _ r (Option.some.inj (gd (ifn q4 (ifp q1 h))).2))) (fun q1 q4 => (gd (ifp q4 (ifp q1 h))).1) (fun q1 q4 => (ih _ _ _ _ _).2 (gd (ifp q4 (ifp q1 h))).2)
def en_load (F : Nat → Int32) (A : Nat → Int32 → Int32) (p1 : Int32) : Option (Int32 × (Nat → Int32) × (Nat → Int32 → Int32)) := (if (F 5) = 0 then (if (f_legalBase p1) = 0 then some ((-2 : Int32), F, A) else lp_load 1000 22 p1 (0 : Int32) F A) else some ((-1 : Int32), F, A))
theorem een_load (F : Nat → Int32) (A : Nat → Int32 → Int32) (p1 : Int32) : en_load F A p1 = (if (F 5) = 0 then (if (f_legalBase p1) = 0 then some ((-2 : Int32), F, A) else lp_load 1000 22 p1 (0 : Int32) F A) else some ((-1 : Int32), F, A)) := Eq.trans rfl rfl
def R_load (F : Nat → Int32) (A : Nat → Int32 → Int32) (p1 : Int32) : Int32 × (Nat → Int32) × (Nat → Int32 → Int32) := (en_load F A p1).getD (0, (fun _ => 0), (fun _ _ => 0))
theorem eR_load (F : Nat → Int32) (A : Nat → Int32 → Int32) (p1 : Int32) : R_load F A p1 = (en_load F A p1).getD (0, (fun _ => 0), (fun _ _ => 0)) := Eq.trans rfl rfl
set_option maxRecDepth 65536 in
set_option maxHeartbeats 4000000 in
theorem run_load {l : Launch} {Z : State} {a0 : Array Value} (H : OK Z a0) (F : Nat → Int32) (G : Nat → Int64) (A : Nat → Int32 → Int32) (B : Nat → Int32 → Int64) (p1 : Int32) (e1 : (en_load F A p1).isSome = true) :
    Wk l Z (MoC Z cdC) md_load 0 [.val (.ref 0), .val (.int p1), .unset] [] (10, F, G, A, B) 0 0 (fun v w' => v = some (.int (R_load F A p1).1) ∧ w' = (10, (R_load F A p1).2.1, G, (R_load F A p1).2.2, B)) := by
  obtain ⟨r, h⟩ := Option.isSome_iff_exists.mp e1
  have e : R_load F A p1 = r := (eR_load F A p1).trans (getD_some h)
  rw [e]
  rw [een_load] at h
  exact wp_load H F G A B p1 (fun q1 q2 => (lpw_load H G B _ _ _ _ _ _).1 (ifn q2 (ifp q1 h))) (fun q1 q2 => (rt_load _ _ _ _ _ r (Option.some.inj (ifp q2 (ifp q1 h))))) (fun q1 => (rt_load _ _ _ _ _ r (Option.some.inj (ifn q1 h))))
set_option maxRecDepth 65536 in
set_option maxHeartbeats 4000000 in
theorem wp_start {l : Launch} {Z : State} {a0 : Array Value} (H : OK Z a0) (F : Nat → Int32) (G : Nat → Int64) (A : Nat → Int32 → Int32) (B : Nat → Int32 → Int64) (p1 : Int32) {Q : Option Value → WO → Prop} (s2 : ¬ (F 5) = 0 → (en_validPos F A p1).isSome = true) (s4 : ¬ (F 5) = 0 → ¬ (R_validPos F A p1) = 0 → (en_offsetOf A p1).isSome = true) (s5 : ¬ (F 5) = 0 → ¬ (R_validPos F A p1) = 0 → (en_resetMachine F A (2 : Int32)).isSome = true) (h6 : ¬ (F 5) = 0 → ¬ (R_validPos F A p1) = 0 → Q (some (.int (0 : Int32))) (10, (ups (R_resetMachine F A (2 : Int32)).2.1 7 (((R_resetMachine F A (2 : Int32)).2.1 6) + (R_offsetOf A p1))), G, (R_resetMachine F A (2 : Int32)).2.2, B)) (h7 : ¬ (F 5) = 0 → (R_validPos F A p1) = 0 → Q (some (.int (-2 : Int32))) (10, F, G, A, B)) (h8 : (F 5) = 0 → Q (some (.int (-1 : Int32))) (10, F, G, A, B)) :
    Wk l Z (MoC Z cdC) md_start 0 [.val (.ref 0), .val (.int p1), .unset] [] (10, F, G, A, B) 0 0 Q := by
  refine Wk.aloadN o_start_0 rfl ?_
  refine Wk.getI (mI_state) (wf_state H) o_start_1 (x := (F 5)) rfl ?_
  refine Wk.if_ne o_start_4 (fun q1 => ?_) (fun q1 => ?_)
  · refine Wk.aloadN o_start_9 rfl ?_
    refine Wk.iloadN o_start_10 rfl ?_
    refine Wk.callF [.int p1] [] (H.w 70 rfl) (cv_validPos H) o_start_11 (run_validPos H F G A B p1 (s2 q1)) (wt := 0) (cu' := 0) (su' := 0) (by decide) rfl rfl rfl rfl rfl rfl rfl ?_
    refine Wk.if_ne o_start_14 (fun q3 => ?_) (fun q3 => ?_)
    · refine Wk.aloadN o_start_20 rfl ?_
      refine Wk.iloadN o_start_21 rfl ?_
      refine Wk.callF [.int p1] [] (H.w 74 rfl) (cv_offsetOf H) o_start_22 (run_offsetOf H F G A B p1 (s4 q1 q3)) (wt := 0) (cu' := 0) (su' := 0) (by decide) rfl rfl rfl rfl rfl rfl rfl ?_
      refine Wk.istoreN o_start_25 (Or.inl rfl) (L' := [.val (.ref 0), .val (.int p1), .val (.int (R_offsetOf A p1))]) rfl ?_
      refine Wk.aloadN o_start_26 rfl ?_
      refine Wk.iconst o_start_27 (z := (2 : Int32)) (by decide) ?_
      refine Wk.callU [.int (2 : Int32)] [] (H.w 138 rfl) (cv_resetMachine H) o_start_28 (run_resetMachine H F G A B (2 : Int32) (s5 q1 q3)) (wt := 0) (cu' := 0) (su' := 0) (by decide) rfl rfl rfl rfl rfl rfl rfl ?_
      refine Wk.aloadN o_start_31 rfl ?_
      refine Wk.aloadN o_start_32 rfl ?_
      refine Wk.getI (mI_baseAddr) (wf_baseAddr H) o_start_33 (x := ((R_resetMachine F A (2 : Int32)).2.1 6)) rfl ?_
      refine Wk.iloadN o_start_36 rfl ?_
      refine Wk.iadd o_start_37 ?_
      refine Wk.putI (coC H) (mI_pcReg) (wf_pcReg H) (Or.inl (wy_pcReg H)) o_start_38 ?_
      refine Wk.iconst o_start_41 (z := (0 : Int32)) (by decide) ?_
      exact Wk.ireturn mrC rfl o_start_42 rfl (by decide) (by decide) (h6 q1 q3)
    · refine Wk.bipush o_start_17 (z := (-2 : Int32)) (by decide) ?_
      exact Wk.ireturn mrC rfl o_start_19 rfl (by decide) (by decide) (h7 q1 q3)
  · refine Wk.iconst o_start_7 (z := (-1 : Int32)) (by decide) ?_
    exact Wk.ireturn mrC rfl o_start_8 rfl (by decide) (by decide) (h8 q1)

theorem rt_start (G : Nat → Int64) (B : Nat → Int32 → Int64) (v0 : Int32) (xF : Nat → Int32) (xA : Nat → Int32 → Int32) (r : Int32 × (Nat → Int32) × (Nat → Int32 → Int32)) (e : (v0, xF, xA) = r) : some (Value.int v0) = some (.int r.1) ∧ (10, xF, G, xA, B) = (10, r.2.1, G, r.2.2, B) := by subst e; exact ⟨rfl, rfl⟩
def en_start (F : Nat → Int32) (A : Nat → Int32 → Int32) (p1 : Int32) : Option (Int32 × (Nat → Int32) × (Nat → Int32 → Int32)) := (if (F 5) = 0 then some ((-1 : Int32), F, A) else (if ((en_validPos F A p1).isSome = true) then (if (R_validPos F A p1) = 0 then some ((-2 : Int32), F, A) else (if ((en_offsetOf A p1).isSome = true) ∧ ((en_resetMachine F A (2 : Int32)).isSome = true) then some ((0 : Int32), (ups (R_resetMachine F A (2 : Int32)).2.1 7 (((R_resetMachine F A (2 : Int32)).2.1 6) + (R_offsetOf A p1))), (R_resetMachine F A (2 : Int32)).2.2) else none)) else none))
theorem een_start (F : Nat → Int32) (A : Nat → Int32 → Int32) (p1 : Int32) : en_start F A p1 = (if (F 5) = 0 then some ((-1 : Int32), F, A) else (if ((en_validPos F A p1).isSome = true) then (if (R_validPos F A p1) = 0 then some ((-2 : Int32), F, A) else (if ((en_offsetOf A p1).isSome = true) ∧ ((en_resetMachine F A (2 : Int32)).isSome = true) then some ((0 : Int32), (ups (R_resetMachine F A (2 : Int32)).2.1 7 (((R_resetMachine F A (2 : Int32)).2.1 6) + (R_offsetOf A p1))), (R_resetMachine F A (2 : Int32)).2.2) else none)) else none)) := Eq.trans rfl rfl
def R_start (F : Nat → Int32) (A : Nat → Int32 → Int32) (p1 : Int32) : Int32 × (Nat → Int32) × (Nat → Int32 → Int32) := (en_start F A p1).getD (0, (fun _ => 0), (fun _ _ => 0))
theorem eR_start (F : Nat → Int32) (A : Nat → Int32 → Int32) (p1 : Int32) : R_start F A p1 = (en_start F A p1).getD (0, (fun _ => 0), (fun _ _ => 0)) := Eq.trans rfl rfl
set_option maxRecDepth 65536 in
set_option maxHeartbeats 4000000 in
theorem run_start {l : Launch} {Z : State} {a0 : Array Value} (H : OK Z a0) (F : Nat → Int32) (G : Nat → Int64) (A : Nat → Int32 → Int32) (B : Nat → Int32 → Int64) (p1 : Int32) (e1 : (en_start F A p1).isSome = true) :
    Wk l Z (MoC Z cdC) md_start 0 [.val (.ref 0), .val (.int p1), .unset] [] (10, F, G, A, B) 0 0 (fun v w' => v = some (.int (R_start F A p1).1) ∧ w' = (10, (R_start F A p1).2.1, G, (R_start F A p1).2.2, B)) := by
  obtain ⟨r, h⟩ := Option.isSome_iff_exists.mp e1
  have e : R_start F A p1 = r := (eR_start F A p1).trans (getD_some h)
  rw [e]
  rw [een_start] at h
  exact wp_start H F G A B p1 (fun q1 => (gd (ifn q1 h)).1) (fun q1 q3 => (gd (ifn q3 (gd (ifn q1 h)).2)).1.1) (fun q1 q3 => (gd (ifn q3 (gd (ifn q1 h)).2)).1.2) (fun q1 q3 => (rt_start _ _ _ _ _ r (Option.some.inj (gd (ifn q3 (gd (ifn q1 h)).2)).2))) (fun q1 q3 => (rt_start _ _ _ _ _ r (Option.some.inj (ifp q3 (gd (ifn q1 h)).2)))) (fun q1 => (rt_start _ _ _ _ _ r (Option.some.inj (ifp q1 h))))
set_option maxRecDepth 65536 in
set_option maxHeartbeats 4000000 in
theorem wp_loadWord {l : Launch} {Z : State} {a0 : Array Value} (H : OK Z a0) (F : Nat → Int32) (G : Nat → Int64) (A : Nat → Int32 → Int32) (B : Nat → Int32 → Int64) (p1 : Int32) (p2 : Int32) (p3 : Int32) {Q : Option Value → WO → Prop} (s1 : ¬ p2 < 0) (s2 : p2 < (8 : Int32)) (h4 : ((((A 9) p2) + p3) - (F 6)) < 0 → Q none (10, (ups F 5 (4 : Int32)), G, A, B)) (h6 : ¬ ((((A 9) p2) + p3) - (F 6)) < 0 → ¬ ((((A 9) p2) + p3) - (F 6)) < (F 3) → Q none (10, (ups F 5 (4 : Int32)), G, A, B)) (s8 : ¬ ((((A 9) p2) + p3) - (F 6)) < 0 → ((((A 9) p2) + p3) - (F 6)) < (F 3) → ((((A 9) p2) + p3) - (F 6)) < (64 : Int32) → ¬ p1 < 0) (s9 : ¬ ((((A 9) p2) + p3) - (F 6)) < 0 → ((((A 9) p2) + p3) - (F 6)) < (F 3) → ((((A 9) p2) + p3) - (F 6)) < (64 : Int32) → p1 < (8 : Int32)) (h10 : ¬ ((((A 9) p2) + p3) - (F 6)) < 0 → ((((A 9) p2) + p3) - (F 6)) < (F 3) → ((((A 9) p2) + p3) - (F 6)) < (64 : Int32) → Q none (10, (ups F 7 ((F 7) + (1 : Int32))), G, (ups A 9 (ups (A 9) p1 ((A 3) ((((A 9) p2) + p3) - (F 6))))), B)) (h11 : ¬ ((((A 9) p2) + p3) - (F 6)) < 0 → ((((A 9) p2) + p3) - (F 6)) < (F 3) → ¬ ((((A 9) p2) + p3) - (F 6)) < (64 : Int32) → Q none (10, (ups F 5 (4 : Int32)), G, A, B)) :
    Wk l Z (MoC Z cdC) md_loadWord 0 [.val (.ref 0), .val (.int p1), .val (.int p2), .val (.int p3), .unset] [] (10, F, G, A, B) 0 0 Q := by
  refine Wk.aloadN o_loadWord_0 rfl ?_
  refine Wk.getA (mA_regs) (by decide) (i' := 10) rfl (wf_regs H) o_loadWord_1 ?_
  refine Wk.iloadN o_loadWord_4 rfl ?_
  refine Wk.iaload (mA_regs) (by decide) (i' := 10) rfl s1 s2 o_loadWord_5 (y := ((A 9) p2)) rfl ?_
  refine Wk.iloadN o_loadWord_6 rfl ?_
  refine Wk.iadd o_loadWord_7 ?_
  refine Wk.aloadN o_loadWord_8 rfl ?_
  refine Wk.getI (mI_baseAddr) (wf_baseAddr H) o_loadWord_9 (x := (F 6)) rfl ?_
  refine Wk.isub o_loadWord_12 ?_
  refine Wk.istore o_loadWord_13 (Or.inl rfl) (L' := [.val (.ref 0), .val (.int p1), .val (.int p2), .val (.int p3), .val (.int ((((A 9) p2) + p3) - (F 6)))]) rfl ?_
  refine Wk.iload o_loadWord_15 rfl ?_
  refine Wk.if_lt o_loadWord_17 (fun q3 => ?_) (fun q3 => ?_)
  · refine Wk.aloadN o_loadWord_36 rfl ?_
    refine Wk.iconst o_loadWord_37 (z := (4 : Int32)) (by decide) ?_
    refine Wk.putI (coC H) (mI_state) (wf_state H) (Or.inl (wy_state H)) o_loadWord_38 ?_
    exact Wk.ret mrC rfl o_loadWord_41 rfl (by decide) (by decide) (h4 q3)
  · refine Wk.iload o_loadWord_20 rfl ?_
    refine Wk.aloadN o_loadWord_22 rfl ?_
    refine Wk.getI (mI_imgSize) (wf_imgSize H) o_loadWord_23 (x := (F 3)) rfl ?_
    refine Wk.icmp_ge o_loadWord_26 (fun q5 => ?_) (fun q5 => ?_)
    · refine Wk.aloadN o_loadWord_36 rfl ?_
      refine Wk.iconst o_loadWord_37 (z := (4 : Int32)) (by decide) ?_
      refine Wk.putI (coC H) (mI_state) (wf_state H) (Or.inl (wy_state H)) o_loadWord_38 ?_
      exact Wk.ret mrC rfl o_loadWord_41 rfl (by decide) (by decide) (h6 q3 q5)
    · refine Wk.iload o_loadWord_29 rfl ?_
      refine Wk.bipush o_loadWord_31 (z := (64 : Int32)) (by decide) ?_
      refine Wk.icmp_lt o_loadWord_33 (fun q7 => ?_) (fun q7 => ?_)
      · refine Wk.aloadN o_loadWord_42 rfl ?_
        refine Wk.getA (mA_regs) (by decide) (i' := 10) rfl (wf_regs H) o_loadWord_43 ?_
        refine Wk.iloadN o_loadWord_46 rfl ?_
        refine Wk.aloadN o_loadWord_47 rfl ?_
        refine Wk.getA (mA_cur) (by decide) (i' := 4) rfl (wf_cur H) o_loadWord_48 ?_
        refine Wk.iload o_loadWord_51 rfl ?_
        refine Wk.iaload (mA_cur) (by decide) (i' := 4) rfl q3 q7 o_loadWord_53 (y := ((A 3) ((((A 9) p2) + p3) - (F 6)))) rfl ?_
        refine Wk.iastore (coC H) (f := (A 9)) (mA_regs) rfl (by decide) (i' := 10) rfl (s8 q3 q5 q7) (s9 q3 q5 q7) o_loadWord_54 ?_
        refine Wk.aloadN o_loadWord_55 rfl ?_
        refine Wk.aloadN o_loadWord_56 rfl ?_
        refine Wk.getI (mI_pcReg) (wf_pcReg H) o_loadWord_57 (x := (F 7)) rfl ?_
        refine Wk.iconst o_loadWord_60 (z := (1 : Int32)) (by decide) ?_
        refine Wk.iadd o_loadWord_61 ?_
        refine Wk.putI (coC H) (mI_pcReg) (wf_pcReg H) (Or.inl (wy_pcReg H)) o_loadWord_62 ?_
        exact Wk.ret mrC rfl o_loadWord_65 rfl (by decide) (by decide) (h10 q3 q5 q7)
      · refine Wk.aloadN o_loadWord_36 rfl ?_
        refine Wk.iconst o_loadWord_37 (z := (4 : Int32)) (by decide) ?_
        refine Wk.putI (coC H) (mI_state) (wf_state H) (Or.inl (wy_state H)) o_loadWord_38 ?_
        exact Wk.ret mrC rfl o_loadWord_41 rfl (by decide) (by decide) (h11 q3 q5 q7)

theorem rt_loadWord (G : Nat → Int64) (B : Nat → Int32 → Int64) (v0 : Int32) (xF : Nat → Int32) (xA : Nat → Int32 → Int32) (r : Int32 × (Nat → Int32) × (Nat → Int32 → Int32)) (e : (v0, xF, xA) = r) : (none : Option Value) = none ∧ (10, xF, G, xA, B) = (10, r.2.1, G, r.2.2, B) := by subst e; exact ⟨rfl, rfl⟩
def en_loadWord (F : Nat → Int32) (A : Nat → Int32 → Int32) (p1 : Int32) (p2 : Int32) (p3 : Int32) : Option (Int32 × (Nat → Int32) × (Nat → Int32 → Int32)) := (if (¬ p2 < 0) ∧ (p2 < (8 : Int32)) then (if ((((A 9) p2) + p3) - (F 6)) < 0 then some ((0 : Int32), (ups F 5 (4 : Int32)), A) else (if ((((A 9) p2) + p3) - (F 6)) < (F 3) then (if ((((A 9) p2) + p3) - (F 6)) < (64 : Int32) then (if (¬ p1 < 0) ∧ (p1 < (8 : Int32)) then some ((0 : Int32), (ups F 7 ((F 7) + (1 : Int32))), (ups A 9 (ups (A 9) p1 ((A 3) ((((A 9) p2) + p3) - (F 6)))))) else none) else some ((0 : Int32), (ups F 5 (4 : Int32)), A)) else some ((0 : Int32), (ups F 5 (4 : Int32)), A))) else none)
theorem een_loadWord (F : Nat → Int32) (A : Nat → Int32 → Int32) (p1 : Int32) (p2 : Int32) (p3 : Int32) : en_loadWord F A p1 p2 p3 = (if (¬ p2 < 0) ∧ (p2 < (8 : Int32)) then (if ((((A 9) p2) + p3) - (F 6)) < 0 then some ((0 : Int32), (ups F 5 (4 : Int32)), A) else (if ((((A 9) p2) + p3) - (F 6)) < (F 3) then (if ((((A 9) p2) + p3) - (F 6)) < (64 : Int32) then (if (¬ p1 < 0) ∧ (p1 < (8 : Int32)) then some ((0 : Int32), (ups F 7 ((F 7) + (1 : Int32))), (ups A 9 (ups (A 9) p1 ((A 3) ((((A 9) p2) + p3) - (F 6)))))) else none) else some ((0 : Int32), (ups F 5 (4 : Int32)), A)) else some ((0 : Int32), (ups F 5 (4 : Int32)), A))) else none) := Eq.trans rfl rfl
def R_loadWord (F : Nat → Int32) (A : Nat → Int32 → Int32) (p1 : Int32) (p2 : Int32) (p3 : Int32) : Int32 × (Nat → Int32) × (Nat → Int32 → Int32) := (en_loadWord F A p1 p2 p3).getD (0, (fun _ => 0), (fun _ _ => 0))
theorem eR_loadWord (F : Nat → Int32) (A : Nat → Int32 → Int32) (p1 : Int32) (p2 : Int32) (p3 : Int32) : R_loadWord F A p1 p2 p3 = (en_loadWord F A p1 p2 p3).getD (0, (fun _ => 0), (fun _ _ => 0)) := Eq.trans rfl rfl
set_option maxRecDepth 65536 in
set_option maxHeartbeats 4000000 in
theorem run_loadWord {l : Launch} {Z : State} {a0 : Array Value} (H : OK Z a0) (F : Nat → Int32) (G : Nat → Int64) (A : Nat → Int32 → Int32) (B : Nat → Int32 → Int64) (p1 : Int32) (p2 : Int32) (p3 : Int32) (e1 : (en_loadWord F A p1 p2 p3).isSome = true) :
    Wk l Z (MoC Z cdC) md_loadWord 0 [.val (.ref 0), .val (.int p1), .val (.int p2), .val (.int p3), .unset] [] (10, F, G, A, B) 0 0 (fun v w' => v = none ∧ w' = (10, (R_loadWord F A p1 p2 p3).2.1, G, (R_loadWord F A p1 p2 p3).2.2, B)) := by
  obtain ⟨r, h⟩ := Option.isSome_iff_exists.mp e1
  have e : R_loadWord F A p1 p2 p3 = r := (eR_loadWord F A p1 p2 p3).trans (getD_some h)
  rw [e]
  rw [een_loadWord] at h
  exact wp_loadWord H F G A B p1 p2 p3 ((gd h).1.1) ((gd h).1.2) (fun q3 => (rt_loadWord _ _ _ _ _ r (Option.some.inj (ifp q3 (gd h).2)))) (fun q3 q5 => (rt_loadWord _ _ _ _ _ r (Option.some.inj (ifn q5 (ifn q3 (gd h).2))))) (fun q3 q5 q7 => (gd (ifp q7 (ifp q5 (ifn q3 (gd h).2)))).1.1) (fun q3 q5 q7 => (gd (ifp q7 (ifp q5 (ifn q3 (gd h).2)))).1.2) (fun q3 q5 q7 => (rt_loadWord _ _ _ _ _ r (Option.some.inj (gd (ifp q7 (ifp q5 (ifn q3 (gd h).2)))).2))) (fun q3 q5 q7 => (rt_loadWord _ _ _ _ _ r (Option.some.inj (ifn q7 (ifp q5 (ifn q3 (gd h).2))))))
set_option maxRecDepth 65536 in
set_option maxHeartbeats 4000000 in
theorem wp_execute {l : Launch} {Z : State} {a0 : Array Value} (H : OK Z a0) (F : Nat → Int32) (G : Nat → Int64) (A : Nat → Int32 → Int32) (B : Nat → Int32 → Int64) (p1 : Int32) (p2 : Int32) (p3 : Int32) (p4 : Int32) (p5 : Int32) {Q : Option Value → WO → Prop} (h2 : p1 = (0 : Int32) → Q none (10, (ups F 5 (3 : Int32)), G, A, B)) (s4 : ¬ p1 = (0 : Int32) → p1 = (1 : Int32) → ¬ p2 < 0) (s5 : ¬ p1 = (0 : Int32) → p1 = (1 : Int32) → p2 < (8 : Int32)) (h6 : ¬ p1 = (0 : Int32) → p1 = (1 : Int32) → Q none (10, (ups F 7 ((F 7) + (1 : Int32))), G, (ups A 9 (ups (A 9) p2 (p4 <<< ((16 : Int32) &&& 31)))), B)) (s8 : ¬ p1 = (0 : Int32) → ¬ p1 = (1 : Int32) → p1 = (2 : Int32) → ¬ p3 < 0) (s9 : ¬ p1 = (0 : Int32) → ¬ p1 = (1 : Int32) → p1 = (2 : Int32) → p3 < (8 : Int32)) (s10 : ¬ p1 = (0 : Int32) → ¬ p1 = (1 : Int32) → p1 = (2 : Int32) → ¬ p2 < 0) (s11 : ¬ p1 = (0 : Int32) → ¬ p1 = (1 : Int32) → p1 = (2 : Int32) → p2 < (8 : Int32)) (h12 : ¬ p1 = (0 : Int32) → ¬ p1 = (1 : Int32) → p1 = (2 : Int32) → Q none (10, (ups F 7 ((F 7) + (1 : Int32))), G, (ups A 9 (ups (A 9) p2 (((A 9) p3) + p5))), B)) (s14 : ¬ p1 = (0 : Int32) → ¬ p1 = (1 : Int32) → ¬ p1 = (2 : Int32) → p1 = (3 : Int32) → ¬ p2 < 0) (s15 : ¬ p1 = (0 : Int32) → ¬ p1 = (1 : Int32) → ¬ p1 = (2 : Int32) → p1 = (3 : Int32) → p2 < (8 : Int32)) (s16 : ¬ p1 = (0 : Int32) → ¬ p1 = (1 : Int32) → ¬ p1 = (2 : Int32) → p1 = (3 : Int32) → ¬ p3 < 0) (s17 : ¬ p1 = (0 : Int32) → ¬ p1 = (1 : Int32) → ¬ p1 = (2 : Int32) → p1 = (3 : Int32) → p3 < (8 : Int32)) (h18 : ¬ p1 = (0 : Int32) → ¬ p1 = (1 : Int32) → ¬ p1 = (2 : Int32) → p1 = (3 : Int32) → Q none (10, (ups F 7 ((F 7) + (1 : Int32))), G, (ups A 9 (ups (A 9) p2 (((A 9) p2) + ((A 9) p3)))), B)) (s20 : ¬ p1 = (0 : Int32) → ¬ p1 = (1 : Int32) → ¬ p1 = (2 : Int32) → ¬ p1 = (3 : Int32) → p1 = (4 : Int32) → (en_loadWord F A p2 p3 p5).isSome = true) (h21 : ¬ p1 = (0 : Int32) → ¬ p1 = (1 : Int32) → ¬ p1 = (2 : Int32) → ¬ p1 = (3 : Int32) → p1 = (4 : Int32) → Q none (10, (R_loadWord F A p2 p3 p5).2.1, G, (R_loadWord F A p2 p3 p5).2.2, B)) (s23 : ¬ p1 = (0 : Int32) → ¬ p1 = (1 : Int32) → ¬ p1 = (2 : Int32) → ¬ p1 = (3 : Int32) → ¬ p1 = (4 : Int32) → p1 = (5 : Int32) → ¬ p2 < 0) (s24 : ¬ p1 = (0 : Int32) → ¬ p1 = (1 : Int32) → ¬ p1 = (2 : Int32) → ¬ p1 = (3 : Int32) → ¬ p1 = (4 : Int32) → p1 = (5 : Int32) → p2 < (8 : Int32)) (h25 : ¬ p1 = (0 : Int32) → ¬ p1 = (1 : Int32) → ¬ p1 = (2 : Int32) → ¬ p1 = (3 : Int32) → ¬ p1 = (4 : Int32) → p1 = (5 : Int32) → Q none (10, (ups F 7 ((A 9) p2)), G, A, B)) (h27 : ¬ p1 = (0 : Int32) → ¬ p1 = (1 : Int32) → ¬ p1 = (2 : Int32) → ¬ p1 = (3 : Int32) → ¬ p1 = (4 : Int32) → ¬ p1 = (5 : Int32) → p1 = (6 : Int32) → False) (s29 : ¬ p1 = (0 : Int32) → ¬ p1 = (1 : Int32) → ¬ p1 = (2 : Int32) → ¬ p1 = (3 : Int32) → ¬ p1 = (4 : Int32) → ¬ p1 = (5 : Int32) → ¬ p1 = (6 : Int32) → p1 = (7 : Int32) → ¬ p2 < 0) (s30 : ¬ p1 = (0 : Int32) → ¬ p1 = (1 : Int32) → ¬ p1 = (2 : Int32) → ¬ p1 = (3 : Int32) → ¬ p1 = (4 : Int32) → ¬ p1 = (5 : Int32) → ¬ p1 = (6 : Int32) → p1 = (7 : Int32) → p2 < (8 : Int32)) (h31 : ¬ p1 = (0 : Int32) → ¬ p1 = (1 : Int32) → ¬ p1 = (2 : Int32) → ¬ p1 = (3 : Int32) → ¬ p1 = (4 : Int32) → ¬ p1 = (5 : Int32) → ¬ p1 = (6 : Int32) → p1 = (7 : Int32) → Q none (10, (ups F 7 ((F 7) + (1 : Int32))), G, (ups A 9 (ups (A 9) p2 ((F 7) + p5))), B)) (h32 : ¬ p1 = (0 : Int32) → ¬ p1 = (1 : Int32) → ¬ p1 = (2 : Int32) → ¬ p1 = (3 : Int32) → ¬ p1 = (4 : Int32) → ¬ p1 = (5 : Int32) → ¬ p1 = (6 : Int32) → ¬ p1 = (7 : Int32) → Q none (10, (ups F 5 (4 : Int32)), G, A, B)) :
    Wk l Z (MoC Z cdC) md_execute 0 [.val (.ref 0), .val (.int p1), .val (.int p2), .val (.int p3), .val (.int p4), .val (.int p5)] [] (10, F, G, A, B) 0 0 Q := by
  refine Wk.iloadN o_execute_0 rfl ?_
  by_cases q1 : p1 = (0 : Int32)
  · refine Wk.tswIn o_execute_1_0 q1 (by decide) (by decide) ?_
    refine Wk.aloadN o_execute_48 rfl ?_
    refine Wk.iconst o_execute_49 (z := (3 : Int32)) (by decide) ?_
    refine Wk.putI (coC H) (mI_state) (wf_state H) (Or.inl (wy_state H)) o_execute_50 ?_
    refine Wk.goto o_execute_53 ?_
    exact Wk.ret mrC rfl o_execute_206 rfl (by decide) (by decide) (h2 q1)
  · by_cases q3 : p1 = (1 : Int32)
    · refine Wk.tswIn o_execute_1_1 q3 (by decide) (by decide) ?_
      refine Wk.aloadN o_execute_56 rfl ?_
      refine Wk.getA (mA_regs) (by decide) (i' := 10) rfl (wf_regs H) o_execute_57 ?_
      refine Wk.iloadN o_execute_60 rfl ?_
      refine Wk.iload o_execute_61 rfl ?_
      refine Wk.bipush o_execute_63 (z := (16 : Int32)) (by decide) ?_
      refine Wk.ishl o_execute_65 ?_
      refine Wk.iastore (coC H) (f := (A 9)) (mA_regs) rfl (by decide) (i' := 10) rfl (s4 q1 q3) (s5 q1 q3) o_execute_66 ?_
      refine Wk.aloadN o_execute_67 rfl ?_
      refine Wk.aloadN o_execute_68 rfl ?_
      refine Wk.getI (mI_pcReg) (wf_pcReg H) o_execute_69 (x := (F 7)) rfl ?_
      refine Wk.iconst o_execute_72 (z := (1 : Int32)) (by decide) ?_
      refine Wk.iadd o_execute_73 ?_
      refine Wk.putI (coC H) (mI_pcReg) (wf_pcReg H) (Or.inl (wy_pcReg H)) o_execute_74 ?_
      refine Wk.goto o_execute_77 ?_
      exact Wk.ret mrC rfl o_execute_206 rfl (by decide) (by decide) (h6 q1 q3)
    · by_cases q7 : p1 = (2 : Int32)
      · refine Wk.tswIn o_execute_1_2 q7 (by decide) (by decide) ?_
        refine Wk.aloadN o_execute_80 rfl ?_
        refine Wk.getA (mA_regs) (by decide) (i' := 10) rfl (wf_regs H) o_execute_81 ?_
        refine Wk.iloadN o_execute_84 rfl ?_
        refine Wk.aloadN o_execute_85 rfl ?_
        refine Wk.getA (mA_regs) (by decide) (i' := 10) rfl (wf_regs H) o_execute_86 ?_
        refine Wk.iloadN o_execute_89 rfl ?_
        refine Wk.iaload (mA_regs) (by decide) (i' := 10) rfl (s8 q1 q3 q7) (s9 q1 q3 q7) o_execute_90 (y := ((A 9) p3)) rfl ?_
        refine Wk.iload o_execute_91 rfl ?_
        refine Wk.iadd o_execute_93 ?_
        refine Wk.iastore (coC H) (f := (A 9)) (mA_regs) rfl (by decide) (i' := 10) rfl (s10 q1 q3 q7) (s11 q1 q3 q7) o_execute_94 ?_
        refine Wk.aloadN o_execute_95 rfl ?_
        refine Wk.aloadN o_execute_96 rfl ?_
        refine Wk.getI (mI_pcReg) (wf_pcReg H) o_execute_97 (x := (F 7)) rfl ?_
        refine Wk.iconst o_execute_100 (z := (1 : Int32)) (by decide) ?_
        refine Wk.iadd o_execute_101 ?_
        refine Wk.putI (coC H) (mI_pcReg) (wf_pcReg H) (Or.inl (wy_pcReg H)) o_execute_102 ?_
        refine Wk.goto o_execute_105 ?_
        exact Wk.ret mrC rfl o_execute_206 rfl (by decide) (by decide) (h12 q1 q3 q7)
      · by_cases q13 : p1 = (3 : Int32)
        · refine Wk.tswIn o_execute_1_3 q13 (by decide) (by decide) ?_
          refine Wk.aloadN o_execute_108 rfl ?_
          refine Wk.getA (mA_regs) (by decide) (i' := 10) rfl (wf_regs H) o_execute_109 ?_
          refine Wk.iloadN o_execute_112 rfl ?_
          refine Wk.aloadN o_execute_113 rfl ?_
          refine Wk.getA (mA_regs) (by decide) (i' := 10) rfl (wf_regs H) o_execute_114 ?_
          refine Wk.iloadN o_execute_117 rfl ?_
          refine Wk.iaload (mA_regs) (by decide) (i' := 10) rfl (s14 q1 q3 q7 q13) (s15 q1 q3 q7 q13) o_execute_118 (y := ((A 9) p2)) rfl ?_
          refine Wk.aloadN o_execute_119 rfl ?_
          refine Wk.getA (mA_regs) (by decide) (i' := 10) rfl (wf_regs H) o_execute_120 ?_
          refine Wk.iloadN o_execute_123 rfl ?_
          refine Wk.iaload (mA_regs) (by decide) (i' := 10) rfl (s16 q1 q3 q7 q13) (s17 q1 q3 q7 q13) o_execute_124 (y := ((A 9) p3)) rfl ?_
          refine Wk.iadd o_execute_125 ?_
          refine Wk.iastore (coC H) (f := (A 9)) (mA_regs) rfl (by decide) (i' := 10) rfl (s14 q1 q3 q7 q13) (s15 q1 q3 q7 q13) o_execute_126 ?_
          refine Wk.aloadN o_execute_127 rfl ?_
          refine Wk.aloadN o_execute_128 rfl ?_
          refine Wk.getI (mI_pcReg) (wf_pcReg H) o_execute_129 (x := (F 7)) rfl ?_
          refine Wk.iconst o_execute_132 (z := (1 : Int32)) (by decide) ?_
          refine Wk.iadd o_execute_133 ?_
          refine Wk.putI (coC H) (mI_pcReg) (wf_pcReg H) (Or.inl (wy_pcReg H)) o_execute_134 ?_
          refine Wk.goto o_execute_137 ?_
          exact Wk.ret mrC rfl o_execute_206 rfl (by decide) (by decide) (h18 q1 q3 q7 q13)
        · by_cases q19 : p1 = (4 : Int32)
          · refine Wk.tswIn o_execute_1_4 q19 (by decide) (by decide) ?_
            refine Wk.aloadN o_execute_140 rfl ?_
            refine Wk.iloadN o_execute_141 rfl ?_
            refine Wk.iloadN o_execute_142 rfl ?_
            refine Wk.iload o_execute_143 rfl ?_
            refine Wk.callU [.int p2, .int p3, .int p5] [] (H.w 160 rfl) (cv_loadWord H) o_execute_145 (run_loadWord H F G A B p2 p3 p5 (s20 q1 q3 q7 q13 q19)) (wt := 0) (cu' := 0) (su' := 0) (by decide) rfl rfl rfl rfl rfl rfl rfl ?_
            refine Wk.goto o_execute_148 ?_
            exact Wk.ret mrC rfl o_execute_206 rfl (by decide) (by decide) (h21 q1 q3 q7 q13 q19)
          · by_cases q22 : p1 = (5 : Int32)
            · refine Wk.tswIn o_execute_1_5 q22 (by decide) (by decide) ?_
              refine Wk.aloadN o_execute_151 rfl ?_
              refine Wk.aloadN o_execute_152 rfl ?_
              refine Wk.getA (mA_regs) (by decide) (i' := 10) rfl (wf_regs H) o_execute_153 ?_
              refine Wk.iloadN o_execute_156 rfl ?_
              refine Wk.iaload (mA_regs) (by decide) (i' := 10) rfl (s23 q1 q3 q7 q13 q19 q22) (s24 q1 q3 q7 q13 q19 q22) o_execute_157 (y := ((A 9) p2)) rfl ?_
              refine Wk.putI (coC H) (mI_pcReg) (wf_pcReg H) (Or.inl (wy_pcReg H)) o_execute_158 ?_
              refine Wk.goto o_execute_161 ?_
              exact Wk.ret mrC rfl o_execute_206 rfl (by decide) (by decide) (h25 q1 q3 q7 q13 q19 q22)
            · by_cases q26 : p1 = (6 : Int32)
              · refine Wk.tswIn o_execute_1_6 q26 (by decide) (by decide) ?_
                refine Wk.aloadN o_execute_164 rfl ?_
                refine Wk.iloadN o_execute_165 rfl ?_
                refine Wk.iloadN o_execute_166 rfl ?_
                refine Wk.iload o_execute_167 rfl ?_
                exact False.elim (h27 q1 q3 q7 q13 q19 q22 q26)
              · by_cases q28 : p1 = (7 : Int32)
                · refine Wk.tswIn o_execute_1_7 q28 (by decide) (by decide) ?_
                  refine Wk.aloadN o_execute_175 rfl ?_
                  refine Wk.getA (mA_regs) (by decide) (i' := 10) rfl (wf_regs H) o_execute_176 ?_
                  refine Wk.iloadN o_execute_179 rfl ?_
                  refine Wk.aloadN o_execute_180 rfl ?_
                  refine Wk.getI (mI_pcReg) (wf_pcReg H) o_execute_181 (x := (F 7)) rfl ?_
                  refine Wk.iload o_execute_184 rfl ?_
                  refine Wk.iadd o_execute_186 ?_
                  refine Wk.iastore (coC H) (f := (A 9)) (mA_regs) rfl (by decide) (i' := 10) rfl (s29 q1 q3 q7 q13 q19 q22 q26 q28) (s30 q1 q3 q7 q13 q19 q22 q26 q28) o_execute_187 ?_
                  refine Wk.aloadN o_execute_188 rfl ?_
                  refine Wk.aloadN o_execute_189 rfl ?_
                  refine Wk.getI (mI_pcReg) (wf_pcReg H) o_execute_190 (x := (F 7)) rfl ?_
                  refine Wk.iconst o_execute_193 (z := (1 : Int32)) (by decide) ?_
                  refine Wk.iadd o_execute_194 ?_
                  refine Wk.putI (coC H) (mI_pcReg) (wf_pcReg H) (Or.inl (wy_pcReg H)) o_execute_195 ?_
                  refine Wk.goto o_execute_198 ?_
                  exact Wk.ret mrC rfl o_execute_206 rfl (by decide) (by decide) (h31 q1 q3 q7 q13 q19 q22 q26 q28)
                · refine Wk.tswOut o_execute_1_d (by have a0 : Int32.toInt p1 ≠ 0 := ne_toInt q1; have a1 : Int32.toInt p1 ≠ 1 := ne_toInt q3; have a2 : Int32.toInt p1 ≠ 2 := ne_toInt q7; have a3 : Int32.toInt p1 ≠ 3 := ne_toInt q13; have a4 : Int32.toInt p1 ≠ 4 := ne_toInt q19; have a5 : Int32.toInt p1 ≠ 5 := ne_toInt q22; have a6 : Int32.toInt p1 ≠ 6 := ne_toInt q26; have a7 : Int32.toInt p1 ≠ 7 := ne_toInt q28; omega) ?_
                  refine Wk.aloadN o_execute_201 rfl ?_
                  refine Wk.iconst o_execute_202 (z := (4 : Int32)) (by decide) ?_
                  refine Wk.putI (coC H) (mI_state) (wf_state H) (Or.inl (wy_state H)) o_execute_203 ?_
                  exact Wk.ret mrC rfl o_execute_206 rfl (by decide) (by decide) (h32 q1 q3 q7 q13 q19 q22 q26 q28)

theorem rt_execute (G : Nat → Int64) (B : Nat → Int32 → Int64) (v0 : Int32) (xF : Nat → Int32) (xA : Nat → Int32 → Int32) (r : Int32 × (Nat → Int32) × (Nat → Int32 → Int32)) (e : (v0, xF, xA) = r) : (none : Option Value) = none ∧ (10, xF, G, xA, B) = (10, r.2.1, G, r.2.2, B) := by subst e; exact ⟨rfl, rfl⟩
def en_execute (F : Nat → Int32) (A : Nat → Int32 → Int32) (p1 : Int32) (p2 : Int32) (p3 : Int32) (p4 : Int32) (p5 : Int32) : Option (Int32 × (Nat → Int32) × (Nat → Int32 → Int32)) := (if p1 = (0 : Int32) then some ((0 : Int32), (ups F 5 (3 : Int32)), A) else (if p1 = (1 : Int32) then (if (¬ p2 < 0) ∧ (p2 < (8 : Int32)) then some ((0 : Int32), (ups F 7 ((F 7) + (1 : Int32))), (ups A 9 (ups (A 9) p2 (p4 <<< ((16 : Int32) &&& 31))))) else none) else (if p1 = (2 : Int32) then (if (¬ p3 < 0) ∧ (p3 < (8 : Int32)) ∧ (¬ p2 < 0) ∧ (p2 < (8 : Int32)) then some ((0 : Int32), (ups F 7 ((F 7) + (1 : Int32))), (ups A 9 (ups (A 9) p2 (((A 9) p3) + p5)))) else none) else (if p1 = (3 : Int32) then (if (¬ p2 < 0) ∧ (p2 < (8 : Int32)) ∧ (¬ p3 < 0) ∧ (p3 < (8 : Int32)) then some ((0 : Int32), (ups F 7 ((F 7) + (1 : Int32))), (ups A 9 (ups (A 9) p2 (((A 9) p2) + ((A 9) p3))))) else none) else (if p1 = (4 : Int32) then (if ((en_loadWord F A p2 p3 p5).isSome = true) then some ((0 : Int32), (R_loadWord F A p2 p3 p5).2.1, (R_loadWord F A p2 p3 p5).2.2) else none) else (if p1 = (5 : Int32) then (if (¬ p2 < 0) ∧ (p2 < (8 : Int32)) then some ((0 : Int32), (ups F 7 ((A 9) p2)), A) else none) else (if p1 = (6 : Int32) then none else (if p1 = (7 : Int32) then (if (¬ p2 < 0) ∧ (p2 < (8 : Int32)) then some ((0 : Int32), (ups F 7 ((F 7) + (1 : Int32))), (ups A 9 (ups (A 9) p2 ((F 7) + p5)))) else none) else some ((0 : Int32), (ups F 5 (4 : Int32)), A)))))))))
theorem een_execute (F : Nat → Int32) (A : Nat → Int32 → Int32) (p1 : Int32) (p2 : Int32) (p3 : Int32) (p4 : Int32) (p5 : Int32) : en_execute F A p1 p2 p3 p4 p5 = (if p1 = (0 : Int32) then some ((0 : Int32), (ups F 5 (3 : Int32)), A) else (if p1 = (1 : Int32) then (if (¬ p2 < 0) ∧ (p2 < (8 : Int32)) then some ((0 : Int32), (ups F 7 ((F 7) + (1 : Int32))), (ups A 9 (ups (A 9) p2 (p4 <<< ((16 : Int32) &&& 31))))) else none) else (if p1 = (2 : Int32) then (if (¬ p3 < 0) ∧ (p3 < (8 : Int32)) ∧ (¬ p2 < 0) ∧ (p2 < (8 : Int32)) then some ((0 : Int32), (ups F 7 ((F 7) + (1 : Int32))), (ups A 9 (ups (A 9) p2 (((A 9) p3) + p5)))) else none) else (if p1 = (3 : Int32) then (if (¬ p2 < 0) ∧ (p2 < (8 : Int32)) ∧ (¬ p3 < 0) ∧ (p3 < (8 : Int32)) then some ((0 : Int32), (ups F 7 ((F 7) + (1 : Int32))), (ups A 9 (ups (A 9) p2 (((A 9) p2) + ((A 9) p3))))) else none) else (if p1 = (4 : Int32) then (if ((en_loadWord F A p2 p3 p5).isSome = true) then some ((0 : Int32), (R_loadWord F A p2 p3 p5).2.1, (R_loadWord F A p2 p3 p5).2.2) else none) else (if p1 = (5 : Int32) then (if (¬ p2 < 0) ∧ (p2 < (8 : Int32)) then some ((0 : Int32), (ups F 7 ((A 9) p2)), A) else none) else (if p1 = (6 : Int32) then none else (if p1 = (7 : Int32) then (if (¬ p2 < 0) ∧ (p2 < (8 : Int32)) then some ((0 : Int32), (ups F 7 ((F 7) + (1 : Int32))), (ups A 9 (ups (A 9) p2 ((F 7) + p5)))) else none) else some ((0 : Int32), (ups F 5 (4 : Int32)), A))))))))) := Eq.trans rfl rfl
def R_execute (F : Nat → Int32) (A : Nat → Int32 → Int32) (p1 : Int32) (p2 : Int32) (p3 : Int32) (p4 : Int32) (p5 : Int32) : Int32 × (Nat → Int32) × (Nat → Int32 → Int32) := (en_execute F A p1 p2 p3 p4 p5).getD (0, (fun _ => 0), (fun _ _ => 0))
theorem eR_execute (F : Nat → Int32) (A : Nat → Int32 → Int32) (p1 : Int32) (p2 : Int32) (p3 : Int32) (p4 : Int32) (p5 : Int32) : R_execute F A p1 p2 p3 p4 p5 = (en_execute F A p1 p2 p3 p4 p5).getD (0, (fun _ => 0), (fun _ _ => 0)) := Eq.trans rfl rfl
set_option maxRecDepth 65536 in
set_option maxHeartbeats 4000000 in
theorem run_execute {l : Launch} {Z : State} {a0 : Array Value} (H : OK Z a0) (F : Nat → Int32) (G : Nat → Int64) (A : Nat → Int32 → Int32) (B : Nat → Int32 → Int64) (p1 : Int32) (p2 : Int32) (p3 : Int32) (p4 : Int32) (p5 : Int32) (e1 : (en_execute F A p1 p2 p3 p4 p5).isSome = true) :
    Wk l Z (MoC Z cdC) md_execute 0 [.val (.ref 0), .val (.int p1), .val (.int p2), .val (.int p3), .val (.int p4), .val (.int p5)] [] (10, F, G, A, B) 0 0 (fun v w' => v = none ∧ w' = (10, (R_execute F A p1 p2 p3 p4 p5).2.1, G, (R_execute F A p1 p2 p3 p4 p5).2.2, B)) := by
  obtain ⟨r, h⟩ := Option.isSome_iff_exists.mp e1
  have e : R_execute F A p1 p2 p3 p4 p5 = r := (eR_execute F A p1 p2 p3 p4 p5).trans (getD_some h)
  rw [e]
  rw [een_execute] at h
  exact wp_execute H F G A B p1 p2 p3 p4 p5 (fun q1 => (rt_execute _ _ _ _ _ r (Option.some.inj (ifp q1 h)))) (fun q1 q3 => (gd (ifp q3 (ifn q1 h))).1.1) (fun q1 q3 => (gd (ifp q3 (ifn q1 h))).1.2) (fun q1 q3 => (rt_execute _ _ _ _ _ r (Option.some.inj (gd (ifp q3 (ifn q1 h))).2))) (fun q1 q3 q7 => (gd (ifp q7 (ifn q3 (ifn q1 h)))).1.1) (fun q1 q3 q7 => (gd (ifp q7 (ifn q3 (ifn q1 h)))).1.2.1) (fun q1 q3 q7 => (gd (ifp q7 (ifn q3 (ifn q1 h)))).1.2.2.1) (fun q1 q3 q7 => (gd (ifp q7 (ifn q3 (ifn q1 h)))).1.2.2.2) (fun q1 q3 q7 => (rt_execute _ _ _ _ _ r (Option.some.inj (gd (ifp q7 (ifn q3 (ifn q1 h)))).2))) (fun q1 q3 q7 q13 => (gd (ifp q13 (ifn q7 (ifn q3 (ifn q1 h))))).1.1) (fun q1 q3 q7 q13 => (gd (ifp q13 (ifn q7 (ifn q3 (ifn q1 h))))).1.2.1) (fun q1 q3 q7 q13 => (gd (ifp q13 (ifn q7 (ifn q3 (ifn q1 h))))).1.2.2.1) (fun q1 q3 q7 q13 => (gd (ifp q13 (ifn q7 (ifn q3 (ifn q1 h))))).1.2.2.2) (fun q1 q3 q7 q13 => (rt_execute _ _ _ _ _ r (Option.some.inj (gd (ifp q13 (ifn q7 (ifn q3 (ifn q1 h))))).2))) (fun q1 q3 q7 q13 q19 => (gd (ifp q19 (ifn q13 (ifn q7 (ifn q3 (ifn q1 h)))))).1) (fun q1 q3 q7 q13 q19 => (rt_execute _ _ _ _ _ r (Option.some.inj (gd (ifp q19 (ifn q13 (ifn q7 (ifn q3 (ifn q1 h)))))).2))) (fun q1 q3 q7 q13 q19 q22 => (gd (ifp q22 (ifn q19 (ifn q13 (ifn q7 (ifn q3 (ifn q1 h))))))).1.1) (fun q1 q3 q7 q13 q19 q22 => (gd (ifp q22 (ifn q19 (ifn q13 (ifn q7 (ifn q3 (ifn q1 h))))))).1.2) (fun q1 q3 q7 q13 q19 q22 => (rt_execute _ _ _ _ _ r (Option.some.inj (gd (ifp q22 (ifn q19 (ifn q13 (ifn q7 (ifn q3 (ifn q1 h))))))).2))) (fun q1 q3 q7 q13 q19 q22 q26 => (by have e := (ifp q26 (ifn q22 (ifn q19 (ifn q13 (ifn q7 (ifn q3 (ifn q1 h))))))); cases e)) (fun q1 q3 q7 q13 q19 q22 q26 q28 => (gd (ifp q28 (ifn q26 (ifn q22 (ifn q19 (ifn q13 (ifn q7 (ifn q3 (ifn q1 h))))))))).1.1) (fun q1 q3 q7 q13 q19 q22 q26 q28 => (gd (ifp q28 (ifn q26 (ifn q22 (ifn q19 (ifn q13 (ifn q7 (ifn q3 (ifn q1 h))))))))).1.2) (fun q1 q3 q7 q13 q19 q22 q26 q28 => (rt_execute _ _ _ _ _ r (Option.some.inj (gd (ifp q28 (ifn q26 (ifn q22 (ifn q19 (ifn q13 (ifn q7 (ifn q3 (ifn q1 h))))))))).2))) (fun q1 q3 q7 q13 q19 q22 q26 q28 => (rt_execute _ _ _ _ _ r (Option.some.inj (ifn q28 (ifn q26 (ifn q22 (ifn q19 (ifn q13 (ifn q7 (ifn q3 (ifn q1 h)))))))))))
set_option maxRecDepth 65536 in
set_option maxHeartbeats 4000000 in
theorem wp_step {l : Launch} {Z : State} {a0 : Array Value} (H : OK Z a0) (F : Nat → Int32) (G : Nat → Int64) (A : Nat → Int32 → Int32) (B : Nat → Int32 → Int64) {Q : Option Value → WO → Prop} (h2 : ((F 7) - (F 6)) < 0 → Q none (10, (ups F 5 (4 : Int32)), G, A, B)) (h4 : ¬ ((F 7) - (F 6)) < 0 → ¬ ((F 7) - (F 6)) < (F 3) → Q none (10, (ups F 5 (4 : Int32)), G, A, B)) (s6 : ¬ ((F 7) - (F 6)) < 0 → ((F 7) - (F 6)) < (F 3) → ((F 7) - (F 6)) < (64 : Int32) → (en_execute F A (XT.ushr ((A 3) ((F 7) - (F 6))) (28 : Int32)) ((XT.ushr ((A 3) ((F 7) - (F 6))) (24 : Int32)) &&& (7 : Int32)) ((XT.ushr ((A 3) ((F 7) - (F 6))) (20 : Int32)) &&& (7 : Int32)) (((A 3) ((F 7) - (F 6))) &&& (65535 : Int32)) (f_sext (((A 3) ((F 7) - (F 6))) &&& (65535 : Int32)))).isSome = true) (h7 : ¬ ((F 7) - (F 6)) < 0 → ((F 7) - (F 6)) < (F 3) → ((F 7) - (F 6)) < (64 : Int32) → Q none (10, (R_execute F A (XT.ushr ((A 3) ((F 7) - (F 6))) (28 : Int32)) ((XT.ushr ((A 3) ((F 7) - (F 6))) (24 : Int32)) &&& (7 : Int32)) ((XT.ushr ((A 3) ((F 7) - (F 6))) (20 : Int32)) &&& (7 : Int32)) (((A 3) ((F 7) - (F 6))) &&& (65535 : Int32)) (f_sext (((A 3) ((F 7) - (F 6))) &&& (65535 : Int32)))).2.1, G, (R_execute F A (XT.ushr ((A 3) ((F 7) - (F 6))) (28 : Int32)) ((XT.ushr ((A 3) ((F 7) - (F 6))) (24 : Int32)) &&& (7 : Int32)) ((XT.ushr ((A 3) ((F 7) - (F 6))) (20 : Int32)) &&& (7 : Int32)) (((A 3) ((F 7) - (F 6))) &&& (65535 : Int32)) (f_sext (((A 3) ((F 7) - (F 6))) &&& (65535 : Int32)))).2.2, B)) (h8 : ¬ ((F 7) - (F 6)) < 0 → ((F 7) - (F 6)) < (F 3) → ¬ ((F 7) - (F 6)) < (64 : Int32) → Q none (10, (ups F 5 (4 : Int32)), G, A, B)) :
    Wk l Z (MoC Z cdC) md_step 0 [.val (.ref 0), .unset, .unset, .unset, .unset, .unset, .unset, .unset] [] (10, F, G, A, B) 0 0 Q := by
  refine Wk.aloadN o_step_0 rfl ?_
  refine Wk.getI (mI_pcReg) (wf_pcReg H) o_step_1 (x := (F 7)) rfl ?_
  refine Wk.aloadN o_step_4 rfl ?_
  refine Wk.getI (mI_baseAddr) (wf_baseAddr H) o_step_5 (x := (F 6)) rfl ?_
  refine Wk.isub o_step_8 ?_
  refine Wk.istoreN o_step_9 (Or.inl rfl) (L' := [.val (.ref 0), .val (.int ((F 7) - (F 6))), .unset, .unset, .unset, .unset, .unset, .unset]) rfl ?_
  refine Wk.iloadN o_step_10 rfl ?_
  refine Wk.if_lt o_step_11 (fun q1 => ?_) (fun q1 => ?_)
  · refine Wk.aloadN o_step_28 rfl ?_
    refine Wk.iconst o_step_29 (z := (4 : Int32)) (by decide) ?_
    refine Wk.putI (coC H) (mI_state) (wf_state H) (Or.inl (wy_state H)) o_step_30 ?_
    exact Wk.ret mrC rfl o_step_33 rfl (by decide) (by decide) (h2 q1)
  · refine Wk.iloadN o_step_14 rfl ?_
    refine Wk.aloadN o_step_15 rfl ?_
    refine Wk.getI (mI_imgSize) (wf_imgSize H) o_step_16 (x := (F 3)) rfl ?_
    refine Wk.icmp_ge o_step_19 (fun q3 => ?_) (fun q3 => ?_)
    · refine Wk.aloadN o_step_28 rfl ?_
      refine Wk.iconst o_step_29 (z := (4 : Int32)) (by decide) ?_
      refine Wk.putI (coC H) (mI_state) (wf_state H) (Or.inl (wy_state H)) o_step_30 ?_
      exact Wk.ret mrC rfl o_step_33 rfl (by decide) (by decide) (h4 q1 q3)
    · refine Wk.iloadN o_step_22 rfl ?_
      refine Wk.bipush o_step_23 (z := (64 : Int32)) (by decide) ?_
      refine Wk.icmp_lt o_step_25 (fun q5 => ?_) (fun q5 => ?_)
      · refine Wk.aloadN o_step_34 rfl ?_
        refine Wk.getA (mA_cur) (by decide) (i' := 4) rfl (wf_cur H) o_step_35 ?_
        refine Wk.iloadN o_step_38 rfl ?_
        refine Wk.iaload (mA_cur) (by decide) (i' := 4) rfl q1 q5 o_step_39 (y := ((A 3) ((F 7) - (F 6)))) rfl ?_
        refine Wk.istoreN o_step_40 (Or.inl rfl) (L' := [.val (.ref 0), .val (.int ((F 7) - (F 6))), .val (.int ((A 3) ((F 7) - (F 6)))), .unset, .unset, .unset, .unset, .unset]) rfl ?_
        refine Wk.iloadN o_step_41 rfl ?_
        refine Wk.bipush o_step_42 (z := (28 : Int32)) (by decide) ?_
        refine Wk.iushr o_step_44 ?_
        refine Wk.istoreN o_step_45 (Or.inl rfl) (L' := [.val (.ref 0), .val (.int ((F 7) - (F 6))), .val (.int ((A 3) ((F 7) - (F 6)))), .val (.int (XT.ushr ((A 3) ((F 7) - (F 6))) (28 : Int32))), .unset, .unset, .unset, .unset]) rfl ?_
        refine Wk.iloadN o_step_46 rfl ?_
        refine Wk.bipush o_step_47 (z := (24 : Int32)) (by decide) ?_
        refine Wk.iushr o_step_49 ?_
        refine Wk.bipush o_step_50 (z := (7 : Int32)) (by decide) ?_
        refine Wk.iand o_step_52 ?_
        refine Wk.istore o_step_53 (Or.inl rfl) (L' := [.val (.ref 0), .val (.int ((F 7) - (F 6))), .val (.int ((A 3) ((F 7) - (F 6)))), .val (.int (XT.ushr ((A 3) ((F 7) - (F 6))) (28 : Int32))), .val (.int ((XT.ushr ((A 3) ((F 7) - (F 6))) (24 : Int32)) &&& (7 : Int32))), .unset, .unset, .unset]) rfl ?_
        refine Wk.iloadN o_step_55 rfl ?_
        refine Wk.bipush o_step_56 (z := (20 : Int32)) (by decide) ?_
        refine Wk.iushr o_step_58 ?_
        refine Wk.bipush o_step_59 (z := (7 : Int32)) (by decide) ?_
        refine Wk.iand o_step_61 ?_
        refine Wk.istore o_step_62 (Or.inl rfl) (L' := [.val (.ref 0), .val (.int ((F 7) - (F 6))), .val (.int ((A 3) ((F 7) - (F 6)))), .val (.int (XT.ushr ((A 3) ((F 7) - (F 6))) (28 : Int32))), .val (.int ((XT.ushr ((A 3) ((F 7) - (F 6))) (24 : Int32)) &&& (7 : Int32))), .val (.int ((XT.ushr ((A 3) ((F 7) - (F 6))) (20 : Int32)) &&& (7 : Int32))), .unset, .unset]) rfl ?_
        refine Wk.iloadN o_step_64 rfl ?_
        refine Wk.ldc o_step_65 (z := (65535 : Int32)) (H.w 123 rfl) ?_
        refine Wk.iand o_step_67 ?_
        refine Wk.istore o_step_68 (Or.inl rfl) (L' := [.val (.ref 0), .val (.int ((F 7) - (F 6))), .val (.int ((A 3) ((F 7) - (F 6)))), .val (.int (XT.ushr ((A 3) ((F 7) - (F 6))) (28 : Int32))), .val (.int ((XT.ushr ((A 3) ((F 7) - (F 6))) (24 : Int32)) &&& (7 : Int32))), .val (.int ((XT.ushr ((A 3) ((F 7) - (F 6))) (20 : Int32)) &&& (7 : Int32))), .val (.int (((A 3) ((F 7) - (F 6))) &&& (65535 : Int32))), .unset]) rfl ?_
        refine Wk.aloadN o_step_70 rfl ?_
        refine Wk.iload o_step_71 rfl ?_
        refine Wk.callF [.int (((A 3) ((F 7) - (F 6))) &&& (65535 : Int32))] [] (H.w 124 rfl) (cv_sext H) o_step_73 (run_sext H F G A B (((A 3) ((F 7) - (F 6))) &&& (65535 : Int32))) (wt := 0) (cu' := 0) (su' := 0) (by decide) rfl rfl rfl rfl rfl rfl rfl ?_
        refine Wk.istore o_step_76 (Or.inl rfl) (L' := [.val (.ref 0), .val (.int ((F 7) - (F 6))), .val (.int ((A 3) ((F 7) - (F 6)))), .val (.int (XT.ushr ((A 3) ((F 7) - (F 6))) (28 : Int32))), .val (.int ((XT.ushr ((A 3) ((F 7) - (F 6))) (24 : Int32)) &&& (7 : Int32))), .val (.int ((XT.ushr ((A 3) ((F 7) - (F 6))) (20 : Int32)) &&& (7 : Int32))), .val (.int (((A 3) ((F 7) - (F 6))) &&& (65535 : Int32))), .val (.int (f_sext (((A 3) ((F 7) - (F 6))) &&& (65535 : Int32))))]) rfl ?_
        refine Wk.aloadN o_step_78 rfl ?_
        refine Wk.iloadN o_step_79 rfl ?_
        refine Wk.iload o_step_80 rfl ?_
        refine Wk.iload o_step_82 rfl ?_
        refine Wk.iload o_step_84 rfl ?_
        refine Wk.iload o_step_86 rfl ?_
        refine Wk.callU [.int (XT.ushr ((A 3) ((F 7) - (F 6))) (28 : Int32)), .int ((XT.ushr ((A 3) ((F 7) - (F 6))) (24 : Int32)) &&& (7 : Int32)), .int ((XT.ushr ((A 3) ((F 7) - (F 6))) (20 : Int32)) &&& (7 : Int32)), .int (((A 3) ((F 7) - (F 6))) &&& (65535 : Int32)), .int (f_sext (((A 3) ((F 7) - (F 6))) &&& (65535 : Int32)))] [] (H.w 156 rfl) (cv_execute H) o_step_88 (run_execute H F G A B (XT.ushr ((A 3) ((F 7) - (F 6))) (28 : Int32)) ((XT.ushr ((A 3) ((F 7) - (F 6))) (24 : Int32)) &&& (7 : Int32)) ((XT.ushr ((A 3) ((F 7) - (F 6))) (20 : Int32)) &&& (7 : Int32)) (((A 3) ((F 7) - (F 6))) &&& (65535 : Int32)) (f_sext (((A 3) ((F 7) - (F 6))) &&& (65535 : Int32))) (s6 q1 q3 q5)) (wt := 0) (cu' := 0) (su' := 0) (by decide) rfl rfl rfl (al_execute _ _ _ _ _) rfl rfl rfl ?_
        exact Wk.ret mrC rfl o_step_91 rfl (by decide) (by decide) (h7 q1 q3 q5)
      · refine Wk.aloadN o_step_28 rfl ?_
        refine Wk.iconst o_step_29 (z := (4 : Int32)) (by decide) ?_
        refine Wk.putI (coC H) (mI_state) (wf_state H) (Or.inl (wy_state H)) o_step_30 ?_
        exact Wk.ret mrC rfl o_step_33 rfl (by decide) (by decide) (h8 q1 q3 q5)

theorem rt_step (G : Nat → Int64) (B : Nat → Int32 → Int64) (v0 : Int32) (xF : Nat → Int32) (xA : Nat → Int32 → Int32) (r : Int32 × (Nat → Int32) × (Nat → Int32 → Int32)) (e : (v0, xF, xA) = r) : (none : Option Value) = none ∧ (10, xF, G, xA, B) = (10, r.2.1, G, r.2.2, B) := by subst e; exact ⟨rfl, rfl⟩
def en_step (F : Nat → Int32) (A : Nat → Int32 → Int32) : Option (Int32 × (Nat → Int32) × (Nat → Int32 → Int32)) := (if ((F 7) - (F 6)) < 0 then some ((0 : Int32), (ups F 5 (4 : Int32)), A) else (if ((F 7) - (F 6)) < (F 3) then (if ((F 7) - (F 6)) < (64 : Int32) then (if ((en_execute F A (XT.ushr ((A 3) ((F 7) - (F 6))) (28 : Int32)) ((XT.ushr ((A 3) ((F 7) - (F 6))) (24 : Int32)) &&& (7 : Int32)) ((XT.ushr ((A 3) ((F 7) - (F 6))) (20 : Int32)) &&& (7 : Int32)) (((A 3) ((F 7) - (F 6))) &&& (65535 : Int32)) (f_sext (((A 3) ((F 7) - (F 6))) &&& (65535 : Int32)))).isSome = true) then some ((0 : Int32), (R_execute F A (XT.ushr ((A 3) ((F 7) - (F 6))) (28 : Int32)) ((XT.ushr ((A 3) ((F 7) - (F 6))) (24 : Int32)) &&& (7 : Int32)) ((XT.ushr ((A 3) ((F 7) - (F 6))) (20 : Int32)) &&& (7 : Int32)) (((A 3) ((F 7) - (F 6))) &&& (65535 : Int32)) (f_sext (((A 3) ((F 7) - (F 6))) &&& (65535 : Int32)))).2.1, (R_execute F A (XT.ushr ((A 3) ((F 7) - (F 6))) (28 : Int32)) ((XT.ushr ((A 3) ((F 7) - (F 6))) (24 : Int32)) &&& (7 : Int32)) ((XT.ushr ((A 3) ((F 7) - (F 6))) (20 : Int32)) &&& (7 : Int32)) (((A 3) ((F 7) - (F 6))) &&& (65535 : Int32)) (f_sext (((A 3) ((F 7) - (F 6))) &&& (65535 : Int32)))).2.2) else none) else some ((0 : Int32), (ups F 5 (4 : Int32)), A)) else some ((0 : Int32), (ups F 5 (4 : Int32)), A)))
theorem een_step (F : Nat → Int32) (A : Nat → Int32 → Int32) : en_step F A  = (if ((F 7) - (F 6)) < 0 then some ((0 : Int32), (ups F 5 (4 : Int32)), A) else (if ((F 7) - (F 6)) < (F 3) then (if ((F 7) - (F 6)) < (64 : Int32) then (if ((en_execute F A (XT.ushr ((A 3) ((F 7) - (F 6))) (28 : Int32)) ((XT.ushr ((A 3) ((F 7) - (F 6))) (24 : Int32)) &&& (7 : Int32)) ((XT.ushr ((A 3) ((F 7) - (F 6))) (20 : Int32)) &&& (7 : Int32)) (((A 3) ((F 7) - (F 6))) &&& (65535 : Int32)) (f_sext (((A 3) ((F 7) - (F 6))) &&& (65535 : Int32)))).isSome = true) then some ((0 : Int32), (R_execute F A (XT.ushr ((A 3) ((F 7) - (F 6))) (28 : Int32)) ((XT.ushr ((A 3) ((F 7) - (F 6))) (24 : Int32)) &&& (7 : Int32)) ((XT.ushr ((A 3) ((F 7) - (F 6))) (20 : Int32)) &&& (7 : Int32)) (((A 3) ((F 7) - (F 6))) &&& (65535 : Int32)) (f_sext (((A 3) ((F 7) - (F 6))) &&& (65535 : Int32)))).2.1, (R_execute F A (XT.ushr ((A 3) ((F 7) - (F 6))) (28 : Int32)) ((XT.ushr ((A 3) ((F 7) - (F 6))) (24 : Int32)) &&& (7 : Int32)) ((XT.ushr ((A 3) ((F 7) - (F 6))) (20 : Int32)) &&& (7 : Int32)) (((A 3) ((F 7) - (F 6))) &&& (65535 : Int32)) (f_sext (((A 3) ((F 7) - (F 6))) &&& (65535 : Int32)))).2.2) else none) else some ((0 : Int32), (ups F 5 (4 : Int32)), A)) else some ((0 : Int32), (ups F 5 (4 : Int32)), A))) := Eq.trans rfl rfl
def R_step (F : Nat → Int32) (A : Nat → Int32 → Int32) : Int32 × (Nat → Int32) × (Nat → Int32 → Int32) := (en_step F A ).getD (0, (fun _ => 0), (fun _ _ => 0))
theorem eR_step (F : Nat → Int32) (A : Nat → Int32 → Int32) : R_step F A  = (en_step F A ).getD (0, (fun _ => 0), (fun _ _ => 0)) := Eq.trans rfl rfl
set_option maxRecDepth 65536 in
set_option maxHeartbeats 4000000 in
theorem run_step {l : Launch} {Z : State} {a0 : Array Value} (H : OK Z a0) (F : Nat → Int32) (G : Nat → Int64) (A : Nat → Int32 → Int32) (B : Nat → Int32 → Int64) (e1 : (en_step F A ).isSome = true) :
    Wk l Z (MoC Z cdC) md_step 0 [.val (.ref 0), .unset, .unset, .unset, .unset, .unset, .unset, .unset] [] (10, F, G, A, B) 0 0 (fun v w' => v = none ∧ w' = (10, (R_step F A ).2.1, G, (R_step F A ).2.2, B)) := by
  obtain ⟨r, h⟩ := Option.isSome_iff_exists.mp e1
  have e : R_step F A  = r := (eR_step F A ).trans (getD_some h)
  rw [e]
  rw [een_step] at h
  exact wp_step H F G A B  (fun q1 => (rt_step _ _ _ _ _ r (Option.some.inj (ifp q1 h)))) (fun q1 q3 => (rt_step _ _ _ _ _ r (Option.some.inj (ifn q3 (ifn q1 h))))) (fun q1 q3 q5 => (gd (ifp q5 (ifp q3 (ifn q1 h)))).1) (fun q1 q3 q5 => (rt_step _ _ _ _ _ r (Option.some.inj (gd (ifp q5 (ifp q3 (ifn q1 h)))).2))) (fun q1 q3 q5 => (rt_step _ _ _ _ _ r (Option.some.inj (ifn q5 (ifp q3 (ifn q1 h))))))
set_option maxRecDepth 65536 in
set_option maxHeartbeats 4000000 in
theorem wp_run {l : Launch} {Z : State} {a0 : Array Value} (H : OK Z a0) (F : Nat → Int32) (G : Nat → Int64) (A : Nat → Int32 → Int32) (B : Nat → Int32 → Int64) (p1 : Int32) {Q : Option Value → WO → Prop} (h2 : (F 5) = (2 : Int32) → Wk l Z (MoC Z cdC) md_run 25 [.val (.ref 0), .unset, .val (.int (f_clamp p1 (0 : Int32) (1000 : Int32))), .val (.int (0 : Int32))] [] (10, F, G, A, B) 0 0 Q) (h3 : ¬ (F 5) = (2 : Int32) → Q (some (.int (F 5))) (10, F, G, A, B)) :
    Wk l Z (MoC Z cdC) md_run 0 [.val (.ref 0), .val (.int p1), .unset, .unset] [] (10, F, G, A, B) 0 0 Q := by
  refine Wk.aloadN o_run_0 rfl ?_
  refine Wk.iloadN o_run_1 rfl ?_
  refine Wk.iconst o_run_2 (z := (0 : Int32)) (by decide) ?_
  refine Wk.sipush o_run_3 (z := (1000 : Int32)) (by decide) ?_
  refine Wk.callF [.int p1, .int (0 : Int32), .int (1000 : Int32)] [] (H.w 31 rfl) (cv_clamp H) o_run_6 (run_clamp H F G A B p1 (0 : Int32) (1000 : Int32)) (wt := 0) (cu' := 0) (su' := 0) (by decide) rfl rfl rfl rfl rfl rfl rfl ?_
  refine Wk.istoreN o_run_9 (Or.inl rfl) (L' := [.val (.ref 0), .val (.int p1), .val (.int (f_clamp p1 (0 : Int32) (1000 : Int32))), .unset]) rfl ?_
  refine Wk.aloadN o_run_10 rfl ?_
  refine Wk.getI (mI_state) (wf_state H) o_run_11 (x := (F 5)) rfl ?_
  refine Wk.iconst o_run_14 (z := (2 : Int32)) (by decide) ?_
  refine Wk.icmp_eq o_run_15 (fun q1 => ?_) (fun q1 => ?_)
  · refine Wk.iconst o_run_23 (z := (0 : Int32)) (by decide) ?_
    refine Wk.istoreN o_run_24 (Or.inl rfl) (L' := [.val (.ref 0), .val (.int p1), .val (.int (f_clamp p1 (0 : Int32) (1000 : Int32))), .val (.int (0 : Int32))]) rfl ?_
    refine Wk.forget [false, true, false, false] (L' := [.val (.ref 0), .unset, .val (.int (f_clamp p1 (0 : Int32) (1000 : Int32))), .val (.int (0 : Int32))]) rfl rfl ?_
    exact (h2 q1)
  · refine Wk.aloadN o_run_18 rfl ?_
    refine Wk.getI (mI_state) (wf_state H) o_run_19 (x := (F 5)) rfl ?_
    exact Wk.ireturn mrC rfl o_run_22 rfl (by decide) (by decide) (h3 q1)

set_option maxRecDepth 65536 in
set_option maxHeartbeats 4000000 in
theorem wp_run_25 {l : Launch} {Z : State} {a0 : Array Value} (H : OK Z a0) (F : Nat → Int32) (G : Nat → Int64) (A : Nat → Int32 → Int32) (B : Nat → Int32 → Int64) (v2 : Int32) (v3 : Int32) {Q : Option Value → WO → Prop} (h2 : ¬ v3 < v2 → Q (some (.int (F 5))) (10, F, G, A, B)) (h4 : v3 < v2 → ¬ (F 5) = (2 : Int32) → Q (some (.int (F 5))) (10, F, G, A, B)) (s5 : v3 < v2 → (F 5) = (2 : Int32) → (en_step F A ).isSome = true) (h6 : v3 < v2 → (F 5) = (2 : Int32) → Wk l Z (MoC Z cdC) md_run 25 [.val (.ref 0), .unset, .val (.int v2), .val (.int (v3 + (1 : Int32)))] [] (10, (R_step F A ).2.1, G, (R_step F A ).2.2, B) 0 0 Q) :
    Wk l Z (MoC Z cdC) md_run 25 [.val (.ref 0), .unset, .val (.int v2), .val (.int v3)] [] (10, F, G, A, B) 0 0 Q := by
  refine Wk.iloadN o_run_25 rfl ?_
  refine Wk.iloadN o_run_26 rfl ?_
  refine Wk.icmp_ge o_run_27 (fun q1 => ?_) (fun q1 => ?_)
  · refine Wk.aloadN o_run_48 rfl ?_
    refine Wk.getI (mI_state) (wf_state H) o_run_49 (x := (F 5)) rfl ?_
    exact Wk.ireturn mrC rfl o_run_52 rfl (by decide) (by decide) (h2 q1)
  · refine Wk.aloadN o_run_30 rfl ?_
    refine Wk.getI (mI_state) (wf_state H) o_run_31 (x := (F 5)) rfl ?_
    refine Wk.iconst o_run_34 (z := (2 : Int32)) (by decide) ?_
    refine Wk.icmp_ne o_run_35 (fun q3 => ?_) (fun q3 => ?_)
    · refine Wk.aloadN o_run_48 rfl ?_
      refine Wk.getI (mI_state) (wf_state H) o_run_49 (x := (F 5)) rfl ?_
      exact Wk.ireturn mrC rfl o_run_52 rfl (by decide) (by decide) (h4 q1 q3)
    · refine Wk.aloadN o_run_38 rfl ?_
      refine Wk.callU [] [] (H.w 152 rfl) (cv_step H) o_run_39 (run_step H F G A B (s5 q1 q3)) (wt := 0) (cu' := 0) (su' := 0) (by decide) rfl rfl rfl rfl rfl rfl rfl ?_
      refine Wk.iinc o_run_42 rfl (z := (v3 + (1 : Int32))) rfl (L' := [.val (.ref 0), .unset, .val (.int v2), .val (.int (v3 + (1 : Int32)))]) rfl ?_
      refine Wk.goto o_run_45 ?_
      exact (h6 q1 q3)

theorem rt_run (G : Nat → Int64) (B : Nat → Int32 → Int64) (v0 : Int32) (xF : Nat → Int32) (xA : Nat → Int32 → Int32) (r : Int32 × (Nat → Int32) × (Nat → Int32 → Int32)) (e : (v0, xF, xA) = r) : some (Value.int v0) = some (.int r.1) ∧ (10, xF, G, xA, B) = (10, r.2.1, G, r.2.2, B) := by subst e; exact ⟨rfl, rfl⟩
def lp_run : Nat → Nat → Int32 → Int32 → (Nat → Int32) → (Nat → Int32 → Int32) → Option (Int32 × (Nat → Int32) × (Nat → Int32 → Int32))
  | 0, _, _, _, _, _ => none
  | n + 1, tag, v2, v3, F, A => if tag = 25 then (if v3 < v2 then (if (F 5) = (2 : Int32) then (if ((en_step F A ).isSome = true) then lp_run n 25 v2 (v3 + (1 : Int32)) (R_step F A ).2.1 (R_step F A ).2.2 else none) else some ((F 5), F, A)) else some ((F 5), F, A)) else none
theorem lp_run_z (tag : Nat) (v2 : Int32) (v3 : Int32) (F : Nat → Int32) (A : Nat → Int32 → Int32) : lp_run 0 tag v2 v3 F A = none := Eq.trans rfl rfl
theorem lp_run_25 (n : Nat) (v2 : Int32) (v3 : Int32) (F : Nat → Int32) (A : Nat → Int32 → Int32) : lp_run (n + 1) 25 v2 v3 F A = (if v3 < v2 then (if (F 5) = (2 : Int32) then (if ((en_step F A ).isSome = true) then lp_run n 25 v2 (v3 + (1 : Int32)) (R_step F A ).2.1 (R_step F A ).2.2 else none) else some ((F 5), F, A)) else some ((F 5), F, A)) := by
  rw [lp_run, if_pos rfl]
set_option maxRecDepth 65536 in
set_option maxHeartbeats 4000000 in
theorem lpw_run {l : Launch} {Z : State} {a0 : Array Value} (H : OK Z a0) (G : Nat → Int64) (B : Nat → Int32 → Int64) : ∀ (n : Nat) (v2 : Int32) (v3 : Int32) (F : Nat → Int32) (A : Nat → Int32 → Int32) (r : Int32 × (Nat → Int32) × (Nat → Int32 → Int32)), (lp_run n 25 v2 v3 F A = some r → Wk l Z (MoC Z cdC) md_run 25 [.val (.ref 0), .unset, .val (.int v2), .val (.int v3)] [] (10, F, G, A, B) 0 0 (fun v w' => v = some (.int r.1) ∧ w' = (10, r.2.1, G, r.2.2, B))) := by
  intro n
  induction n with
  | zero =>
    intro v2 v3 F A r
    exact (fun h => by rw [lp_run_z] at h; cases h)
  | succ n ih =>
    intro v2 v3 F A r
    refine fun h => ?_
    · rw [lp_run_25] at h
      exact wp_run_25 H F G A B v2 v3 (fun q1 => (rt_run _ _ _ _ _ r (Option.some.inj (ifn q1 h)))) (fun q1 q3 => (rt_run _ _ _ _ _ r (Option.some.inj (ifn q3 (ifp q1 h))))) (fun q1 q3 => (gd (ifp q3 (ifp q1 h))).1) (fun q1 q3 => (ih _ _ _ _ _) (gd (ifp q3 (ifp q1 h))).2)
def en_run (F : Nat → Int32) (A : Nat → Int32 → Int32) (p1 : Int32) : Option (Int32 × (Nat → Int32) × (Nat → Int32 → Int32)) := (if (F 5) = (2 : Int32) then lp_run 1000 25 (f_clamp p1 (0 : Int32) (1000 : Int32)) (0 : Int32) F A else some ((F 5), F, A))
theorem een_run (F : Nat → Int32) (A : Nat → Int32 → Int32) (p1 : Int32) : en_run F A p1 = (if (F 5) = (2 : Int32) then lp_run 1000 25 (f_clamp p1 (0 : Int32) (1000 : Int32)) (0 : Int32) F A else some ((F 5), F, A)) := Eq.trans rfl rfl
def R_run (F : Nat → Int32) (A : Nat → Int32 → Int32) (p1 : Int32) : Int32 × (Nat → Int32) × (Nat → Int32 → Int32) := (en_run F A p1).getD (0, (fun _ => 0), (fun _ _ => 0))
theorem eR_run (F : Nat → Int32) (A : Nat → Int32 → Int32) (p1 : Int32) : R_run F A p1 = (en_run F A p1).getD (0, (fun _ => 0), (fun _ _ => 0)) := Eq.trans rfl rfl
set_option maxRecDepth 65536 in
set_option maxHeartbeats 4000000 in
theorem run_run {l : Launch} {Z : State} {a0 : Array Value} (H : OK Z a0) (F : Nat → Int32) (G : Nat → Int64) (A : Nat → Int32 → Int32) (B : Nat → Int32 → Int64) (p1 : Int32) (e1 : (en_run F A p1).isSome = true) :
    Wk l Z (MoC Z cdC) md_run 0 [.val (.ref 0), .val (.int p1), .unset, .unset] [] (10, F, G, A, B) 0 0 (fun v w' => v = some (.int (R_run F A p1).1) ∧ w' = (10, (R_run F A p1).2.1, G, (R_run F A p1).2.2, B)) := by
  obtain ⟨r, h⟩ := Option.isSome_iff_exists.mp e1
  have e : R_run F A p1 = r := (eR_run F A p1).trans (getD_some h)
  rw [e]
  rw [een_run] at h
  exact wp_run H F G A B p1 (fun q1 => (lpw_run H G B _ _ _ _ _ _) (ifp q1 h)) (fun q1 => (rt_run _ _ _ _ _ r (Option.some.inj (ifn q1 h))))
set_option maxRecDepth 65536 in
set_option maxHeartbeats 4000000 in
theorem wp_status {l : Launch} {Z : State} {a0 : Array Value} (H : OK Z a0) (F : Nat → Int32) (G : Nat → Int64) (A : Nat → Int32 → Int32) (B : Nat → Int32 → Int64) {Q : Option Value → WO → Prop} (h1 : Q (some (.int (F 5))) (10, F, G, A, B)) :
    Wk l Z (MoC Z cdC) md_status 0 [.val (.ref 0)] [] (10, F, G, A, B) 0 0 Q := by
  refine Wk.aloadN o_status_0 rfl ?_
  refine Wk.getI (mI_state) (wf_state H) o_status_1 (x := (F 5)) rfl ?_
  exact Wk.ireturn mrC rfl o_status_4 rfl (by decide) (by decide) h1

def f_status (F : Nat → Int32) : Int32 := (F 5)
theorem e_status (F : Nat → Int32) : f_status F = (F 5) := Eq.trans rfl rfl
theorem run_status {l : Launch} {Z : State} {a0 : Array Value} (H : OK Z a0) (F : Nat → Int32) (G : Nat → Int64) (A : Nat → Int32 → Int32) (B : Nat → Int32 → Int64) :
    Wk l Z (MoC Z cdC) md_status 0 [.val (.ref 0)] [] (10, F, G, A, B) 0 0 (fun v w' => v = some (.int (f_status F)) ∧ w' = (10, F, G, A, B)) :=
  wp_status H F G A B ⟨rfl, rfl⟩
set_option maxRecDepth 65536 in
set_option maxHeartbeats 4000000 in
theorem wp_base {l : Launch} {Z : State} {a0 : Array Value} (H : OK Z a0) (F : Nat → Int32) (G : Nat → Int64) (A : Nat → Int32 → Int32) (B : Nat → Int32 → Int64) {Q : Option Value → WO → Prop} (h2 : ¬ (F 5) = 0 → Q (some (.int (F 6))) (10, F, G, A, B)) (h3 : (F 5) = 0 → Q (some (.int (0 : Int32))) (10, F, G, A, B)) :
    Wk l Z (MoC Z cdC) md_base 0 [.val (.ref 0)] [] (10, F, G, A, B) 0 0 Q := by
  refine Wk.aloadN o_base_0 rfl ?_
  refine Wk.getI (mI_state) (wf_state H) o_base_1 (x := (F 5)) rfl ?_
  refine Wk.if_ne o_base_4 (fun q1 => ?_) (fun q1 => ?_)
  · refine Wk.aloadN o_base_9 rfl ?_
    refine Wk.getI (mI_baseAddr) (wf_baseAddr H) o_base_10 (x := (F 6)) rfl ?_
    exact Wk.ireturn mrC rfl o_base_13 rfl (by decide) (by decide) (h2 q1)
  · refine Wk.iconst o_base_7 (z := (0 : Int32)) (by decide) ?_
    exact Wk.ireturn mrC rfl o_base_8 rfl (by decide) (by decide) (h3 q1)

def f_base (F : Nat → Int32) : Int32 := (if (F 5) = 0 then (0 : Int32) else (F 6))
theorem e_base (F : Nat → Int32) : f_base F = (if (F 5) = 0 then (0 : Int32) else (F 6)) := Eq.trans rfl rfl
theorem run_base {l : Launch} {Z : State} {a0 : Array Value} (H : OK Z a0) (F : Nat → Int32) (G : Nat → Int64) (A : Nat → Int32 → Int32) (B : Nat → Int32 → Int64) :
    Wk l Z (MoC Z cdC) md_base 0 [.val (.ref 0)] [] (10, F, G, A, B) 0 0 (fun v w' => v = some (.int (f_base F)) ∧ w' = (10, F, G, A, B)) :=
  wp_base H F G A B (fun q1 => ⟨by simp only [e_base, if_neg q1], rfl⟩) (fun q1 => ⟨by simp only [e_base, if_pos q1], rfl⟩)
set_option maxRecDepth 65536 in
set_option maxHeartbeats 4000000 in
theorem wp_pc {l : Launch} {Z : State} {a0 : Array Value} (H : OK Z a0) (F : Nat → Int32) (G : Nat → Int64) (A : Nat → Int32 → Int32) (B : Nat → Int32 → Int64) {Q : Option Value → WO → Prop} (h2 : (F 5) = 0 → Q (some (.int (0 : Int32))) (10, F, G, A, B)) (h4 : ¬ (F 5) = 0 → ¬ (F 5) = (1 : Int32) → Q (some (.int (F 7))) (10, F, G, A, B)) (h5 : ¬ (F 5) = 0 → (F 5) = (1 : Int32) → Q (some (.int (0 : Int32))) (10, F, G, A, B)) :
    Wk l Z (MoC Z cdC) md_pc 0 [.val (.ref 0)] [] (10, F, G, A, B) 0 0 Q := by
  refine Wk.aloadN o_pc_0 rfl ?_
  refine Wk.getI (mI_state) (wf_state H) o_pc_1 (x := (F 5)) rfl ?_
  refine Wk.if_eq o_pc_4 (fun q1 => ?_) (fun q1 => ?_)
  · refine Wk.iconst o_pc_15 (z := (0 : Int32)) (by decide) ?_
    exact Wk.ireturn mrC rfl o_pc_16 rfl (by decide) (by decide) (h2 q1)
  · refine Wk.aloadN o_pc_7 rfl ?_
    refine Wk.getI (mI_state) (wf_state H) o_pc_8 (x := (F 5)) rfl ?_
    refine Wk.iconst o_pc_11 (z := (1 : Int32)) (by decide) ?_
    refine Wk.icmp_ne o_pc_12 (fun q3 => ?_) (fun q3 => ?_)
    · refine Wk.aloadN o_pc_17 rfl ?_
      refine Wk.getI (mI_pcReg) (wf_pcReg H) o_pc_18 (x := (F 7)) rfl ?_
      exact Wk.ireturn mrC rfl o_pc_21 rfl (by decide) (by decide) (h4 q1 q3)
    · refine Wk.iconst o_pc_15 (z := (0 : Int32)) (by decide) ?_
      exact Wk.ireturn mrC rfl o_pc_16 rfl (by decide) (by decide) (h5 q1 q3)

def f_pc (F : Nat → Int32) : Int32 := (if (F 5) = 0 then (0 : Int32) else (if (F 5) = (1 : Int32) then (0 : Int32) else (F 7)))
theorem e_pc (F : Nat → Int32) : f_pc F = (if (F 5) = 0 then (0 : Int32) else (if (F 5) = (1 : Int32) then (0 : Int32) else (F 7))) := Eq.trans rfl rfl
theorem run_pc {l : Launch} {Z : State} {a0 : Array Value} (H : OK Z a0) (F : Nat → Int32) (G : Nat → Int64) (A : Nat → Int32 → Int32) (B : Nat → Int32 → Int64) :
    Wk l Z (MoC Z cdC) md_pc 0 [.val (.ref 0)] [] (10, F, G, A, B) 0 0 (fun v w' => v = some (.int (f_pc F)) ∧ w' = (10, F, G, A, B)) :=
  wp_pc H F G A B (fun q1 => ⟨by simp only [e_pc, if_pos q1], rfl⟩) (fun q1 q3 => ⟨by simp only [e_pc, if_neg q1, if_neg q3], rfl⟩) (fun q1 q3 => ⟨by simp only [e_pc, if_neg q1, if_pos q3], rfl⟩)
set_option maxRecDepth 65536 in
set_option maxHeartbeats 4000000 in
theorem wp_reg {l : Launch} {Z : State} {a0 : Array Value} (H : OK Z a0) (F : Nat → Int32) (G : Nat → Int64) (A : Nat → Int32 → Int32) (B : Nat → Int32 → Int64) (p1 : Int32) {Q : Option Value → WO → Prop} (h2 : p1 < 0 → Q (some (.int (0 : Int32))) (10, F, G, A, B)) (s4 : ¬ p1 < 0 → ¬ (7 : Int32) < p1 → p1 < (8 : Int32)) (h5 : ¬ p1 < 0 → ¬ (7 : Int32) < p1 → Q (some (.int ((A 9) p1))) (10, F, G, A, B)) (h6 : ¬ p1 < 0 → (7 : Int32) < p1 → Q (some (.int (0 : Int32))) (10, F, G, A, B)) :
    Wk l Z (MoC Z cdC) md_reg 0 [.val (.ref 0), .val (.int p1)] [] (10, F, G, A, B) 0 0 Q := by
  refine Wk.iloadN o_reg_0 rfl ?_
  refine Wk.if_lt o_reg_1 (fun q1 => ?_) (fun q1 => ?_)
  · refine Wk.iconst o_reg_10 (z := (0 : Int32)) (by decide) ?_
    exact Wk.ireturn mrC rfl o_reg_11 rfl (by decide) (by decide) (h2 q1)
  · refine Wk.iloadN o_reg_4 rfl ?_
    refine Wk.bipush o_reg_5 (z := (7 : Int32)) (by decide) ?_
    refine Wk.icmp_le o_reg_7 (fun q3 => ?_) (fun q3 => ?_)
    · refine Wk.aloadN o_reg_12 rfl ?_
      refine Wk.getA (mA_regs) (by decide) (i' := 10) rfl (wf_regs H) o_reg_13 ?_
      refine Wk.iloadN o_reg_16 rfl ?_
      refine Wk.iaload (mA_regs) (by decide) (i' := 10) rfl q1 (s4 q1 q3) o_reg_17 (y := ((A 9) p1)) rfl ?_
      exact Wk.ireturn mrC rfl o_reg_18 rfl (by decide) (by decide) (h5 q1 q3)
    · refine Wk.iconst o_reg_10 (z := (0 : Int32)) (by decide) ?_
      exact Wk.ireturn mrC rfl o_reg_11 rfl (by decide) (by decide) (h6 q1 q3)

theorem rt_reg (F : Nat → Int32) (G : Nat → Int64) (A : Nat → Int32 → Int32) (B : Nat → Int32 → Int64) (v0 : Int32) (r : Int32) (e : v0 = r) : some (Value.int v0) = some (.int r) ∧ (10, F, G, A, B) = (10, F, G, A, B) := by subst e; exact ⟨rfl, rfl⟩
def en_reg (A : Nat → Int32 → Int32) (p1 : Int32) : Option (Int32) := (if p1 < 0 then some ((0 : Int32)) else (if (7 : Int32) < p1 then some ((0 : Int32)) else (if (p1 < (8 : Int32)) then some (((A 9) p1)) else none)))
theorem een_reg (A : Nat → Int32 → Int32) (p1 : Int32) : en_reg A p1 = (if p1 < 0 then some ((0 : Int32)) else (if (7 : Int32) < p1 then some ((0 : Int32)) else (if (p1 < (8 : Int32)) then some (((A 9) p1)) else none))) := Eq.trans rfl rfl
def R_reg (A : Nat → Int32 → Int32) (p1 : Int32) : Int32 := (en_reg A p1).getD (0)
theorem eR_reg (A : Nat → Int32 → Int32) (p1 : Int32) : R_reg A p1 = (en_reg A p1).getD (0) := Eq.trans rfl rfl
set_option maxRecDepth 65536 in
set_option maxHeartbeats 4000000 in
theorem run_reg {l : Launch} {Z : State} {a0 : Array Value} (H : OK Z a0) (F : Nat → Int32) (G : Nat → Int64) (A : Nat → Int32 → Int32) (B : Nat → Int32 → Int64) (p1 : Int32) (e1 : (en_reg A p1).isSome = true) :
    Wk l Z (MoC Z cdC) md_reg 0 [.val (.ref 0), .val (.int p1)] [] (10, F, G, A, B) 0 0 (fun v w' => v = some (.int (R_reg A p1)) ∧ w' = (10, F, G, A, B)) := by
  obtain ⟨r, h⟩ := Option.isSome_iff_exists.mp e1
  have e : R_reg A p1 = r := (eR_reg A p1).trans (getD_some h)
  rw [e]
  rw [een_reg] at h
  exact wp_reg H F G A B p1 (fun q1 => (rt_reg _ _ _ _ _ r (Option.some.inj (ifp q1 h)))) (fun q1 q3 => (gd (ifn q3 (ifn q1 h))).1) (fun q1 q3 => (rt_reg _ _ _ _ _ r (Option.some.inj (gd (ifn q3 (ifn q1 h))).2))) (fun q1 q3 => (rt_reg _ _ _ _ _ r (Option.some.inj (ifp q3 (ifn q1 h)))))
set_option maxRecDepth 65536 in
set_option maxHeartbeats 4000000 in
theorem wp_peek {l : Launch} {Z : State} {a0 : Array Value} (H : OK Z a0) (F : Nat → Int32) (G : Nat → Int64) (A : Nat → Int32 → Int32) (B : Nat → Int32 → Int64) (p1 : Int32) {Q : Option Value → WO → Prop} (h2 : p1 < 0 → Q (some (.int (0 : Int32))) (10, F, G, A, B)) (h4 : ¬ p1 < 0 → ¬ p1 < (F 3) → Q (some (.int (0 : Int32))) (10, F, G, A, B)) (h7 : ¬ p1 < 0 → p1 < (F 3) → p1 < (64 : Int32) → ¬ (F 5) = 0 → Q (some (.int ((A 3) p1))) (10, F, G, A, B)) (h8 : ¬ p1 < 0 → p1 < (F 3) → p1 < (64 : Int32) → (F 5) = 0 → Q (some (.int ((A 2) p1))) (10, F, G, A, B)) (h9 : ¬ p1 < 0 → p1 < (F 3) → ¬ p1 < (64 : Int32) → Q (some (.int (0 : Int32))) (10, F, G, A, B)) :
    Wk l Z (MoC Z cdC) md_peek 0 [.val (.ref 0), .val (.int p1)] [] (10, F, G, A, B) 0 0 Q := by
  refine Wk.iloadN o_peek_0 rfl ?_
  refine Wk.if_lt o_peek_1 (fun q1 => ?_) (fun q1 => ?_)
  · refine Wk.iconst o_peek_18 (z := (0 : Int32)) (by decide) ?_
    exact Wk.ireturn mrC rfl o_peek_19 rfl (by decide) (by decide) (h2 q1)
  · refine Wk.iloadN o_peek_4 rfl ?_
    refine Wk.aloadN o_peek_5 rfl ?_
    refine Wk.getI (mI_imgSize) (wf_imgSize H) o_peek_6 (x := (F 3)) rfl ?_
    refine Wk.icmp_ge o_peek_9 (fun q3 => ?_) (fun q3 => ?_)
    · refine Wk.iconst o_peek_18 (z := (0 : Int32)) (by decide) ?_
      exact Wk.ireturn mrC rfl o_peek_19 rfl (by decide) (by decide) (h4 q1 q3)
    · refine Wk.iloadN o_peek_12 rfl ?_
      refine Wk.bipush o_peek_13 (z := (64 : Int32)) (by decide) ?_
      refine Wk.icmp_lt o_peek_15 (fun q5 => ?_) (fun q5 => ?_)
      · refine Wk.aloadN o_peek_20 rfl ?_
        refine Wk.getI (mI_state) (wf_state H) o_peek_21 (x := (F 5)) rfl ?_
        refine Wk.if_ne o_peek_24 (fun q6 => ?_) (fun q6 => ?_)
        · refine Wk.aloadN o_peek_34 rfl ?_
          refine Wk.getA (mA_cur) (by decide) (i' := 4) rfl (wf_cur H) o_peek_35 ?_
          refine Wk.iloadN o_peek_38 rfl ?_
          refine Wk.iaload (mA_cur) (by decide) (i' := 4) rfl q1 q5 o_peek_39 (y := ((A 3) p1)) rfl ?_
          exact Wk.ireturn mrC rfl o_peek_40 rfl (by decide) (by decide) (h7 q1 q3 q5 q6)
        · refine Wk.aloadN o_peek_27 rfl ?_
          refine Wk.getA (mA_raw) (by decide) (i' := 3) rfl (wf_raw H) o_peek_28 ?_
          refine Wk.iloadN o_peek_31 rfl ?_
          refine Wk.iaload (mA_raw) (by decide) (i' := 3) rfl q1 q5 o_peek_32 (y := ((A 2) p1)) rfl ?_
          exact Wk.ireturn mrC rfl o_peek_33 rfl (by decide) (by decide) (h8 q1 q3 q5 q6)
      · refine Wk.iconst o_peek_18 (z := (0 : Int32)) (by decide) ?_
        exact Wk.ireturn mrC rfl o_peek_19 rfl (by decide) (by decide) (h9 q1 q3 q5)

def f_peek (F : Nat → Int32) (A : Nat → Int32 → Int32) (p1 : Int32) : Int32 := (if p1 < 0 then (0 : Int32) else (if p1 < (F 3) then (if p1 < (64 : Int32) then (if (F 5) = 0 then ((A 2) p1) else ((A 3) p1)) else (0 : Int32)) else (0 : Int32)))
theorem e_peek (F : Nat → Int32) (A : Nat → Int32 → Int32) (p1 : Int32) : f_peek F A p1 = (if p1 < 0 then (0 : Int32) else (if p1 < (F 3) then (if p1 < (64 : Int32) then (if (F 5) = 0 then ((A 2) p1) else ((A 3) p1)) else (0 : Int32)) else (0 : Int32))) := Eq.trans rfl rfl
theorem run_peek {l : Launch} {Z : State} {a0 : Array Value} (H : OK Z a0) (F : Nat → Int32) (G : Nat → Int64) (A : Nat → Int32 → Int32) (B : Nat → Int32 → Int64) (p1 : Int32) :
    Wk l Z (MoC Z cdC) md_peek 0 [.val (.ref 0), .val (.int p1)] [] (10, F, G, A, B) 0 0 (fun v w' => v = some (.int (f_peek F A p1)) ∧ w' = (10, F, G, A, B)) :=
  wp_peek H F G A B p1 (fun q1 => ⟨by simp only [e_peek, if_pos q1], rfl⟩) (fun q1 q3 => ⟨by simp only [e_peek, if_neg q1, if_neg q3], rfl⟩) (fun q1 q3 q5 q6 => ⟨by simp only [e_peek, if_neg q1, if_pos q3, if_pos q5, if_neg q6], rfl⟩) (fun q1 q3 q5 q6 => ⟨by simp only [e_peek, if_neg q1, if_pos q3, if_pos q5, if_pos q6], rfl⟩) (fun q1 q3 q5 => ⟨by simp only [e_peek, if_neg q1, if_pos q3, if_neg q5], rfl⟩)
set_option maxRecDepth 65536 in
set_option maxHeartbeats 4000000 in
theorem wp_L_law {l : Launch} {Z : State} {a0 : Array Value} (H : OK Z a0) (sl : Int32) (sv : Int32 → Int32) (p1 : Int32) (p2 : Int32) (p3 : Int32) {Q : Option Value → WL → Prop} (h1 : Wk l Z (MoL Z cdC "RebaseLoaderL3" false) md_L_law 12 [.val (.int p1), .val (.int p2), .val (.int p3), .val (.ref 1), .unset, .unset, .unset, .unset] [] (sl, sv, [(10, (F_init (64 : Int32) (8 : Int32)), (fun _ => 0), (fun _ _ => 0), (fun _ _ => 0))]) 11 354 Q) :
    Wk l Z (MoL Z cdC "RebaseLoaderL3" false) md_L_law 0 [.val (.int p1), .val (.int p2), .val (.int p3), .unset, .unset, .unset, .unset, .unset] [] (sl, sv, []) 0 0 Q := by
  refine Wk.newL (coC H) (kk := 18) (H.w 0 rfl) (H.w 1 rfl) (wz_C H) o_L_law_0 trivial (i' := 1) rfl (ws' := [(0, (fun _ => 0), (fun _ => 0), (fun _ _ => 0), (fun _ _ => 0))]) rfl (cu' := 1) rfl (su' := 18) rfl (by decide) (by decide) ?_
  refine Wk.dup o_L_law_3 rfl ?_
  refine Wk.bipush o_L_law_4 (z := (64 : Int32)) (by decide) ?_
  refine Wk.bipush o_L_law_6 (z := (8 : Int32)) (by decide) ?_
  refine Wk.ctorLU (coC H) [.int (64 : Int32), .int (8 : Int32)] 0 [.ref 1] (i' := 1) (H.w 3 rfl) (cv_init H) o_L_law_8 (run_init H (64 : Int32) (8 : Int32)) (wt := 1) (cu' := 11) (su' := 354) (by decide) trivial rfl rfl rfl rfl rfl rfl rfl rfl rfl rfl (ws' := [(10, (F_init (64 : Int32) (8 : Int32)), (fun _ => 0), (fun _ _ => 0), (fun _ _ => 0))]) rfl ?_
  refine Wk.astoreN o_L_law_11 (Or.inl rfl) (L' := [.val (.int p1), .val (.int p2), .val (.int p3), .val (.ref 1), .unset, .unset, .unset, .unset]) rfl ?_
  exact h1

set_option maxRecDepth 65536 in
set_option maxHeartbeats 4000000 in
theorem wp_L_law_12 {l : Launch} {Z : State} {a0 : Array Value} (H : OK Z a0) (sl : Int32) (sv : Int32 → Int32) (F1 : Nat → Int32) (G1 : Nat → Int64) (A1 : Nat → Int32 → Int32) (B1 : Nat → Int32 → Int64) (v0 : Int32) (v1 : Int32) (v2 : Int32) {Q : Option Value → WL → Prop} (s1 : (en_addSection F1 A1 (8 : Int32) (1 : Int32)).isSome = true) (h3 : (R_addSection F1 A1 (8 : Int32) (1 : Int32)).1 = 0 → Wk l Z (MoL Z cdC "RebaseLoaderL3" false) md_L_law 29 [.unset, .val (.int v1), .val (.int v2), .val (.ref 1), .val (.int (v0 <<< ((4 : Int32) &&& 31))), .unset, .unset, .unset] [] (sl, sv, [(10, (R_addSection F1 A1 (8 : Int32) (1 : Int32)).2.1, G1, (R_addSection F1 A1 (8 : Int32) (1 : Int32)).2.2, B1)]) 11 354 Q) (h4 : ¬ (R_addSection F1 A1 (8 : Int32) (1 : Int32)).1 = 0 → Q (some (.int (0 : Int32))) (sl, sv, [(10, (R_addSection F1 A1 (8 : Int32) (1 : Int32)).2.1, G1, (R_addSection F1 A1 (8 : Int32) (1 : Int32)).2.2, B1)])) :
    Wk l Z (MoL Z cdC "RebaseLoaderL3" false) md_L_law 12 [.val (.int v0), .val (.int v1), .val (.int v2), .val (.ref 1), .unset, .unset, .unset, .unset] [] (sl, sv, [(10, F1, G1, A1, B1)]) 11 354 Q := by
  refine Wk.iloadN o_L_law_12 rfl ?_
  refine Wk.iconst o_L_law_13 (z := (4 : Int32)) (by decide) ?_
  refine Wk.ishl o_L_law_14 ?_
  refine Wk.istore o_L_law_15 (Or.inl rfl) (L' := [.val (.int v0), .val (.int v1), .val (.int v2), .val (.ref 1), .val (.int (v0 <<< ((4 : Int32) &&& 31))), .unset, .unset, .unset]) rfl ?_
  refine Wk.aloadN o_L_law_17 rfl ?_
  refine Wk.bipush o_L_law_18 (z := (8 : Int32)) (by decide) ?_
  refine Wk.iconst o_L_law_20 (z := (1 : Int32)) (by decide) ?_
  refine Wk.callLF (coC H) [.int (8 : Int32), .int (1 : Int32)] 0 [] (i' := 1) (H.w 51 rfl) (cv_addSection H) o_L_law_21 (run_addSection H F1 G1 A1 B1 (8 : Int32) (1 : Int32) s1) (wt := 0) (cu' := 11) (su' := 354) (by decide) trivial rfl rfl rfl rfl rfl rfl rfl rfl rfl rfl (ws' := [(10, (R_addSection F1 A1 (8 : Int32) (1 : Int32)).2.1, G1, (R_addSection F1 A1 (8 : Int32) (1 : Int32)).2.2, B1)]) rfl ?_
  refine Wk.if_eq o_L_law_24 (fun q2 => ?_) (fun q2 => ?_)
  · refine Wk.forget [true, false, false, false, false, false, false, false] (L' := [.unset, .val (.int v1), .val (.int v2), .val (.ref 1), .val (.int (v0 <<< ((4 : Int32) &&& 31))), .unset, .unset, .unset]) rfl rfl ?_
    exact (h3 q2)
  · refine Wk.iconst o_L_law_27 (z := (0 : Int32)) (by decide) ?_
    exact Wk.zreturn mrL rfl o_L_law_28 rfl (by decide) (by decide) (y := (0 : Int32)) (by decide) (h4 q2)

set_option maxRecDepth 65536 in
set_option maxHeartbeats 4000000 in
theorem wp_L_law_29 {l : Launch} {Z : State} {a0 : Array Value} (H : OK Z a0) (sl : Int32) (sv : Int32 → Int32) (F1 : Nat → Int32) (G1 : Nat → Int64) (A1 : Nat → Int32 → Int32) (B1 : Nat → Int32 → Int64) (v1 : Int32) (v2 : Int32) (v4 : Int32) {Q : Option Value → WL → Prop} (s1 : (en_addSection F1 A1 (2 : Int32) (16 : Int32)).isSome = true) (h3 : (R_addSection F1 A1 (2 : Int32) (16 : Int32)).1 = (1 : Int32) → Wk l Z (MoL Z cdC "RebaseLoaderL3" false) md_L_law 42 [.unset, .val (.int v1), .val (.int v2), .val (.ref 1), .val (.int v4), .unset, .unset, .unset] [] (sl, sv, [(10, (R_addSection F1 A1 (2 : Int32) (16 : Int32)).2.1, G1, (R_addSection F1 A1 (2 : Int32) (16 : Int32)).2.2, B1)]) 11 354 Q) (h4 : ¬ (R_addSection F1 A1 (2 : Int32) (16 : Int32)).1 = (1 : Int32) → Q (some (.int (0 : Int32))) (sl, sv, [(10, (R_addSection F1 A1 (2 : Int32) (16 : Int32)).2.1, G1, (R_addSection F1 A1 (2 : Int32) (16 : Int32)).2.2, B1)])) :
    Wk l Z (MoL Z cdC "RebaseLoaderL3" false) md_L_law 29 [.unset, .val (.int v1), .val (.int v2), .val (.ref 1), .val (.int v4), .unset, .unset, .unset] [] (sl, sv, [(10, F1, G1, A1, B1)]) 11 354 Q := by
  refine Wk.aloadN o_L_law_29 rfl ?_
  refine Wk.iconst o_L_law_30 (z := (2 : Int32)) (by decide) ?_
  refine Wk.bipush o_L_law_31 (z := (16 : Int32)) (by decide) ?_
  refine Wk.callLF (coC H) [.int (2 : Int32), .int (16 : Int32)] 0 [] (i' := 1) (H.w 51 rfl) (cv_addSection H) o_L_law_33 (run_addSection H F1 G1 A1 B1 (2 : Int32) (16 : Int32) s1) (wt := 0) (cu' := 11) (su' := 354) (by decide) trivial rfl rfl rfl rfl rfl rfl rfl rfl rfl rfl (ws' := [(10, (R_addSection F1 A1 (2 : Int32) (16 : Int32)).2.1, G1, (R_addSection F1 A1 (2 : Int32) (16 : Int32)).2.2, B1)]) rfl ?_
  refine Wk.iconst o_L_law_36 (z := (1 : Int32)) (by decide) ?_
  refine Wk.icmp_eq o_L_law_37 (fun q2 => ?_) (fun q2 => ?_)
  · exact (h3 q2)
  · refine Wk.iconst o_L_law_40 (z := (0 : Int32)) (by decide) ?_
    exact Wk.zreturn mrL rfl o_L_law_41 rfl (by decide) (by decide) (y := (0 : Int32)) (by decide) (h4 q2)

set_option maxRecDepth 65536 in
set_option maxHeartbeats 4000000 in
theorem wp_L_law_42 {l : Launch} {Z : State} {a0 : Array Value} (H : OK Z a0) (sl : Int32) (sv : Int32 → Int32) (F1 : Nat → Int32) (G1 : Nat → Int64) (A1 : Nat → Int32 → Int32) (B1 : Nat → Int32 → Int64) (v1 : Int32) (v2 : Int32) (v4 : Int32) {Q : Option Value → WL → Prop} (s1 : (en_setWord F1 A1 (0 : Int32) (285212672 : Int32)).isSome = true) (h2 : Wk l Z (MoL Z cdC "RebaseLoaderL3" false) md_L_law 50 [.unset, .val (.int v1), .val (.int v2), .val (.ref 1), .val (.int v4), .unset, .unset, .unset] [] (sl, sv, [(10, F1, G1, (R_setWord F1 A1 (0 : Int32) (285212672 : Int32)).2, B1)]) 11 354 Q) :
    Wk l Z (MoL Z cdC "RebaseLoaderL3" false) md_L_law 42 [.unset, .val (.int v1), .val (.int v2), .val (.ref 1), .val (.int v4), .unset, .unset, .unset] [] (sl, sv, [(10, F1, G1, A1, B1)]) 11 354 Q := by
  refine Wk.aloadN o_L_law_42 rfl ?_
  refine Wk.iconst o_L_law_43 (z := (0 : Int32)) (by decide) ?_
  refine Wk.ldc o_L_law_44 (z := (285212672 : Int32)) (H.w 64 rfl) ?_
  refine Wk.callLF (coC H) [.int (0 : Int32), .int (285212672 : Int32)] 0 [] (i' := 1) (H.w 65 rfl) (cv_setWord H) o_L_law_46 (run_setWord H F1 G1 A1 B1 (0 : Int32) (285212672 : Int32) s1) (wt := 0) (cu' := 11) (su' := 354) (by decide) trivial rfl rfl rfl rfl rfl rfl rfl rfl rfl rfl (ws' := [(10, F1, G1, (R_setWord F1 A1 (0 : Int32) (285212672 : Int32)).2, B1)]) rfl ?_
  refine Wk.pop o_L_law_49 rfl ?_
  exact h2

set_option maxRecDepth 65536 in
set_option maxHeartbeats 4000000 in
theorem wp_L_law_50 {l : Launch} {Z : State} {a0 : Array Value} (H : OK Z a0) (sl : Int32) (sv : Int32 → Int32) (F1 : Nat → Int32) (G1 : Nat → Int64) (A1 : Nat → Int32 → Int32) (B1 : Nat → Int32 → Int64) (v1 : Int32) (v2 : Int32) (v4 : Int32) {Q : Option Value → WL → Prop} (s1 : (en_setWord F1 A1 (1 : Int32) (554696704 : Int32)).isSome = true) (h2 : Wk l Z (MoL Z cdC "RebaseLoaderL3" false) md_L_law 58 [.unset, .val (.int v1), .val (.int v2), .val (.ref 1), .val (.int v4), .unset, .unset, .unset] [] (sl, sv, [(10, F1, G1, (R_setWord F1 A1 (1 : Int32) (554696704 : Int32)).2, B1)]) 11 354 Q) :
    Wk l Z (MoL Z cdC "RebaseLoaderL3" false) md_L_law 50 [.unset, .val (.int v1), .val (.int v2), .val (.ref 1), .val (.int v4), .unset, .unset, .unset] [] (sl, sv, [(10, F1, G1, A1, B1)]) 11 354 Q := by
  refine Wk.aloadN o_L_law_50 rfl ?_
  refine Wk.iconst o_L_law_51 (z := (1 : Int32)) (by decide) ?_
  refine Wk.ldc o_L_law_52 (z := (554696704 : Int32)) (H.w 78 rfl) ?_
  refine Wk.callLF (coC H) [.int (1 : Int32), .int (554696704 : Int32)] 0 [] (i' := 1) (H.w 65 rfl) (cv_setWord H) o_L_law_54 (run_setWord H F1 G1 A1 B1 (1 : Int32) (554696704 : Int32) s1) (wt := 0) (cu' := 11) (su' := 354) (by decide) trivial rfl rfl rfl rfl rfl rfl rfl rfl rfl rfl (ws' := [(10, F1, G1, (R_setWord F1 A1 (1 : Int32) (554696704 : Int32)).2, B1)]) rfl ?_
  refine Wk.pop o_L_law_57 rfl ?_
  exact h2

set_option maxRecDepth 65536 in
set_option maxHeartbeats 4000000 in
theorem wp_L_law_58 {l : Launch} {Z : State} {a0 : Array Value} (H : OK Z a0) (sl : Int32) (sv : Int32 → Int32) (F1 : Nat → Int32) (G1 : Nat → Int64) (A1 : Nat → Int32 → Int32) (B1 : Nat → Int32 → Int64) (v1 : Int32) (v2 : Int32) (v4 : Int32) {Q : Option Value → WL → Prop} (s1 : (en_setWord F1 A1 (2 : Int32) (1108344832 : Int32)).isSome = true) (h2 : Wk l Z (MoL Z cdC "RebaseLoaderL3" false) md_L_law 66 [.unset, .val (.int v1), .val (.int v2), .val (.ref 1), .val (.int v4), .unset, .unset, .unset] [] (sl, sv, [(10, F1, G1, (R_setWord F1 A1 (2 : Int32) (1108344832 : Int32)).2, B1)]) 11 354 Q) :
    Wk l Z (MoL Z cdC "RebaseLoaderL3" false) md_L_law 58 [.unset, .val (.int v1), .val (.int v2), .val (.ref 1), .val (.int v4), .unset, .unset, .unset] [] (sl, sv, [(10, F1, G1, A1, B1)]) 11 354 Q := by
  refine Wk.aloadN o_L_law_58 rfl ?_
  refine Wk.iconst o_L_law_59 (z := (2 : Int32)) (by decide) ?_
  refine Wk.ldc o_L_law_60 (z := (1108344832 : Int32)) (H.w 79 rfl) ?_
  refine Wk.callLF (coC H) [.int (2 : Int32), .int (1108344832 : Int32)] 0 [] (i' := 1) (H.w 65 rfl) (cv_setWord H) o_L_law_62 (run_setWord H F1 G1 A1 B1 (2 : Int32) (1108344832 : Int32) s1) (wt := 0) (cu' := 11) (su' := 354) (by decide) trivial rfl rfl rfl rfl rfl rfl rfl rfl rfl rfl (ws' := [(10, F1, G1, (R_setWord F1 A1 (2 : Int32) (1108344832 : Int32)).2, B1)]) rfl ?_
  refine Wk.pop o_L_law_65 rfl ?_
  exact h2

set_option maxRecDepth 65536 in
set_option maxHeartbeats 4000000 in
theorem wp_L_law_66 {l : Launch} {Z : State} {a0 : Array Value} (H : OK Z a0) (sl : Int32) (sv : Int32 → Int32) (F1 : Nat → Int32) (G1 : Nat → Int64) (A1 : Nat → Int32 → Int32) (B1 : Nat → Int32 → Int64) (v1 : Int32) (v2 : Int32) (v4 : Int32) {Q : Option Value → WL → Prop} (s1 : (en_setWord F1 A1 (3 : Int32) (1125122049 : Int32)).isSome = true) (h2 : Wk l Z (MoL Z cdC "RebaseLoaderL3" false) md_L_law 74 [.unset, .val (.int v1), .val (.int v2), .val (.ref 1), .val (.int v4), .unset, .unset, .unset] [] (sl, sv, [(10, F1, G1, (R_setWord F1 A1 (3 : Int32) (1125122049 : Int32)).2, B1)]) 11 354 Q) :
    Wk l Z (MoL Z cdC "RebaseLoaderL3" false) md_L_law 66 [.unset, .val (.int v1), .val (.int v2), .val (.ref 1), .val (.int v4), .unset, .unset, .unset] [] (sl, sv, [(10, F1, G1, A1, B1)]) 11 354 Q := by
  refine Wk.aloadN o_L_law_66 rfl ?_
  refine Wk.iconst o_L_law_67 (z := (3 : Int32)) (by decide) ?_
  refine Wk.ldc o_L_law_68 (z := (1125122049 : Int32)) (H.w 80 rfl) ?_
  refine Wk.callLF (coC H) [.int (3 : Int32), .int (1125122049 : Int32)] 0 [] (i' := 1) (H.w 65 rfl) (cv_setWord H) o_L_law_70 (run_setWord H F1 G1 A1 B1 (3 : Int32) (1125122049 : Int32) s1) (wt := 0) (cu' := 11) (su' := 354) (by decide) trivial rfl rfl rfl rfl rfl rfl rfl rfl rfl rfl (ws' := [(10, F1, G1, (R_setWord F1 A1 (3 : Int32) (1125122049 : Int32)).2, B1)]) rfl ?_
  refine Wk.pop o_L_law_73 rfl ?_
  exact h2

set_option maxRecDepth 65536 in
set_option maxHeartbeats 4000000 in
theorem wp_L_law_74 {l : Launch} {Z : State} {a0 : Array Value} (H : OK Z a0) (sl : Int32) (sv : Int32 → Int32) (F1 : Nat → Int32) (G1 : Nat → Int64) (A1 : Nat → Int32 → Int32) (B1 : Nat → Int32 → Int64) (v1 : Int32) (v2 : Int32) (v4 : Int32) {Q : Option Value → WL → Prop} (s1 : (en_setWord F1 A1 (4 : Int32) ((1946157056 : Int32) ||| (v2 &&& (65535 : Int32)))).isSome = true) (h2 : Wk l Z (MoL Z cdC "RebaseLoaderL3" false) md_L_law 87 [.unset, .val (.int v1), .val (.int v2), .val (.ref 1), .val (.int v4), .unset, .unset, .unset] [] (sl, sv, [(10, F1, G1, (R_setWord F1 A1 (4 : Int32) ((1946157056 : Int32) ||| (v2 &&& (65535 : Int32)))).2, B1)]) 11 354 Q) :
    Wk l Z (MoL Z cdC "RebaseLoaderL3" false) md_L_law 74 [.unset, .val (.int v1), .val (.int v2), .val (.ref 1), .val (.int v4), .unset, .unset, .unset] [] (sl, sv, [(10, F1, G1, A1, B1)]) 11 354 Q := by
  refine Wk.aloadN o_L_law_74 rfl ?_
  refine Wk.iconst o_L_law_75 (z := (4 : Int32)) (by decide) ?_
  refine Wk.ldc o_L_law_76 (z := (1946157056 : Int32)) (H.w 81 rfl) ?_
  refine Wk.iloadN o_L_law_78 rfl ?_
  refine Wk.ldc o_L_law_79 (z := (65535 : Int32)) (H.w 82 rfl) ?_
  refine Wk.iand o_L_law_81 ?_
  refine Wk.ior o_L_law_82 ?_
  refine Wk.callLF (coC H) [.int (4 : Int32), .int ((1946157056 : Int32) ||| (v2 &&& (65535 : Int32)))] 0 [] (i' := 1) (H.w 65 rfl) (cv_setWord H) o_L_law_83 (run_setWord H F1 G1 A1 B1 (4 : Int32) ((1946157056 : Int32) ||| (v2 &&& (65535 : Int32))) s1) (wt := 0) (cu' := 11) (su' := 354) (by decide) trivial rfl rfl rfl rfl rfl rfl rfl rfl rfl rfl (ws' := [(10, F1, G1, (R_setWord F1 A1 (4 : Int32) ((1946157056 : Int32) ||| (v2 &&& (65535 : Int32)))).2, B1)]) rfl ?_
  refine Wk.pop o_L_law_86 rfl ?_
  exact h2

set_option maxRecDepth 65536 in
set_option maxHeartbeats 4000000 in
theorem wp_L_law_87 {l : Launch} {Z : State} {a0 : Array Value} (H : OK Z a0) (sl : Int32) (sv : Int32 → Int32) (F1 : Nat → Int32) (G1 : Nat → Int64) (A1 : Nat → Int32 → Int32) (B1 : Nat → Int32 → Int64) (v1 : Int32) (v2 : Int32) (v4 : Int32) {Q : Option Value → WL → Prop} (s1 : (en_setWord F1 A1 (5 : Int32) (1392508928 : Int32)).isSome = true) (h2 : Wk l Z (MoL Z cdC "RebaseLoaderL3" false) md_L_law 95 [.unset, .val (.int v1), .val (.int v2), .val (.ref 1), .val (.int v4), .unset, .unset, .unset] [] (sl, sv, [(10, F1, G1, (R_setWord F1 A1 (5 : Int32) (1392508928 : Int32)).2, B1)]) 11 354 Q) :
    Wk l Z (MoL Z cdC "RebaseLoaderL3" false) md_L_law 87 [.unset, .val (.int v1), .val (.int v2), .val (.ref 1), .val (.int v4), .unset, .unset, .unset] [] (sl, sv, [(10, F1, G1, A1, B1)]) 11 354 Q := by
  refine Wk.aloadN o_L_law_87 rfl ?_
  refine Wk.iconst o_L_law_88 (z := (5 : Int32)) (by decide) ?_
  refine Wk.ldc o_L_law_89 (z := (1392508928 : Int32)) (H.w 83 rfl) ?_
  refine Wk.callLF (coC H) [.int (5 : Int32), .int (1392508928 : Int32)] 0 [] (i' := 1) (H.w 65 rfl) (cv_setWord H) o_L_law_91 (run_setWord H F1 G1 A1 B1 (5 : Int32) (1392508928 : Int32) s1) (wt := 0) (cu' := 11) (su' := 354) (by decide) trivial rfl rfl rfl rfl rfl rfl rfl rfl rfl rfl (ws' := [(10, F1, G1, (R_setWord F1 A1 (5 : Int32) (1392508928 : Int32)).2, B1)]) rfl ?_
  refine Wk.pop o_L_law_94 rfl ?_
  exact h2

set_option maxRecDepth 65536 in
set_option maxHeartbeats 4000000 in
theorem wp_L_law_95 {l : Launch} {Z : State} {a0 : Array Value} (H : OK Z a0) (sl : Int32) (sv : Int32 → Int32) (F1 : Nat → Int32) (G1 : Nat → Int64) (A1 : Nat → Int32 → Int32) (B1 : Nat → Int32 → Int64) (v1 : Int32) (v2 : Int32) (v4 : Int32) {Q : Option Value → WL → Prop} (s1 : (en_setWord F1 A1 (6 : Int32) (-268435456 : Int32)).isSome = true) (h2 : Wk l Z (MoL Z cdC "RebaseLoaderL3" false) md_L_law 104 [.unset, .val (.int v1), .val (.int v2), .val (.ref 1), .val (.int v4), .unset, .unset, .unset] [] (sl, sv, [(10, F1, G1, (R_setWord F1 A1 (6 : Int32) (-268435456 : Int32)).2, B1)]) 11 354 Q) :
    Wk l Z (MoL Z cdC "RebaseLoaderL3" false) md_L_law 95 [.unset, .val (.int v1), .val (.int v2), .val (.ref 1), .val (.int v4), .unset, .unset, .unset] [] (sl, sv, [(10, F1, G1, A1, B1)]) 11 354 Q := by
  refine Wk.aloadN o_L_law_95 rfl ?_
  refine Wk.bipush o_L_law_96 (z := (6 : Int32)) (by decide) ?_
  refine Wk.ldc o_L_law_98 (z := (-268435456 : Int32)) (H.w 84 rfl) ?_
  refine Wk.callLF (coC H) [.int (6 : Int32), .int (-268435456 : Int32)] 0 [] (i' := 1) (H.w 65 rfl) (cv_setWord H) o_L_law_100 (run_setWord H F1 G1 A1 B1 (6 : Int32) (-268435456 : Int32) s1) (wt := 0) (cu' := 11) (su' := 354) (by decide) trivial rfl rfl rfl rfl rfl rfl rfl rfl rfl rfl (ws' := [(10, F1, G1, (R_setWord F1 A1 (6 : Int32) (-268435456 : Int32)).2, B1)]) rfl ?_
  refine Wk.pop o_L_law_103 rfl ?_
  exact h2

set_option maxRecDepth 65536 in
set_option maxHeartbeats 4000000 in
theorem wp_L_law_104 {l : Launch} {Z : State} {a0 : Array Value} (H : OK Z a0) (sl : Int32) (sv : Int32 → Int32) (F1 : Nat → Int32) (G1 : Nat → Int64) (A1 : Nat → Int32 → Int32) (B1 : Nat → Int32 → Int64) (v1 : Int32) (v2 : Int32) (v4 : Int32) {Q : Option Value → WL → Prop} (s1 : (en_setWord F1 A1 (256 : Int32) v1).isSome = true) (h2 : Wk l Z (MoL Z cdC "RebaseLoaderL3" false) md_L_law 113 [.unset, .val (.int v1), .val (.int v2), .val (.ref 1), .val (.int v4), .unset, .unset, .unset] [] (sl, sv, [(10, F1, G1, (R_setWord F1 A1 (256 : Int32) v1).2, B1)]) 11 354 Q) :
    Wk l Z (MoL Z cdC "RebaseLoaderL3" false) md_L_law 104 [.unset, .val (.int v1), .val (.int v2), .val (.ref 1), .val (.int v4), .unset, .unset, .unset] [] (sl, sv, [(10, F1, G1, A1, B1)]) 11 354 Q := by
  refine Wk.aloadN o_L_law_104 rfl ?_
  refine Wk.sipush o_L_law_105 (z := (256 : Int32)) (by decide) ?_
  refine Wk.iloadN o_L_law_108 rfl ?_
  refine Wk.callLF (coC H) [.int (256 : Int32), .int v1] 0 [] (i' := 1) (H.w 65 rfl) (cv_setWord H) o_L_law_109 (run_setWord H F1 G1 A1 B1 (256 : Int32) v1 s1) (wt := 0) (cu' := 11) (su' := 354) (by decide) trivial rfl rfl rfl rfl rfl rfl rfl rfl rfl rfl (ws' := [(10, F1, G1, (R_setWord F1 A1 (256 : Int32) v1).2, B1)]) rfl ?_
  refine Wk.pop o_L_law_112 rfl ?_
  exact h2

set_option maxRecDepth 65536 in
set_option maxHeartbeats 4000000 in
theorem wp_L_law_113 {l : Launch} {Z : State} {a0 : Array Value} (H : OK Z a0) (sl : Int32) (sv : Int32 → Int32) (F1 : Nat → Int32) (G1 : Nat → Int64) (A1 : Nat → Int32 → Int32) (B1 : Nat → Int32 → Int64) (v1 : Int32) (v2 : Int32) (v4 : Int32) {Q : Option Value → WL → Prop} (s1 : (en_setWord F1 A1 (257 : Int32) (7 : Int32)).isSome = true) (h2 : Wk l Z (MoL Z cdC "RebaseLoaderL3" false) md_L_law 123 [.unset, .val (.int v1), .val (.int v2), .val (.ref 1), .val (.int v4), .unset, .unset, .unset] [] (sl, sv, [(10, F1, G1, (R_setWord F1 A1 (257 : Int32) (7 : Int32)).2, B1)]) 11 354 Q) :
    Wk l Z (MoL Z cdC "RebaseLoaderL3" false) md_L_law 113 [.unset, .val (.int v1), .val (.int v2), .val (.ref 1), .val (.int v4), .unset, .unset, .unset] [] (sl, sv, [(10, F1, G1, A1, B1)]) 11 354 Q := by
  refine Wk.aloadN o_L_law_113 rfl ?_
  refine Wk.sipush o_L_law_114 (z := (257 : Int32)) (by decide) ?_
  refine Wk.bipush o_L_law_117 (z := (7 : Int32)) (by decide) ?_
  refine Wk.callLF (coC H) [.int (257 : Int32), .int (7 : Int32)] 0 [] (i' := 1) (H.w 65 rfl) (cv_setWord H) o_L_law_119 (run_setWord H F1 G1 A1 B1 (257 : Int32) (7 : Int32) s1) (wt := 0) (cu' := 11) (su' := 354) (by decide) trivial rfl rfl rfl rfl rfl rfl rfl rfl rfl rfl (ws' := [(10, F1, G1, (R_setWord F1 A1 (257 : Int32) (7 : Int32)).2, B1)]) rfl ?_
  refine Wk.pop o_L_law_122 rfl ?_
  exact h2

set_option maxRecDepth 65536 in
set_option maxHeartbeats 4000000 in
theorem wp_L_law_123 {l : Launch} {Z : State} {a0 : Array Value} (H : OK Z a0) (sl : Int32) (sv : Int32 → Int32) (F1 : Nat → Int32) (G1 : Nat → Int64) (A1 : Nat → Int32 → Int32) (B1 : Nat → Int32 → Int64) (v1 : Int32) (v2 : Int32) (v4 : Int32) {Q : Option Value → WL → Prop} (s1 : (en_addReloc F1 A1 (4 : Int32) (0 : Int32) (1 : Int32) (1 : Int32)).isSome = true) (h3 : (R_addReloc F1 A1 (4 : Int32) (0 : Int32) (1 : Int32) (1 : Int32)).1 = 0 → Wk l Z (MoL Z cdC "RebaseLoaderL3" false) md_L_law 136 [.unset, .val (.int v1), .val (.int v2), .val (.ref 1), .val (.int v4), .unset, .unset, .unset] [] (sl, sv, [(10, (R_addReloc F1 A1 (4 : Int32) (0 : Int32) (1 : Int32) (1 : Int32)).2.1, G1, (R_addReloc F1 A1 (4 : Int32) (0 : Int32) (1 : Int32) (1 : Int32)).2.2, B1)]) 11 354 Q) (h4 : ¬ (R_addReloc F1 A1 (4 : Int32) (0 : Int32) (1 : Int32) (1 : Int32)).1 = 0 → Q (some (.int (0 : Int32))) (sl, sv, [(10, (R_addReloc F1 A1 (4 : Int32) (0 : Int32) (1 : Int32) (1 : Int32)).2.1, G1, (R_addReloc F1 A1 (4 : Int32) (0 : Int32) (1 : Int32) (1 : Int32)).2.2, B1)])) :
    Wk l Z (MoL Z cdC "RebaseLoaderL3" false) md_L_law 123 [.unset, .val (.int v1), .val (.int v2), .val (.ref 1), .val (.int v4), .unset, .unset, .unset] [] (sl, sv, [(10, F1, G1, A1, B1)]) 11 354 Q := by
  refine Wk.aloadN o_L_law_123 rfl ?_
  refine Wk.iconst o_L_law_124 (z := (4 : Int32)) (by decide) ?_
  refine Wk.iconst o_L_law_125 (z := (0 : Int32)) (by decide) ?_
  refine Wk.iconst o_L_law_126 (z := (1 : Int32)) (by decide) ?_
  refine Wk.iconst o_L_law_127 (z := (1 : Int32)) (by decide) ?_
  refine Wk.callLF (coC H) [.int (4 : Int32), .int (0 : Int32), .int (1 : Int32), .int (1 : Int32)] 0 [] (i' := 1) (H.w 85 rfl) (cv_addReloc H) o_L_law_128 (run_addReloc H F1 G1 A1 B1 (4 : Int32) (0 : Int32) (1 : Int32) (1 : Int32) s1) (wt := 0) (cu' := 11) (su' := 354) (by decide) trivial rfl rfl rfl rfl rfl (al_addReloc _ _ _ _) rfl rfl rfl rfl (ws' := [(10, (R_addReloc F1 A1 (4 : Int32) (0 : Int32) (1 : Int32) (1 : Int32)).2.1, G1, (R_addReloc F1 A1 (4 : Int32) (0 : Int32) (1 : Int32) (1 : Int32)).2.2, B1)]) rfl ?_
  refine Wk.if_eq o_L_law_131 (fun q2 => ?_) (fun q2 => ?_)
  · exact (h3 q2)
  · refine Wk.iconst o_L_law_134 (z := (0 : Int32)) (by decide) ?_
    exact Wk.zreturn mrL rfl o_L_law_135 rfl (by decide) (by decide) (y := (0 : Int32)) (by decide) (h4 q2)

set_option maxRecDepth 65536 in
set_option maxHeartbeats 4000000 in
theorem wp_L_law_136 {l : Launch} {Z : State} {a0 : Array Value} (H : OK Z a0) (sl : Int32) (sv : Int32 → Int32) (F1 : Nat → Int32) (G1 : Nat → Int64) (A1 : Nat → Int32 → Int32) (B1 : Nat → Int32 → Int64) (v1 : Int32) (v2 : Int32) (v4 : Int32) {Q : Option Value → WL → Prop} (s1 : (en_addReloc F1 A1 (1 : Int32) (257 : Int32) (0 : Int32) (0 : Int32)).isSome = true) (h3 : (R_addReloc F1 A1 (1 : Int32) (257 : Int32) (0 : Int32) (0 : Int32)).1 = (1 : Int32) → Wk l Z (MoL Z cdC "RebaseLoaderL3" false) md_L_law 152 [.unset, .val (.int v1), .val (.int v2), .val (.ref 1), .val (.int v4), .unset, .unset, .unset] [] (sl, sv, [(10, (R_addReloc F1 A1 (1 : Int32) (257 : Int32) (0 : Int32) (0 : Int32)).2.1, G1, (R_addReloc F1 A1 (1 : Int32) (257 : Int32) (0 : Int32) (0 : Int32)).2.2, B1)]) 11 354 Q) (h4 : ¬ (R_addReloc F1 A1 (1 : Int32) (257 : Int32) (0 : Int32) (0 : Int32)).1 = (1 : Int32) → Q (some (.int (0 : Int32))) (sl, sv, [(10, (R_addReloc F1 A1 (1 : Int32) (257 : Int32) (0 : Int32) (0 : Int32)).2.1, G1, (R_addReloc F1 A1 (1 : Int32) (257 : Int32) (0 : Int32) (0 : Int32)).2.2, B1)])) :
    Wk l Z (MoL Z cdC "RebaseLoaderL3" false) md_L_law 136 [.unset, .val (.int v1), .val (.int v2), .val (.ref 1), .val (.int v4), .unset, .unset, .unset] [] (sl, sv, [(10, F1, G1, A1, B1)]) 11 354 Q := by
  refine Wk.aloadN o_L_law_136 rfl ?_
  refine Wk.iconst o_L_law_137 (z := (1 : Int32)) (by decide) ?_
  refine Wk.sipush o_L_law_138 (z := (257 : Int32)) (by decide) ?_
  refine Wk.iconst o_L_law_141 (z := (0 : Int32)) (by decide) ?_
  refine Wk.iconst o_L_law_142 (z := (0 : Int32)) (by decide) ?_
  refine Wk.callLF (coC H) [.int (1 : Int32), .int (257 : Int32), .int (0 : Int32), .int (0 : Int32)] 0 [] (i' := 1) (H.w 85 rfl) (cv_addReloc H) o_L_law_143 (run_addReloc H F1 G1 A1 B1 (1 : Int32) (257 : Int32) (0 : Int32) (0 : Int32) s1) (wt := 0) (cu' := 11) (su' := 354) (by decide) trivial rfl rfl rfl rfl rfl (al_addReloc _ _ _ _) rfl rfl rfl rfl (ws' := [(10, (R_addReloc F1 A1 (1 : Int32) (257 : Int32) (0 : Int32) (0 : Int32)).2.1, G1, (R_addReloc F1 A1 (1 : Int32) (257 : Int32) (0 : Int32) (0 : Int32)).2.2, B1)]) rfl ?_
  refine Wk.iconst o_L_law_146 (z := (1 : Int32)) (by decide) ?_
  refine Wk.icmp_eq o_L_law_147 (fun q2 => ?_) (fun q2 => ?_)
  · exact (h3 q2)
  · refine Wk.iconst o_L_law_150 (z := (0 : Int32)) (by decide) ?_
    exact Wk.zreturn mrL rfl o_L_law_151 rfl (by decide) (by decide) (y := (0 : Int32)) (by decide) (h4 q2)

set_option maxRecDepth 65536 in
set_option maxHeartbeats 4000000 in
theorem wp_L_law_152 {l : Launch} {Z : State} {a0 : Array Value} (H : OK Z a0) (sl : Int32) (sv : Int32 → Int32) (F1 : Nat → Int32) (G1 : Nat → Int64) (A1 : Nat → Int32 → Int32) (B1 : Nat → Int32 → Int64) (v1 : Int32) (v2 : Int32) (v4 : Int32) {Q : Option Value → WL → Prop} (s1 : (en_load F1 A1 v4).isSome = true) (h3 : (R_load F1 A1 v4).1 = 0 → Wk l Z (MoL Z cdC "RebaseLoaderL3" false) md_L_law 163 [.unset, .val (.int v1), .val (.int v2), .val (.ref 1), .val (.int v4), .unset, .unset, .unset] [] (sl, sv, [(10, (R_load F1 A1 v4).2.1, G1, (R_load F1 A1 v4).2.2, B1)]) 11 354 Q) (h4 : ¬ (R_load F1 A1 v4).1 = 0 → Q (some (.int (0 : Int32))) (sl, sv, [(10, (R_load F1 A1 v4).2.1, G1, (R_load F1 A1 v4).2.2, B1)])) :
    Wk l Z (MoL Z cdC "RebaseLoaderL3" false) md_L_law 152 [.unset, .val (.int v1), .val (.int v2), .val (.ref 1), .val (.int v4), .unset, .unset, .unset] [] (sl, sv, [(10, F1, G1, A1, B1)]) 11 354 Q := by
  refine Wk.aloadN o_L_law_152 rfl ?_
  refine Wk.iload o_L_law_153 rfl ?_
  refine Wk.callLF (coC H) [.int v4] 0 [] (i' := 1) (H.w 98 rfl) (cv_load H) o_L_law_155 (run_load H F1 G1 A1 B1 v4 s1) (wt := 0) (cu' := 11) (su' := 354) (by decide) trivial rfl rfl rfl rfl rfl rfl rfl rfl rfl rfl (ws' := [(10, (R_load F1 A1 v4).2.1, G1, (R_load F1 A1 v4).2.2, B1)]) rfl ?_
  refine Wk.if_eq o_L_law_158 (fun q2 => ?_) (fun q2 => ?_)
  · exact (h3 q2)
  · refine Wk.iconst o_L_law_161 (z := (0 : Int32)) (by decide) ?_
    exact Wk.zreturn mrL rfl o_L_law_162 rfl (by decide) (by decide) (y := (0 : Int32)) (by decide) (h4 q2)

set_option maxRecDepth 65536 in
set_option maxHeartbeats 4000000 in
theorem wp_L_law_163 {l : Launch} {Z : State} {a0 : Array Value} (H : OK Z a0) (sl : Int32) (sv : Int32 → Int32) (F1 : Nat → Int32) (G1 : Nat → Int64) (A1 : Nat → Int32 → Int32) (B1 : Nat → Int32 → Int64) (v1 : Int32) (v2 : Int32) (v4 : Int32) {Q : Option Value → WL → Prop} (s1 : (en_start F1 A1 (0 : Int32)).isSome = true) (h3 : (R_start F1 A1 (0 : Int32)).1 = 0 → Wk l Z (MoL Z cdC "RebaseLoaderL3" false) md_L_law 173 [.unset, .val (.int v1), .val (.int v2), .val (.ref 1), .val (.int v4), .unset, .unset, .unset] [] (sl, sv, [(10, (R_start F1 A1 (0 : Int32)).2.1, G1, (R_start F1 A1 (0 : Int32)).2.2, B1)]) 11 354 Q) (h4 : ¬ (R_start F1 A1 (0 : Int32)).1 = 0 → Q (some (.int (0 : Int32))) (sl, sv, [(10, (R_start F1 A1 (0 : Int32)).2.1, G1, (R_start F1 A1 (0 : Int32)).2.2, B1)])) :
    Wk l Z (MoL Z cdC "RebaseLoaderL3" false) md_L_law 163 [.unset, .val (.int v1), .val (.int v2), .val (.ref 1), .val (.int v4), .unset, .unset, .unset] [] (sl, sv, [(10, F1, G1, A1, B1)]) 11 354 Q := by
  refine Wk.aloadN o_L_law_163 rfl ?_
  refine Wk.iconst o_L_law_164 (z := (0 : Int32)) (by decide) ?_
  refine Wk.callLF (coC H) [.int (0 : Int32)] 0 [] (i' := 1) (H.w 142 rfl) (cv_start H) o_L_law_165 (run_start H F1 G1 A1 B1 (0 : Int32) s1) (wt := 0) (cu' := 11) (su' := 354) (by decide) trivial rfl rfl rfl rfl rfl rfl rfl rfl rfl rfl (ws' := [(10, (R_start F1 A1 (0 : Int32)).2.1, G1, (R_start F1 A1 (0 : Int32)).2.2, B1)]) rfl ?_
  refine Wk.if_eq o_L_law_168 (fun q2 => ?_) (fun q2 => ?_)
  · exact (h3 q2)
  · refine Wk.iconst o_L_law_171 (z := (0 : Int32)) (by decide) ?_
    exact Wk.zreturn mrL rfl o_L_law_172 rfl (by decide) (by decide) (y := (0 : Int32)) (by decide) (h4 q2)

set_option maxRecDepth 65536 in
set_option maxHeartbeats 4000000 in
theorem wp_L_law_173 {l : Launch} {Z : State} {a0 : Array Value} (H : OK Z a0) (sl : Int32) (sv : Int32 → Int32) (F1 : Nat → Int32) (G1 : Nat → Int64) (A1 : Nat → Int32 → Int32) (B1 : Nat → Int32 → Int64) (v1 : Int32) (v2 : Int32) (v4 : Int32) {Q : Option Value → WL → Prop} (s1 : (en_run F1 A1 (20 : Int32)).isSome = true) (h3 : (R_run F1 A1 (20 : Int32)).1 = (3 : Int32) → Wk l Z (MoL Z cdC "RebaseLoaderL3" false) md_L_law 185 [.unset, .val (.int v1), .val (.int v2), .val (.ref 1), .val (.int v4), .unset, .unset, .unset] [] (sl, sv, [(10, (R_run F1 A1 (20 : Int32)).2.1, G1, (R_run F1 A1 (20 : Int32)).2.2, B1)]) 11 354 Q) (h4 : ¬ (R_run F1 A1 (20 : Int32)).1 = (3 : Int32) → Q (some (.int (0 : Int32))) (sl, sv, [(10, (R_run F1 A1 (20 : Int32)).2.1, G1, (R_run F1 A1 (20 : Int32)).2.2, B1)])) :
    Wk l Z (MoL Z cdC "RebaseLoaderL3" false) md_L_law 173 [.unset, .val (.int v1), .val (.int v2), .val (.ref 1), .val (.int v4), .unset, .unset, .unset] [] (sl, sv, [(10, F1, G1, A1, B1)]) 11 354 Q := by
  refine Wk.aloadN o_L_law_173 rfl ?_
  refine Wk.bipush o_L_law_174 (z := (20 : Int32)) (by decide) ?_
  refine Wk.callLF (coC H) [.int (20 : Int32)] 0 [] (i' := 1) (H.w 147 rfl) (cv_run H) o_L_law_176 (run_run H F1 G1 A1 B1 (20 : Int32) s1) (wt := 0) (cu' := 11) (su' := 354) (by decide) trivial rfl rfl rfl rfl rfl rfl rfl rfl rfl rfl (ws' := [(10, (R_run F1 A1 (20 : Int32)).2.1, G1, (R_run F1 A1 (20 : Int32)).2.2, B1)]) rfl ?_
  refine Wk.iconst o_L_law_179 (z := (3 : Int32)) (by decide) ?_
  refine Wk.icmp_eq o_L_law_180 (fun q2 => ?_) (fun q2 => ?_)
  · exact (h3 q2)
  · refine Wk.iconst o_L_law_183 (z := (0 : Int32)) (by decide) ?_
    exact Wk.zreturn mrL rfl o_L_law_184 rfl (by decide) (by decide) (y := (0 : Int32)) (by decide) (h4 q2)

set_option maxRecDepth 65536 in
set_option maxHeartbeats 4000000 in
theorem wp_L_law_185 {l : Launch} {Z : State} {a0 : Array Value} (H : OK Z a0) (sl : Int32) (sv : Int32 → Int32) (F1 : Nat → Int32) (G1 : Nat → Int64) (A1 : Nat → Int32 → Int32) (B1 : Nat → Int32 → Int64) (v1 : Int32) (v2 : Int32) (v4 : Int32) {Q : Option Value → WL → Prop} (s6 : (f_status F1) = (3 : Int32) → (f_base F1) = v4 → (f_pc F1) = (v4 + (7 : Int32)) → (en_reg A1 (0 : Int32)).isSome = true) (s8 : (f_status F1) = (3 : Int32) → (f_base F1) = v4 → (f_pc F1) = (v4 + (7 : Int32)) → (R_reg A1 (0 : Int32)) = 0 → (en_reg A1 (1 : Int32)).isSome = true) (s10 : (f_status F1) = (3 : Int32) → (f_base F1) = v4 → (f_pc F1) = (v4 + (7 : Int32)) → (R_reg A1 (0 : Int32)) = 0 → (R_reg A1 (1 : Int32)) = (v4 + (16 : Int32)) → (en_reg A1 (2 : Int32)).isSome = true) (s12 : (f_status F1) = (3 : Int32) → (f_base F1) = v4 → (f_pc F1) = (v4 + (7 : Int32)) → (R_reg A1 (0 : Int32)) = 0 → (R_reg A1 (1 : Int32)) = (v4 + (16 : Int32)) → (R_reg A1 (2 : Int32)) = v1 → (en_reg A1 (3 : Int32)).isSome = true) (s14 : (f_status F1) = (3 : Int32) → (f_base F1) = v4 → (f_pc F1) = (v4 + (7 : Int32)) → (R_reg A1 (0 : Int32)) = 0 → (R_reg A1 (1 : Int32)) = (v4 + (16 : Int32)) → (R_reg A1 (2 : Int32)) = v1 → (R_reg A1 (3 : Int32)) = (v4 + (7 : Int32)) → (en_reg A1 (4 : Int32)).isSome = true) (s16 : (f_status F1) = (3 : Int32) → (f_base F1) = v4 → (f_pc F1) = (v4 + (7 : Int32)) → (R_reg A1 (0 : Int32)) = 0 → (R_reg A1 (1 : Int32)) = (v4 + (16 : Int32)) → (R_reg A1 (2 : Int32)) = v1 → (R_reg A1 (3 : Int32)) = (v4 + (7 : Int32)) → (R_reg A1 (4 : Int32)) = ((v4 + (4 : Int32)) + (if (v2 &&& (65535 : Int32)) < (32768 : Int32) then (v2 &&& (65535 : Int32)) else ((v2 &&& (65535 : Int32)) - (65536 : Int32)))) → (en_reg A1 (5 : Int32)).isSome = true) (s18 : (f_status F1) = (3 : Int32) → (f_base F1) = v4 → (f_pc F1) = (v4 + (7 : Int32)) → (R_reg A1 (0 : Int32)) = 0 → (R_reg A1 (1 : Int32)) = (v4 + (16 : Int32)) → (R_reg A1 (2 : Int32)) = v1 → (R_reg A1 (3 : Int32)) = (v4 + (7 : Int32)) → (R_reg A1 (4 : Int32)) = ((v4 + (4 : Int32)) + (if (v2 &&& (65535 : Int32)) < (32768 : Int32) then (v2 &&& (65535 : Int32)) else ((v2 &&& (65535 : Int32)) - (65536 : Int32)))) → (R_reg A1 (5 : Int32)) = 0 → (en_reg A1 (6 : Int32)).isSome = true) (s20 : (f_status F1) = (3 : Int32) → (f_base F1) = v4 → (f_pc F1) = (v4 + (7 : Int32)) → (R_reg A1 (0 : Int32)) = 0 → (R_reg A1 (1 : Int32)) = (v4 + (16 : Int32)) → (R_reg A1 (2 : Int32)) = v1 → (R_reg A1 (3 : Int32)) = (v4 + (7 : Int32)) → (R_reg A1 (4 : Int32)) = ((v4 + (4 : Int32)) + (if (v2 &&& (65535 : Int32)) < (32768 : Int32) then (v2 &&& (65535 : Int32)) else ((v2 &&& (65535 : Int32)) - (65536 : Int32)))) → (R_reg A1 (5 : Int32)) = 0 → (R_reg A1 (6 : Int32)) = 0 → (en_reg A1 (7 : Int32)).isSome = true) (h25 : (f_status F1) = (3 : Int32) → (f_base F1) = v4 → (f_pc F1) = (v4 + (7 : Int32)) → (R_reg A1 (0 : Int32)) = 0 → (R_reg A1 (1 : Int32)) = (v4 + (16 : Int32)) → (R_reg A1 (2 : Int32)) = v1 → (R_reg A1 (3 : Int32)) = (v4 + (7 : Int32)) → (R_reg A1 (4 : Int32)) = ((v4 + (4 : Int32)) + (if (v2 &&& (65535 : Int32)) < (32768 : Int32) then (v2 &&& (65535 : Int32)) else ((v2 &&& (65535 : Int32)) - (65536 : Int32)))) → (R_reg A1 (5 : Int32)) = 0 → (R_reg A1 (6 : Int32)) = 0 → (R_reg A1 (7 : Int32)) = 0 → (f_peek F1 A1 (0 : Int32)) = ((285212672 : Int32) ||| ((XT.ushr ((v4 + (16 : Int32)) + (32768 : Int32)) (16 : Int32)) &&& (65535 : Int32))) → (f_peek F1 A1 (1 : Int32)) = ((554696704 : Int32) ||| ((v4 + (16 : Int32)) &&& (65535 : Int32))) → (f_peek F1 A1 (17 : Int32)) = (v4 + (7 : Int32)) → Q (some (.int (1 : Int32))) (sl, sv, [(10, F1, G1, A1, B1)])) (h26 : (f_status F1) = (3 : Int32) → (f_base F1) = v4 → (f_pc F1) = (v4 + (7 : Int32)) → (R_reg A1 (0 : Int32)) = 0 → (R_reg A1 (1 : Int32)) = (v4 + (16 : Int32)) → (R_reg A1 (2 : Int32)) = v1 → (R_reg A1 (3 : Int32)) = (v4 + (7 : Int32)) → (R_reg A1 (4 : Int32)) = ((v4 + (4 : Int32)) + (if (v2 &&& (65535 : Int32)) < (32768 : Int32) then (v2 &&& (65535 : Int32)) else ((v2 &&& (65535 : Int32)) - (65536 : Int32)))) → (R_reg A1 (5 : Int32)) = 0 → (R_reg A1 (6 : Int32)) = 0 → (R_reg A1 (7 : Int32)) = 0 → (f_peek F1 A1 (0 : Int32)) = ((285212672 : Int32) ||| ((XT.ushr ((v4 + (16 : Int32)) + (32768 : Int32)) (16 : Int32)) &&& (65535 : Int32))) → (f_peek F1 A1 (1 : Int32)) = ((554696704 : Int32) ||| ((v4 + (16 : Int32)) &&& (65535 : Int32))) → ¬ (f_peek F1 A1 (17 : Int32)) = (v4 + (7 : Int32)) → Q (some (.int (0 : Int32))) (sl, sv, [(10, F1, G1, A1, B1)])) (h27 : (f_status F1) = (3 : Int32) → (f_base F1) = v4 → (f_pc F1) = (v4 + (7 : Int32)) → (R_reg A1 (0 : Int32)) = 0 → (R_reg A1 (1 : Int32)) = (v4 + (16 : Int32)) → (R_reg A1 (2 : Int32)) = v1 → (R_reg A1 (3 : Int32)) = (v4 + (7 : Int32)) → (R_reg A1 (4 : Int32)) = ((v4 + (4 : Int32)) + (if (v2 &&& (65535 : Int32)) < (32768 : Int32) then (v2 &&& (65535 : Int32)) else ((v2 &&& (65535 : Int32)) - (65536 : Int32)))) → (R_reg A1 (5 : Int32)) = 0 → (R_reg A1 (6 : Int32)) = 0 → (R_reg A1 (7 : Int32)) = 0 → (f_peek F1 A1 (0 : Int32)) = ((285212672 : Int32) ||| ((XT.ushr ((v4 + (16 : Int32)) + (32768 : Int32)) (16 : Int32)) &&& (65535 : Int32))) → ¬ (f_peek F1 A1 (1 : Int32)) = ((554696704 : Int32) ||| ((v4 + (16 : Int32)) &&& (65535 : Int32))) → Q (some (.int (0 : Int32))) (sl, sv, [(10, F1, G1, A1, B1)])) (h28 : (f_status F1) = (3 : Int32) → (f_base F1) = v4 → (f_pc F1) = (v4 + (7 : Int32)) → (R_reg A1 (0 : Int32)) = 0 → (R_reg A1 (1 : Int32)) = (v4 + (16 : Int32)) → (R_reg A1 (2 : Int32)) = v1 → (R_reg A1 (3 : Int32)) = (v4 + (7 : Int32)) → (R_reg A1 (4 : Int32)) = ((v4 + (4 : Int32)) + (if (v2 &&& (65535 : Int32)) < (32768 : Int32) then (v2 &&& (65535 : Int32)) else ((v2 &&& (65535 : Int32)) - (65536 : Int32)))) → (R_reg A1 (5 : Int32)) = 0 → (R_reg A1 (6 : Int32)) = 0 → (R_reg A1 (7 : Int32)) = 0 → ¬ (f_peek F1 A1 (0 : Int32)) = ((285212672 : Int32) ||| ((XT.ushr ((v4 + (16 : Int32)) + (32768 : Int32)) (16 : Int32)) &&& (65535 : Int32))) → Q (some (.int (0 : Int32))) (sl, sv, [(10, F1, G1, A1, B1)])) (h29 : (f_status F1) = (3 : Int32) → (f_base F1) = v4 → (f_pc F1) = (v4 + (7 : Int32)) → (R_reg A1 (0 : Int32)) = 0 → (R_reg A1 (1 : Int32)) = (v4 + (16 : Int32)) → (R_reg A1 (2 : Int32)) = v1 → (R_reg A1 (3 : Int32)) = (v4 + (7 : Int32)) → (R_reg A1 (4 : Int32)) = ((v4 + (4 : Int32)) + (if (v2 &&& (65535 : Int32)) < (32768 : Int32) then (v2 &&& (65535 : Int32)) else ((v2 &&& (65535 : Int32)) - (65536 : Int32)))) → (R_reg A1 (5 : Int32)) = 0 → (R_reg A1 (6 : Int32)) = 0 → ¬ (R_reg A1 (7 : Int32)) = 0 → Q (some (.int (0 : Int32))) (sl, sv, [(10, F1, G1, A1, B1)])) (h30 : (f_status F1) = (3 : Int32) → (f_base F1) = v4 → (f_pc F1) = (v4 + (7 : Int32)) → (R_reg A1 (0 : Int32)) = 0 → (R_reg A1 (1 : Int32)) = (v4 + (16 : Int32)) → (R_reg A1 (2 : Int32)) = v1 → (R_reg A1 (3 : Int32)) = (v4 + (7 : Int32)) → (R_reg A1 (4 : Int32)) = ((v4 + (4 : Int32)) + (if (v2 &&& (65535 : Int32)) < (32768 : Int32) then (v2 &&& (65535 : Int32)) else ((v2 &&& (65535 : Int32)) - (65536 : Int32)))) → (R_reg A1 (5 : Int32)) = 0 → ¬ (R_reg A1 (6 : Int32)) = 0 → Q (some (.int (0 : Int32))) (sl, sv, [(10, F1, G1, A1, B1)])) (h31 : (f_status F1) = (3 : Int32) → (f_base F1) = v4 → (f_pc F1) = (v4 + (7 : Int32)) → (R_reg A1 (0 : Int32)) = 0 → (R_reg A1 (1 : Int32)) = (v4 + (16 : Int32)) → (R_reg A1 (2 : Int32)) = v1 → (R_reg A1 (3 : Int32)) = (v4 + (7 : Int32)) → (R_reg A1 (4 : Int32)) = ((v4 + (4 : Int32)) + (if (v2 &&& (65535 : Int32)) < (32768 : Int32) then (v2 &&& (65535 : Int32)) else ((v2 &&& (65535 : Int32)) - (65536 : Int32)))) → ¬ (R_reg A1 (5 : Int32)) = 0 → Q (some (.int (0 : Int32))) (sl, sv, [(10, F1, G1, A1, B1)])) (h32 : (f_status F1) = (3 : Int32) → (f_base F1) = v4 → (f_pc F1) = (v4 + (7 : Int32)) → (R_reg A1 (0 : Int32)) = 0 → (R_reg A1 (1 : Int32)) = (v4 + (16 : Int32)) → (R_reg A1 (2 : Int32)) = v1 → (R_reg A1 (3 : Int32)) = (v4 + (7 : Int32)) → ¬ (R_reg A1 (4 : Int32)) = ((v4 + (4 : Int32)) + (if (v2 &&& (65535 : Int32)) < (32768 : Int32) then (v2 &&& (65535 : Int32)) else ((v2 &&& (65535 : Int32)) - (65536 : Int32)))) → Q (some (.int (0 : Int32))) (sl, sv, [(10, F1, G1, A1, B1)])) (h33 : (f_status F1) = (3 : Int32) → (f_base F1) = v4 → (f_pc F1) = (v4 + (7 : Int32)) → (R_reg A1 (0 : Int32)) = 0 → (R_reg A1 (1 : Int32)) = (v4 + (16 : Int32)) → (R_reg A1 (2 : Int32)) = v1 → ¬ (R_reg A1 (3 : Int32)) = (v4 + (7 : Int32)) → Q (some (.int (0 : Int32))) (sl, sv, [(10, F1, G1, A1, B1)])) (h34 : (f_status F1) = (3 : Int32) → (f_base F1) = v4 → (f_pc F1) = (v4 + (7 : Int32)) → (R_reg A1 (0 : Int32)) = 0 → (R_reg A1 (1 : Int32)) = (v4 + (16 : Int32)) → ¬ (R_reg A1 (2 : Int32)) = v1 → Q (some (.int (0 : Int32))) (sl, sv, [(10, F1, G1, A1, B1)])) (h35 : (f_status F1) = (3 : Int32) → (f_base F1) = v4 → (f_pc F1) = (v4 + (7 : Int32)) → (R_reg A1 (0 : Int32)) = 0 → ¬ (R_reg A1 (1 : Int32)) = (v4 + (16 : Int32)) → Q (some (.int (0 : Int32))) (sl, sv, [(10, F1, G1, A1, B1)])) (h36 : (f_status F1) = (3 : Int32) → (f_base F1) = v4 → (f_pc F1) = (v4 + (7 : Int32)) → ¬ (R_reg A1 (0 : Int32)) = 0 → Q (some (.int (0 : Int32))) (sl, sv, [(10, F1, G1, A1, B1)])) (h37 : (f_status F1) = (3 : Int32) → (f_base F1) = v4 → ¬ (f_pc F1) = (v4 + (7 : Int32)) → Q (some (.int (0 : Int32))) (sl, sv, [(10, F1, G1, A1, B1)])) (h38 : (f_status F1) = (3 : Int32) → ¬ (f_base F1) = v4 → Q (some (.int (0 : Int32))) (sl, sv, [(10, F1, G1, A1, B1)])) (h39 : ¬ (f_status F1) = (3 : Int32) → Q (some (.int (0 : Int32))) (sl, sv, [(10, F1, G1, A1, B1)])) :
    Wk l Z (MoL Z cdC "RebaseLoaderL3" false) md_L_law 185 [.unset, .val (.int v1), .val (.int v2), .val (.ref 1), .val (.int v4), .unset, .unset, .unset] [] (sl, sv, [(10, F1, G1, A1, B1)]) 11 354 Q := by
  refine Wk.iload o_L_law_185 rfl ?_
  refine Wk.bipush o_L_law_187 (z := (16 : Int32)) (by decide) ?_
  refine Wk.iadd o_L_law_189 ?_
  refine Wk.istore o_L_law_190 (Or.inl rfl) (L' := [.unset, .val (.int v1), .val (.int v2), .val (.ref 1), .val (.int v4), .val (.int (v4 + (16 : Int32))), .unset, .unset]) rfl ?_
  refine Wk.iloadN o_L_law_192 rfl ?_
  refine Wk.ldc o_L_law_193 (z := (65535 : Int32)) (H.w 82 rfl) ?_
  refine Wk.iand o_L_law_195 ?_
  refine Wk.istore o_L_law_196 (Or.inl rfl) (L' := [.unset, .val (.int v1), .val (.int v2), .val (.ref 1), .val (.int v4), .val (.int (v4 + (16 : Int32))), .val (.int (v2 &&& (65535 : Int32))), .unset]) rfl ?_
  refine Wk.iload o_L_law_198 rfl ?_
  refine Wk.ldc o_L_law_200 (z := (32768 : Int32)) (H.w 164 rfl) ?_
  have J2 : Wk l Z (MoL Z cdC "RebaseLoaderL3" false) md_L_law 215 [.unset, .val (.int v1), .val (.int v2), .val (.ref 1), .val (.int v4), .val (.int (v4 + (16 : Int32))), .val (.int (v2 &&& (65535 : Int32))), .unset] [.int (if (v2 &&& (65535 : Int32)) < (32768 : Int32) then (v2 &&& (65535 : Int32)) else ((v2 &&& (65535 : Int32)) - (65536 : Int32)))] (sl, sv, [(10, F1, G1, A1, B1)]) 11 354 Q := by
    refine Wk.istore o_L_law_215 (Or.inl rfl) (L' := [.unset, .val (.int v1), .val (.int v2), .val (.ref 1), .val (.int v4), .val (.int (v4 + (16 : Int32))), .val (.int (v2 &&& (65535 : Int32))), .val (.int (if (v2 &&& (65535 : Int32)) < (32768 : Int32) then (v2 &&& (65535 : Int32)) else ((v2 &&& (65535 : Int32)) - (65536 : Int32))))]) rfl ?_
    refine Wk.aloadN o_L_law_217 rfl ?_
    refine Wk.callLF (coC H) [] 0 [] (i' := 1) (H.w 165 rfl) (cv_status H) o_L_law_218 (run_status H F1 G1 A1 B1) (wt := 0) (cu' := 11) (su' := 354) (by decide) trivial rfl rfl rfl rfl rfl rfl rfl rfl rfl rfl (ws' := [(10, F1, G1, A1, B1)]) rfl ?_
    refine Wk.iconst o_L_law_221 (z := (3 : Int32)) (by decide) ?_
    refine Wk.icmp_eq o_L_law_222 (fun q3 => ?_) (fun q3 => ?_)
    · refine Wk.aloadN o_L_law_227 rfl ?_
      refine Wk.callLF (coC H) [] 0 [] (i' := 1) (H.w 170 rfl) (cv_base H) o_L_law_228 (run_base H F1 G1 A1 B1) (wt := 0) (cu' := 11) (su' := 354) (by decide) trivial rfl rfl rfl rfl rfl rfl rfl rfl rfl rfl (ws' := [(10, F1, G1, A1, B1)]) rfl ?_
      refine Wk.iload o_L_law_231 rfl ?_
      refine Wk.icmp_eq o_L_law_233 (fun q4 => ?_) (fun q4 => ?_)
      · refine Wk.aloadN o_L_law_238 rfl ?_
        refine Wk.callLF (coC H) [] 0 [] (i' := 1) (H.w 175 rfl) (cv_pc H) o_L_law_239 (run_pc H F1 G1 A1 B1) (wt := 0) (cu' := 11) (su' := 354) (by decide) trivial rfl rfl rfl rfl rfl rfl rfl rfl rfl rfl (ws' := [(10, F1, G1, A1, B1)]) rfl ?_
        refine Wk.iload o_L_law_242 rfl ?_
        refine Wk.bipush o_L_law_244 (z := (7 : Int32)) (by decide) ?_
        refine Wk.iadd o_L_law_246 ?_
        refine Wk.icmp_eq o_L_law_247 (fun q5 => ?_) (fun q5 => ?_)
        · refine Wk.aloadN o_L_law_252 rfl ?_
          refine Wk.iconst o_L_law_253 (z := (0 : Int32)) (by decide) ?_
          refine Wk.callLF (coC H) [.int (0 : Int32)] 0 [] (i' := 1) (H.w 180 rfl) (cv_reg H) o_L_law_254 (run_reg H F1 G1 A1 B1 (0 : Int32) (s6 q3 q4 q5)) (wt := 0) (cu' := 11) (su' := 354) (by decide) trivial rfl rfl rfl rfl rfl rfl rfl rfl rfl rfl (ws' := [(10, F1, G1, A1, B1)]) rfl ?_
          refine Wk.if_eq o_L_law_257 (fun q7 => ?_) (fun q7 => ?_)
          · refine Wk.aloadN o_L_law_262 rfl ?_
            refine Wk.iconst o_L_law_263 (z := (1 : Int32)) (by decide) ?_
            refine Wk.callLF (coC H) [.int (1 : Int32)] 0 [] (i' := 1) (H.w 180 rfl) (cv_reg H) o_L_law_264 (run_reg H F1 G1 A1 B1 (1 : Int32) (s8 q3 q4 q5 q7)) (wt := 0) (cu' := 11) (su' := 354) (by decide) trivial rfl rfl rfl rfl rfl rfl rfl rfl rfl rfl (ws' := [(10, F1, G1, A1, B1)]) rfl ?_
            refine Wk.iload o_L_law_267 rfl ?_
            refine Wk.icmp_eq o_L_law_269 (fun q9 => ?_) (fun q9 => ?_)
            · refine Wk.aloadN o_L_law_274 rfl ?_
              refine Wk.iconst o_L_law_275 (z := (2 : Int32)) (by decide) ?_
              refine Wk.callLF (coC H) [.int (2 : Int32)] 0 [] (i' := 1) (H.w 180 rfl) (cv_reg H) o_L_law_276 (run_reg H F1 G1 A1 B1 (2 : Int32) (s10 q3 q4 q5 q7 q9)) (wt := 0) (cu' := 11) (su' := 354) (by decide) trivial rfl rfl rfl rfl rfl rfl rfl rfl rfl rfl (ws' := [(10, F1, G1, A1, B1)]) rfl ?_
              refine Wk.iloadN o_L_law_279 rfl ?_
              refine Wk.icmp_eq o_L_law_280 (fun q11 => ?_) (fun q11 => ?_)
              · refine Wk.aloadN o_L_law_285 rfl ?_
                refine Wk.iconst o_L_law_286 (z := (3 : Int32)) (by decide) ?_
                refine Wk.callLF (coC H) [.int (3 : Int32)] 0 [] (i' := 1) (H.w 180 rfl) (cv_reg H) o_L_law_287 (run_reg H F1 G1 A1 B1 (3 : Int32) (s12 q3 q4 q5 q7 q9 q11)) (wt := 0) (cu' := 11) (su' := 354) (by decide) trivial rfl rfl rfl rfl rfl rfl rfl rfl rfl rfl (ws' := [(10, F1, G1, A1, B1)]) rfl ?_
                refine Wk.iload o_L_law_290 rfl ?_
                refine Wk.bipush o_L_law_292 (z := (7 : Int32)) (by decide) ?_
                refine Wk.iadd o_L_law_294 ?_
                refine Wk.icmp_eq o_L_law_295 (fun q13 => ?_) (fun q13 => ?_)
                · refine Wk.aloadN o_L_law_300 rfl ?_
                  refine Wk.iconst o_L_law_301 (z := (4 : Int32)) (by decide) ?_
                  refine Wk.callLF (coC H) [.int (4 : Int32)] 0 [] (i' := 1) (H.w 180 rfl) (cv_reg H) o_L_law_302 (run_reg H F1 G1 A1 B1 (4 : Int32) (s14 q3 q4 q5 q7 q9 q11 q13)) (wt := 0) (cu' := 11) (su' := 354) (by decide) trivial rfl rfl rfl rfl rfl rfl rfl rfl rfl rfl (ws' := [(10, F1, G1, A1, B1)]) rfl ?_
                  refine Wk.iload o_L_law_305 rfl ?_
                  refine Wk.iconst o_L_law_307 (z := (4 : Int32)) (by decide) ?_
                  refine Wk.iadd o_L_law_308 ?_
                  refine Wk.iload o_L_law_309 rfl ?_
                  refine Wk.iadd o_L_law_311 ?_
                  refine Wk.icmp_eq o_L_law_312 (fun q15 => ?_) (fun q15 => ?_)
                  · refine Wk.aloadN o_L_law_317 rfl ?_
                    refine Wk.iconst o_L_law_318 (z := (5 : Int32)) (by decide) ?_
                    refine Wk.callLF (coC H) [.int (5 : Int32)] 0 [] (i' := 1) (H.w 180 rfl) (cv_reg H) o_L_law_319 (run_reg H F1 G1 A1 B1 (5 : Int32) (s16 q3 q4 q5 q7 q9 q11 q13 q15)) (wt := 0) (cu' := 11) (su' := 354) (by decide) trivial rfl rfl rfl rfl rfl rfl rfl rfl rfl rfl (ws' := [(10, F1, G1, A1, B1)]) rfl ?_
                    refine Wk.if_eq o_L_law_322 (fun q17 => ?_) (fun q17 => ?_)
                    · refine Wk.aloadN o_L_law_327 rfl ?_
                      refine Wk.bipush o_L_law_328 (z := (6 : Int32)) (by decide) ?_
                      refine Wk.callLF (coC H) [.int (6 : Int32)] 0 [] (i' := 1) (H.w 180 rfl) (cv_reg H) o_L_law_330 (run_reg H F1 G1 A1 B1 (6 : Int32) (s18 q3 q4 q5 q7 q9 q11 q13 q15 q17)) (wt := 0) (cu' := 11) (su' := 354) (by decide) trivial rfl rfl rfl rfl rfl rfl rfl rfl rfl rfl (ws' := [(10, F1, G1, A1, B1)]) rfl ?_
                      refine Wk.if_eq o_L_law_333 (fun q19 => ?_) (fun q19 => ?_)
                      · refine Wk.aloadN o_L_law_338 rfl ?_
                        refine Wk.bipush o_L_law_339 (z := (7 : Int32)) (by decide) ?_
                        refine Wk.callLF (coC H) [.int (7 : Int32)] 0 [] (i' := 1) (H.w 180 rfl) (cv_reg H) o_L_law_341 (run_reg H F1 G1 A1 B1 (7 : Int32) (s20 q3 q4 q5 q7 q9 q11 q13 q15 q17 q19)) (wt := 0) (cu' := 11) (su' := 354) (by decide) trivial rfl rfl rfl rfl rfl rfl rfl rfl rfl rfl (ws' := [(10, F1, G1, A1, B1)]) rfl ?_
                        refine Wk.if_eq o_L_law_344 (fun q21 => ?_) (fun q21 => ?_)
                        · refine Wk.aloadN o_L_law_349 rfl ?_
                          refine Wk.iconst o_L_law_350 (z := (0 : Int32)) (by decide) ?_
                          refine Wk.callLF (coC H) [.int (0 : Int32)] 0 [] (i' := 1) (H.w 185 rfl) (cv_peek H) o_L_law_351 (run_peek H F1 G1 A1 B1 (0 : Int32)) (wt := 0) (cu' := 11) (su' := 354) (by decide) trivial rfl rfl rfl rfl rfl rfl rfl rfl rfl rfl (ws' := [(10, F1, G1, A1, B1)]) rfl ?_
                          refine Wk.ldc o_L_law_354 (z := (285212672 : Int32)) (H.w 64 rfl) ?_
                          refine Wk.iload o_L_law_356 rfl ?_
                          refine Wk.ldc o_L_law_358 (z := (32768 : Int32)) (H.w 164 rfl) ?_
                          refine Wk.iadd o_L_law_360 ?_
                          refine Wk.bipush o_L_law_361 (z := (16 : Int32)) (by decide) ?_
                          refine Wk.iushr o_L_law_363 ?_
                          refine Wk.ldc o_L_law_364 (z := (65535 : Int32)) (H.w 82 rfl) ?_
                          refine Wk.iand o_L_law_366 ?_
                          refine Wk.ior o_L_law_367 ?_
                          refine Wk.icmp_eq o_L_law_368 (fun q22 => ?_) (fun q22 => ?_)
                          · refine Wk.aloadN o_L_law_373 rfl ?_
                            refine Wk.iconst o_L_law_374 (z := (1 : Int32)) (by decide) ?_
                            refine Wk.callLF (coC H) [.int (1 : Int32)] 0 [] (i' := 1) (H.w 185 rfl) (cv_peek H) o_L_law_375 (run_peek H F1 G1 A1 B1 (1 : Int32)) (wt := 0) (cu' := 11) (su' := 354) (by decide) trivial rfl rfl rfl rfl rfl rfl rfl rfl rfl rfl (ws' := [(10, F1, G1, A1, B1)]) rfl ?_
                            refine Wk.ldc o_L_law_378 (z := (554696704 : Int32)) (H.w 78 rfl) ?_
                            refine Wk.iload o_L_law_380 rfl ?_
                            refine Wk.ldc o_L_law_382 (z := (65535 : Int32)) (H.w 82 rfl) ?_
                            refine Wk.iand o_L_law_384 ?_
                            refine Wk.ior o_L_law_385 ?_
                            refine Wk.icmp_eq o_L_law_386 (fun q23 => ?_) (fun q23 => ?_)
                            · refine Wk.aloadN o_L_law_391 rfl ?_
                              refine Wk.bipush o_L_law_392 (z := (17 : Int32)) (by decide) ?_
                              refine Wk.callLF (coC H) [.int (17 : Int32)] 0 [] (i' := 1) (H.w 185 rfl) (cv_peek H) o_L_law_394 (run_peek H F1 G1 A1 B1 (17 : Int32)) (wt := 0) (cu' := 11) (su' := 354) (by decide) trivial rfl rfl rfl rfl rfl rfl rfl rfl rfl rfl (ws' := [(10, F1, G1, A1, B1)]) rfl ?_
                              refine Wk.iload o_L_law_397 rfl ?_
                              refine Wk.bipush o_L_law_399 (z := (7 : Int32)) (by decide) ?_
                              refine Wk.iadd o_L_law_401 ?_
                              refine Wk.icmp_eq o_L_law_402 (fun q24 => ?_) (fun q24 => ?_)
                              · refine Wk.iconst o_L_law_407 (z := (1 : Int32)) (by decide) ?_
                                exact Wk.zreturn mrL rfl o_L_law_408 rfl (by decide) (by decide) (y := (1 : Int32)) (by decide) (h25 q3 q4 q5 q7 q9 q11 q13 q15 q17 q19 q21 q22 q23 q24)
                              · refine Wk.iconst o_L_law_405 (z := (0 : Int32)) (by decide) ?_
                                exact Wk.zreturn mrL rfl o_L_law_406 rfl (by decide) (by decide) (y := (0 : Int32)) (by decide) (h26 q3 q4 q5 q7 q9 q11 q13 q15 q17 q19 q21 q22 q23 q24)
                            · refine Wk.iconst o_L_law_389 (z := (0 : Int32)) (by decide) ?_
                              exact Wk.zreturn mrL rfl o_L_law_390 rfl (by decide) (by decide) (y := (0 : Int32)) (by decide) (h27 q3 q4 q5 q7 q9 q11 q13 q15 q17 q19 q21 q22 q23)
                          · refine Wk.iconst o_L_law_371 (z := (0 : Int32)) (by decide) ?_
                            exact Wk.zreturn mrL rfl o_L_law_372 rfl (by decide) (by decide) (y := (0 : Int32)) (by decide) (h28 q3 q4 q5 q7 q9 q11 q13 q15 q17 q19 q21 q22)
                        · refine Wk.iconst o_L_law_347 (z := (0 : Int32)) (by decide) ?_
                          exact Wk.zreturn mrL rfl o_L_law_348 rfl (by decide) (by decide) (y := (0 : Int32)) (by decide) (h29 q3 q4 q5 q7 q9 q11 q13 q15 q17 q19 q21)
                      · refine Wk.iconst o_L_law_336 (z := (0 : Int32)) (by decide) ?_
                        exact Wk.zreturn mrL rfl o_L_law_337 rfl (by decide) (by decide) (y := (0 : Int32)) (by decide) (h30 q3 q4 q5 q7 q9 q11 q13 q15 q17 q19)
                    · refine Wk.iconst o_L_law_325 (z := (0 : Int32)) (by decide) ?_
                      exact Wk.zreturn mrL rfl o_L_law_326 rfl (by decide) (by decide) (y := (0 : Int32)) (by decide) (h31 q3 q4 q5 q7 q9 q11 q13 q15 q17)
                  · refine Wk.iconst o_L_law_315 (z := (0 : Int32)) (by decide) ?_
                    exact Wk.zreturn mrL rfl o_L_law_316 rfl (by decide) (by decide) (y := (0 : Int32)) (by decide) (h32 q3 q4 q5 q7 q9 q11 q13 q15)
                · refine Wk.iconst o_L_law_298 (z := (0 : Int32)) (by decide) ?_
                  exact Wk.zreturn mrL rfl o_L_law_299 rfl (by decide) (by decide) (y := (0 : Int32)) (by decide) (h33 q3 q4 q5 q7 q9 q11 q13)
              · refine Wk.iconst o_L_law_283 (z := (0 : Int32)) (by decide) ?_
                exact Wk.zreturn mrL rfl o_L_law_284 rfl (by decide) (by decide) (y := (0 : Int32)) (by decide) (h34 q3 q4 q5 q7 q9 q11)
            · refine Wk.iconst o_L_law_272 (z := (0 : Int32)) (by decide) ?_
              exact Wk.zreturn mrL rfl o_L_law_273 rfl (by decide) (by decide) (y := (0 : Int32)) (by decide) (h35 q3 q4 q5 q7 q9)
          · refine Wk.iconst o_L_law_260 (z := (0 : Int32)) (by decide) ?_
            exact Wk.zreturn mrL rfl o_L_law_261 rfl (by decide) (by decide) (y := (0 : Int32)) (by decide) (h36 q3 q4 q5 q7)
        · refine Wk.iconst o_L_law_250 (z := (0 : Int32)) (by decide) ?_
          exact Wk.zreturn mrL rfl o_L_law_251 rfl (by decide) (by decide) (y := (0 : Int32)) (by decide) (h37 q3 q4 q5)
      · refine Wk.iconst o_L_law_236 (z := (0 : Int32)) (by decide) ?_
        exact Wk.zreturn mrL rfl o_L_law_237 rfl (by decide) (by decide) (y := (0 : Int32)) (by decide) (h38 q3 q4)
    · refine Wk.iconst o_L_law_225 (z := (0 : Int32)) (by decide) ?_
      exact Wk.zreturn mrL rfl o_L_law_226 rfl (by decide) (by decide) (y := (0 : Int32)) (by decide) (h39 q3)
  refine Wk.icmp_lt o_L_law_202 (fun q1 => ?_) (fun q1 => ?_)
  · refine Wk.iload o_L_law_213 rfl ?_
    first | (rw [show ((if (v2 &&& (65535 : Int32)) < (32768 : Int32) then (v2 &&& (65535 : Int32)) else ((v2 &&& (65535 : Int32)) - (65536 : Int32))) : Int32) = (v2 &&& (65535 : Int32)) from if_pos q1] at J2; exact J2) | exact J2 | (simp only [if_pos q1] at J2 ⊢; exact J2)
  · refine Wk.iload o_L_law_205 rfl ?_
    refine Wk.ldc o_L_law_207 (z := (65536 : Int32)) (H.w 191 rfl) ?_
    refine Wk.isub o_L_law_209 ?_
    refine Wk.goto o_L_law_210 ?_
    first | (rw [show ((if (v2 &&& (65535 : Int32)) < (32768 : Int32) then (v2 &&& (65535 : Int32)) else ((v2 &&& (65535 : Int32)) - (65536 : Int32))) : Int32) = ((v2 &&& (65535 : Int32)) - (65536 : Int32)) from if_neg q1] at J2; exact J2) | exact J2 | (simp only [if_neg q1] at J2 ⊢; exact J2)

theorem rt_law {v r : Int32} (e : v = r) : some (Value.int v) = some (Value.int r) := by rw [e]
def lp_L_law : Nat → Nat → Int32 → Int32 → Int32 → Int32 → (Nat → Int32) → (Nat → Int32 → Int32) → Option (Int32)
  | 0, _, _, _, _, _, _, _ => none
  | n + 1, tag, v0, v1, v2, v4, F1, A1 => if tag = 12 then (if ((en_addSection F1 A1 (8 : Int32) (1 : Int32)).isSome = true) then (if (R_addSection F1 A1 (8 : Int32) (1 : Int32)).1 = 0 then lp_L_law n 29 0 v1 v2 (v0 <<< ((4 : Int32) &&& 31)) (R_addSection F1 A1 (8 : Int32) (1 : Int32)).2.1 (R_addSection F1 A1 (8 : Int32) (1 : Int32)).2.2 else some ((0 : Int32))) else none) else if tag = 29 then (if ((en_addSection F1 A1 (2 : Int32) (16 : Int32)).isSome = true) then (if (R_addSection F1 A1 (2 : Int32) (16 : Int32)).1 = (1 : Int32) then lp_L_law n 42 0 v1 v2 v4 (R_addSection F1 A1 (2 : Int32) (16 : Int32)).2.1 (R_addSection F1 A1 (2 : Int32) (16 : Int32)).2.2 else some ((0 : Int32))) else none) else if tag = 42 then (if ((en_setWord F1 A1 (0 : Int32) (285212672 : Int32)).isSome = true) then lp_L_law n 50 0 v1 v2 v4 F1 (R_setWord F1 A1 (0 : Int32) (285212672 : Int32)).2 else none) else if tag = 50 then (if ((en_setWord F1 A1 (1 : Int32) (554696704 : Int32)).isSome = true) then lp_L_law n 58 0 v1 v2 v4 F1 (R_setWord F1 A1 (1 : Int32) (554696704 : Int32)).2 else none) else if tag = 58 then (if ((en_setWord F1 A1 (2 : Int32) (1108344832 : Int32)).isSome = true) then lp_L_law n 66 0 v1 v2 v4 F1 (R_setWord F1 A1 (2 : Int32) (1108344832 : Int32)).2 else none) else if tag = 66 then (if ((en_setWord F1 A1 (3 : Int32) (1125122049 : Int32)).isSome = true) then lp_L_law n 74 0 v1 v2 v4 F1 (R_setWord F1 A1 (3 : Int32) (1125122049 : Int32)).2 else none) else if tag = 74 then (if ((en_setWord F1 A1 (4 : Int32) ((1946157056 : Int32) ||| (v2 &&& (65535 : Int32)))).isSome = true) then lp_L_law n 87 0 v1 v2 v4 F1 (R_setWord F1 A1 (4 : Int32) ((1946157056 : Int32) ||| (v2 &&& (65535 : Int32)))).2 else none) else if tag = 87 then (if ((en_setWord F1 A1 (5 : Int32) (1392508928 : Int32)).isSome = true) then lp_L_law n 95 0 v1 v2 v4 F1 (R_setWord F1 A1 (5 : Int32) (1392508928 : Int32)).2 else none) else if tag = 95 then (if ((en_setWord F1 A1 (6 : Int32) (-268435456 : Int32)).isSome = true) then lp_L_law n 104 0 v1 v2 v4 F1 (R_setWord F1 A1 (6 : Int32) (-268435456 : Int32)).2 else none) else if tag = 104 then (if ((en_setWord F1 A1 (256 : Int32) v1).isSome = true) then lp_L_law n 113 0 v1 v2 v4 F1 (R_setWord F1 A1 (256 : Int32) v1).2 else none) else if tag = 113 then (if ((en_setWord F1 A1 (257 : Int32) (7 : Int32)).isSome = true) then lp_L_law n 123 0 v1 v2 v4 F1 (R_setWord F1 A1 (257 : Int32) (7 : Int32)).2 else none) else if tag = 123 then (if ((en_addReloc F1 A1 (4 : Int32) (0 : Int32) (1 : Int32) (1 : Int32)).isSome = true) then (if (R_addReloc F1 A1 (4 : Int32) (0 : Int32) (1 : Int32) (1 : Int32)).1 = 0 then lp_L_law n 136 0 v1 v2 v4 (R_addReloc F1 A1 (4 : Int32) (0 : Int32) (1 : Int32) (1 : Int32)).2.1 (R_addReloc F1 A1 (4 : Int32) (0 : Int32) (1 : Int32) (1 : Int32)).2.2 else some ((0 : Int32))) else none) else if tag = 136 then (if ((en_addReloc F1 A1 (1 : Int32) (257 : Int32) (0 : Int32) (0 : Int32)).isSome = true) then (if (R_addReloc F1 A1 (1 : Int32) (257 : Int32) (0 : Int32) (0 : Int32)).1 = (1 : Int32) then lp_L_law n 152 0 v1 v2 v4 (R_addReloc F1 A1 (1 : Int32) (257 : Int32) (0 : Int32) (0 : Int32)).2.1 (R_addReloc F1 A1 (1 : Int32) (257 : Int32) (0 : Int32) (0 : Int32)).2.2 else some ((0 : Int32))) else none) else if tag = 152 then (if ((en_load F1 A1 v4).isSome = true) then (if (R_load F1 A1 v4).1 = 0 then lp_L_law n 163 0 v1 v2 v4 (R_load F1 A1 v4).2.1 (R_load F1 A1 v4).2.2 else some ((0 : Int32))) else none) else if tag = 163 then (if ((en_start F1 A1 (0 : Int32)).isSome = true) then (if (R_start F1 A1 (0 : Int32)).1 = 0 then lp_L_law n 173 0 v1 v2 v4 (R_start F1 A1 (0 : Int32)).2.1 (R_start F1 A1 (0 : Int32)).2.2 else some ((0 : Int32))) else none) else if tag = 173 then (if ((en_run F1 A1 (20 : Int32)).isSome = true) then (if (R_run F1 A1 (20 : Int32)).1 = (3 : Int32) then lp_L_law n 185 0 v1 v2 v4 (R_run F1 A1 (20 : Int32)).2.1 (R_run F1 A1 (20 : Int32)).2.2 else some ((0 : Int32))) else none) else if tag = 185 then (if (f_status F1) = (3 : Int32) then (if (f_base F1) = v4 then (if (f_pc F1) = (v4 + (7 : Int32)) then (if ((en_reg A1 (0 : Int32)).isSome = true) then (if (R_reg A1 (0 : Int32)) = 0 then (if ((en_reg A1 (1 : Int32)).isSome = true) then (if (R_reg A1 (1 : Int32)) = (v4 + (16 : Int32)) then (if ((en_reg A1 (2 : Int32)).isSome = true) then (if (R_reg A1 (2 : Int32)) = v1 then (if ((en_reg A1 (3 : Int32)).isSome = true) then (if (R_reg A1 (3 : Int32)) = (v4 + (7 : Int32)) then (if ((en_reg A1 (4 : Int32)).isSome = true) then (if (R_reg A1 (4 : Int32)) = ((v4 + (4 : Int32)) + (if (v2 &&& (65535 : Int32)) < (32768 : Int32) then (v2 &&& (65535 : Int32)) else ((v2 &&& (65535 : Int32)) - (65536 : Int32)))) then (if ((en_reg A1 (5 : Int32)).isSome = true) then (if (R_reg A1 (5 : Int32)) = 0 then (if ((en_reg A1 (6 : Int32)).isSome = true) then (if (R_reg A1 (6 : Int32)) = 0 then (if ((en_reg A1 (7 : Int32)).isSome = true) then (if (R_reg A1 (7 : Int32)) = 0 then (if (f_peek F1 A1 (0 : Int32)) = ((285212672 : Int32) ||| ((XT.ushr ((v4 + (16 : Int32)) + (32768 : Int32)) (16 : Int32)) &&& (65535 : Int32))) then (if (f_peek F1 A1 (1 : Int32)) = ((554696704 : Int32) ||| ((v4 + (16 : Int32)) &&& (65535 : Int32))) then (if (f_peek F1 A1 (17 : Int32)) = (v4 + (7 : Int32)) then some ((1 : Int32)) else some ((0 : Int32))) else some ((0 : Int32))) else some ((0 : Int32))) else some ((0 : Int32))) else none) else some ((0 : Int32))) else none) else some ((0 : Int32))) else none) else some ((0 : Int32))) else none) else some ((0 : Int32))) else none) else some ((0 : Int32))) else none) else some ((0 : Int32))) else none) else some ((0 : Int32))) else none) else some ((0 : Int32))) else some ((0 : Int32))) else some ((0 : Int32))) else none
theorem lp_L_law_z (tag : Nat) (v0 : Int32) (v1 : Int32) (v2 : Int32) (v4 : Int32) (F1 : Nat → Int32) (A1 : Nat → Int32 → Int32) : lp_L_law 0 tag  v0 v1 v2 v4 F1 A1 = none := Eq.trans rfl rfl
theorem lp_L_law_12 (n : Nat) (v0 : Int32) (v1 : Int32) (v2 : Int32) (v4 : Int32) (F1 : Nat → Int32) (A1 : Nat → Int32 → Int32) : lp_L_law (n + 1) 12  v0 v1 v2 v4 F1 A1 = (if ((en_addSection F1 A1 (8 : Int32) (1 : Int32)).isSome = true) then (if (R_addSection F1 A1 (8 : Int32) (1 : Int32)).1 = 0 then lp_L_law n 29 0 v1 v2 (v0 <<< ((4 : Int32) &&& 31)) (R_addSection F1 A1 (8 : Int32) (1 : Int32)).2.1 (R_addSection F1 A1 (8 : Int32) (1 : Int32)).2.2 else some ((0 : Int32))) else none) := by
  rw [lp_L_law, if_pos rfl]
theorem lp_L_law_29 (n : Nat) (v0 : Int32) (v1 : Int32) (v2 : Int32) (v4 : Int32) (F1 : Nat → Int32) (A1 : Nat → Int32 → Int32) : lp_L_law (n + 1) 29  v0 v1 v2 v4 F1 A1 = (if ((en_addSection F1 A1 (2 : Int32) (16 : Int32)).isSome = true) then (if (R_addSection F1 A1 (2 : Int32) (16 : Int32)).1 = (1 : Int32) then lp_L_law n 42 0 v1 v2 v4 (R_addSection F1 A1 (2 : Int32) (16 : Int32)).2.1 (R_addSection F1 A1 (2 : Int32) (16 : Int32)).2.2 else some ((0 : Int32))) else none) := by
  rw [lp_L_law, if_neg (by decide), if_pos rfl]
theorem lp_L_law_42 (n : Nat) (v0 : Int32) (v1 : Int32) (v2 : Int32) (v4 : Int32) (F1 : Nat → Int32) (A1 : Nat → Int32 → Int32) : lp_L_law (n + 1) 42  v0 v1 v2 v4 F1 A1 = (if ((en_setWord F1 A1 (0 : Int32) (285212672 : Int32)).isSome = true) then lp_L_law n 50 0 v1 v2 v4 F1 (R_setWord F1 A1 (0 : Int32) (285212672 : Int32)).2 else none) := by
  rw [lp_L_law, if_neg (by decide), if_neg (by decide), if_pos rfl]
theorem lp_L_law_50 (n : Nat) (v0 : Int32) (v1 : Int32) (v2 : Int32) (v4 : Int32) (F1 : Nat → Int32) (A1 : Nat → Int32 → Int32) : lp_L_law (n + 1) 50  v0 v1 v2 v4 F1 A1 = (if ((en_setWord F1 A1 (1 : Int32) (554696704 : Int32)).isSome = true) then lp_L_law n 58 0 v1 v2 v4 F1 (R_setWord F1 A1 (1 : Int32) (554696704 : Int32)).2 else none) := by
  rw [lp_L_law, if_neg (by decide), if_neg (by decide), if_neg (by decide), if_pos rfl]
theorem lp_L_law_58 (n : Nat) (v0 : Int32) (v1 : Int32) (v2 : Int32) (v4 : Int32) (F1 : Nat → Int32) (A1 : Nat → Int32 → Int32) : lp_L_law (n + 1) 58  v0 v1 v2 v4 F1 A1 = (if ((en_setWord F1 A1 (2 : Int32) (1108344832 : Int32)).isSome = true) then lp_L_law n 66 0 v1 v2 v4 F1 (R_setWord F1 A1 (2 : Int32) (1108344832 : Int32)).2 else none) := by
  rw [lp_L_law, if_neg (by decide), if_neg (by decide), if_neg (by decide), if_neg (by decide), if_pos rfl]
theorem lp_L_law_66 (n : Nat) (v0 : Int32) (v1 : Int32) (v2 : Int32) (v4 : Int32) (F1 : Nat → Int32) (A1 : Nat → Int32 → Int32) : lp_L_law (n + 1) 66  v0 v1 v2 v4 F1 A1 = (if ((en_setWord F1 A1 (3 : Int32) (1125122049 : Int32)).isSome = true) then lp_L_law n 74 0 v1 v2 v4 F1 (R_setWord F1 A1 (3 : Int32) (1125122049 : Int32)).2 else none) := by
  rw [lp_L_law, if_neg (by decide), if_neg (by decide), if_neg (by decide), if_neg (by decide), if_neg (by decide), if_pos rfl]
theorem lp_L_law_74 (n : Nat) (v0 : Int32) (v1 : Int32) (v2 : Int32) (v4 : Int32) (F1 : Nat → Int32) (A1 : Nat → Int32 → Int32) : lp_L_law (n + 1) 74  v0 v1 v2 v4 F1 A1 = (if ((en_setWord F1 A1 (4 : Int32) ((1946157056 : Int32) ||| (v2 &&& (65535 : Int32)))).isSome = true) then lp_L_law n 87 0 v1 v2 v4 F1 (R_setWord F1 A1 (4 : Int32) ((1946157056 : Int32) ||| (v2 &&& (65535 : Int32)))).2 else none) := by
  rw [lp_L_law, if_neg (by decide), if_neg (by decide), if_neg (by decide), if_neg (by decide), if_neg (by decide), if_neg (by decide), if_pos rfl]
theorem lp_L_law_87 (n : Nat) (v0 : Int32) (v1 : Int32) (v2 : Int32) (v4 : Int32) (F1 : Nat → Int32) (A1 : Nat → Int32 → Int32) : lp_L_law (n + 1) 87  v0 v1 v2 v4 F1 A1 = (if ((en_setWord F1 A1 (5 : Int32) (1392508928 : Int32)).isSome = true) then lp_L_law n 95 0 v1 v2 v4 F1 (R_setWord F1 A1 (5 : Int32) (1392508928 : Int32)).2 else none) := by
  rw [lp_L_law, if_neg (by decide), if_neg (by decide), if_neg (by decide), if_neg (by decide), if_neg (by decide), if_neg (by decide), if_neg (by decide), if_pos rfl]
theorem lp_L_law_95 (n : Nat) (v0 : Int32) (v1 : Int32) (v2 : Int32) (v4 : Int32) (F1 : Nat → Int32) (A1 : Nat → Int32 → Int32) : lp_L_law (n + 1) 95  v0 v1 v2 v4 F1 A1 = (if ((en_setWord F1 A1 (6 : Int32) (-268435456 : Int32)).isSome = true) then lp_L_law n 104 0 v1 v2 v4 F1 (R_setWord F1 A1 (6 : Int32) (-268435456 : Int32)).2 else none) := by
  rw [lp_L_law, if_neg (by decide), if_neg (by decide), if_neg (by decide), if_neg (by decide), if_neg (by decide), if_neg (by decide), if_neg (by decide), if_neg (by decide), if_pos rfl]
theorem lp_L_law_104 (n : Nat) (v0 : Int32) (v1 : Int32) (v2 : Int32) (v4 : Int32) (F1 : Nat → Int32) (A1 : Nat → Int32 → Int32) : lp_L_law (n + 1) 104  v0 v1 v2 v4 F1 A1 = (if ((en_setWord F1 A1 (256 : Int32) v1).isSome = true) then lp_L_law n 113 0 v1 v2 v4 F1 (R_setWord F1 A1 (256 : Int32) v1).2 else none) := by
  rw [lp_L_law, if_neg (by decide), if_neg (by decide), if_neg (by decide), if_neg (by decide), if_neg (by decide), if_neg (by decide), if_neg (by decide), if_neg (by decide), if_neg (by decide), if_pos rfl]
theorem lp_L_law_113 (n : Nat) (v0 : Int32) (v1 : Int32) (v2 : Int32) (v4 : Int32) (F1 : Nat → Int32) (A1 : Nat → Int32 → Int32) : lp_L_law (n + 1) 113  v0 v1 v2 v4 F1 A1 = (if ((en_setWord F1 A1 (257 : Int32) (7 : Int32)).isSome = true) then lp_L_law n 123 0 v1 v2 v4 F1 (R_setWord F1 A1 (257 : Int32) (7 : Int32)).2 else none) := by
  rw [lp_L_law, if_neg (by decide), if_neg (by decide), if_neg (by decide), if_neg (by decide), if_neg (by decide), if_neg (by decide), if_neg (by decide), if_neg (by decide), if_neg (by decide), if_neg (by decide), if_pos rfl]
theorem lp_L_law_123 (n : Nat) (v0 : Int32) (v1 : Int32) (v2 : Int32) (v4 : Int32) (F1 : Nat → Int32) (A1 : Nat → Int32 → Int32) : lp_L_law (n + 1) 123  v0 v1 v2 v4 F1 A1 = (if ((en_addReloc F1 A1 (4 : Int32) (0 : Int32) (1 : Int32) (1 : Int32)).isSome = true) then (if (R_addReloc F1 A1 (4 : Int32) (0 : Int32) (1 : Int32) (1 : Int32)).1 = 0 then lp_L_law n 136 0 v1 v2 v4 (R_addReloc F1 A1 (4 : Int32) (0 : Int32) (1 : Int32) (1 : Int32)).2.1 (R_addReloc F1 A1 (4 : Int32) (0 : Int32) (1 : Int32) (1 : Int32)).2.2 else some ((0 : Int32))) else none) := by
  rw [lp_L_law, if_neg (by decide), if_neg (by decide), if_neg (by decide), if_neg (by decide), if_neg (by decide), if_neg (by decide), if_neg (by decide), if_neg (by decide), if_neg (by decide), if_neg (by decide), if_neg (by decide), if_pos rfl]
theorem lp_L_law_136 (n : Nat) (v0 : Int32) (v1 : Int32) (v2 : Int32) (v4 : Int32) (F1 : Nat → Int32) (A1 : Nat → Int32 → Int32) : lp_L_law (n + 1) 136  v0 v1 v2 v4 F1 A1 = (if ((en_addReloc F1 A1 (1 : Int32) (257 : Int32) (0 : Int32) (0 : Int32)).isSome = true) then (if (R_addReloc F1 A1 (1 : Int32) (257 : Int32) (0 : Int32) (0 : Int32)).1 = (1 : Int32) then lp_L_law n 152 0 v1 v2 v4 (R_addReloc F1 A1 (1 : Int32) (257 : Int32) (0 : Int32) (0 : Int32)).2.1 (R_addReloc F1 A1 (1 : Int32) (257 : Int32) (0 : Int32) (0 : Int32)).2.2 else some ((0 : Int32))) else none) := by
  rw [lp_L_law, if_neg (by decide), if_neg (by decide), if_neg (by decide), if_neg (by decide), if_neg (by decide), if_neg (by decide), if_neg (by decide), if_neg (by decide), if_neg (by decide), if_neg (by decide), if_neg (by decide), if_neg (by decide), if_pos rfl]
theorem lp_L_law_152 (n : Nat) (v0 : Int32) (v1 : Int32) (v2 : Int32) (v4 : Int32) (F1 : Nat → Int32) (A1 : Nat → Int32 → Int32) : lp_L_law (n + 1) 152  v0 v1 v2 v4 F1 A1 = (if ((en_load F1 A1 v4).isSome = true) then (if (R_load F1 A1 v4).1 = 0 then lp_L_law n 163 0 v1 v2 v4 (R_load F1 A1 v4).2.1 (R_load F1 A1 v4).2.2 else some ((0 : Int32))) else none) := by
  rw [lp_L_law, if_neg (by decide), if_neg (by decide), if_neg (by decide), if_neg (by decide), if_neg (by decide), if_neg (by decide), if_neg (by decide), if_neg (by decide), if_neg (by decide), if_neg (by decide), if_neg (by decide), if_neg (by decide), if_neg (by decide), if_pos rfl]
theorem lp_L_law_163 (n : Nat) (v0 : Int32) (v1 : Int32) (v2 : Int32) (v4 : Int32) (F1 : Nat → Int32) (A1 : Nat → Int32 → Int32) : lp_L_law (n + 1) 163  v0 v1 v2 v4 F1 A1 = (if ((en_start F1 A1 (0 : Int32)).isSome = true) then (if (R_start F1 A1 (0 : Int32)).1 = 0 then lp_L_law n 173 0 v1 v2 v4 (R_start F1 A1 (0 : Int32)).2.1 (R_start F1 A1 (0 : Int32)).2.2 else some ((0 : Int32))) else none) := by
  rw [lp_L_law, if_neg (by decide), if_neg (by decide), if_neg (by decide), if_neg (by decide), if_neg (by decide), if_neg (by decide), if_neg (by decide), if_neg (by decide), if_neg (by decide), if_neg (by decide), if_neg (by decide), if_neg (by decide), if_neg (by decide), if_neg (by decide), if_pos rfl]
theorem lp_L_law_173 (n : Nat) (v0 : Int32) (v1 : Int32) (v2 : Int32) (v4 : Int32) (F1 : Nat → Int32) (A1 : Nat → Int32 → Int32) : lp_L_law (n + 1) 173  v0 v1 v2 v4 F1 A1 = (if ((en_run F1 A1 (20 : Int32)).isSome = true) then (if (R_run F1 A1 (20 : Int32)).1 = (3 : Int32) then lp_L_law n 185 0 v1 v2 v4 (R_run F1 A1 (20 : Int32)).2.1 (R_run F1 A1 (20 : Int32)).2.2 else some ((0 : Int32))) else none) := by
  rw [lp_L_law, if_neg (by decide), if_neg (by decide), if_neg (by decide), if_neg (by decide), if_neg (by decide), if_neg (by decide), if_neg (by decide), if_neg (by decide), if_neg (by decide), if_neg (by decide), if_neg (by decide), if_neg (by decide), if_neg (by decide), if_neg (by decide), if_neg (by decide), if_pos rfl]
theorem lp_L_law_185 (n : Nat) (v0 : Int32) (v1 : Int32) (v2 : Int32) (v4 : Int32) (F1 : Nat → Int32) (A1 : Nat → Int32 → Int32) : lp_L_law (n + 1) 185  v0 v1 v2 v4 F1 A1 = (if (f_status F1) = (3 : Int32) then (if (f_base F1) = v4 then (if (f_pc F1) = (v4 + (7 : Int32)) then (if ((en_reg A1 (0 : Int32)).isSome = true) then (if (R_reg A1 (0 : Int32)) = 0 then (if ((en_reg A1 (1 : Int32)).isSome = true) then (if (R_reg A1 (1 : Int32)) = (v4 + (16 : Int32)) then (if ((en_reg A1 (2 : Int32)).isSome = true) then (if (R_reg A1 (2 : Int32)) = v1 then (if ((en_reg A1 (3 : Int32)).isSome = true) then (if (R_reg A1 (3 : Int32)) = (v4 + (7 : Int32)) then (if ((en_reg A1 (4 : Int32)).isSome = true) then (if (R_reg A1 (4 : Int32)) = ((v4 + (4 : Int32)) + (if (v2 &&& (65535 : Int32)) < (32768 : Int32) then (v2 &&& (65535 : Int32)) else ((v2 &&& (65535 : Int32)) - (65536 : Int32)))) then (if ((en_reg A1 (5 : Int32)).isSome = true) then (if (R_reg A1 (5 : Int32)) = 0 then (if ((en_reg A1 (6 : Int32)).isSome = true) then (if (R_reg A1 (6 : Int32)) = 0 then (if ((en_reg A1 (7 : Int32)).isSome = true) then (if (R_reg A1 (7 : Int32)) = 0 then (if (f_peek F1 A1 (0 : Int32)) = ((285212672 : Int32) ||| ((XT.ushr ((v4 + (16 : Int32)) + (32768 : Int32)) (16 : Int32)) &&& (65535 : Int32))) then (if (f_peek F1 A1 (1 : Int32)) = ((554696704 : Int32) ||| ((v4 + (16 : Int32)) &&& (65535 : Int32))) then (if (f_peek F1 A1 (17 : Int32)) = (v4 + (7 : Int32)) then some ((1 : Int32)) else some ((0 : Int32))) else some ((0 : Int32))) else some ((0 : Int32))) else some ((0 : Int32))) else none) else some ((0 : Int32))) else none) else some ((0 : Int32))) else none) else some ((0 : Int32))) else none) else some ((0 : Int32))) else none) else some ((0 : Int32))) else none) else some ((0 : Int32))) else none) else some ((0 : Int32))) else none) else some ((0 : Int32))) else some ((0 : Int32))) else some ((0 : Int32))) := by
  rw [lp_L_law, if_neg (by decide), if_neg (by decide), if_neg (by decide), if_neg (by decide), if_neg (by decide), if_neg (by decide), if_neg (by decide), if_neg (by decide), if_neg (by decide), if_neg (by decide), if_neg (by decide), if_neg (by decide), if_neg (by decide), if_neg (by decide), if_neg (by decide), if_neg (by decide), if_pos rfl]
set_option maxRecDepth 65536 in
set_option maxHeartbeats 4000000 in
theorem lpw_L_law {l : Launch} {Z : State} {a0 : Array Value} (H : OK Z a0) (sl : Int32) (sv : Int32 → Int32) (G1 : Nat → Int64) (B1 : Nat → Int32 → Int64) : ∀ (n : Nat) (v0 : Int32) (v1 : Int32) (v2 : Int32) (v4 : Int32) (F1 : Nat → Int32) (A1 : Nat → Int32 → Int32) (r : Int32), (lp_L_law n 12  v0 v1 v2 v4 F1 A1 = some r → Wk l Z (MoL Z cdC "RebaseLoaderL3" false) md_L_law 12 [.val (.int v0), .val (.int v1), .val (.int v2), .val (.ref 1), .unset, .unset, .unset, .unset] [] (sl, sv, [(10, F1, G1, A1, B1)]) 11 354 (fun v _ => v = some (.int r))) ∧ (lp_L_law n 29  v0 v1 v2 v4 F1 A1 = some r → Wk l Z (MoL Z cdC "RebaseLoaderL3" false) md_L_law 29 [.unset, .val (.int v1), .val (.int v2), .val (.ref 1), .val (.int v4), .unset, .unset, .unset] [] (sl, sv, [(10, F1, G1, A1, B1)]) 11 354 (fun v _ => v = some (.int r))) ∧ (lp_L_law n 42  v0 v1 v2 v4 F1 A1 = some r → Wk l Z (MoL Z cdC "RebaseLoaderL3" false) md_L_law 42 [.unset, .val (.int v1), .val (.int v2), .val (.ref 1), .val (.int v4), .unset, .unset, .unset] [] (sl, sv, [(10, F1, G1, A1, B1)]) 11 354 (fun v _ => v = some (.int r))) ∧ (lp_L_law n 50  v0 v1 v2 v4 F1 A1 = some r → Wk l Z (MoL Z cdC "RebaseLoaderL3" false) md_L_law 50 [.unset, .val (.int v1), .val (.int v2), .val (.ref 1), .val (.int v4), .unset, .unset, .unset] [] (sl, sv, [(10, F1, G1, A1, B1)]) 11 354 (fun v _ => v = some (.int r))) ∧ (lp_L_law n 58  v0 v1 v2 v4 F1 A1 = some r → Wk l Z (MoL Z cdC "RebaseLoaderL3" false) md_L_law 58 [.unset, .val (.int v1), .val (.int v2), .val (.ref 1), .val (.int v4), .unset, .unset, .unset] [] (sl, sv, [(10, F1, G1, A1, B1)]) 11 354 (fun v _ => v = some (.int r))) ∧ (lp_L_law n 66  v0 v1 v2 v4 F1 A1 = some r → Wk l Z (MoL Z cdC "RebaseLoaderL3" false) md_L_law 66 [.unset, .val (.int v1), .val (.int v2), .val (.ref 1), .val (.int v4), .unset, .unset, .unset] [] (sl, sv, [(10, F1, G1, A1, B1)]) 11 354 (fun v _ => v = some (.int r))) ∧ (lp_L_law n 74  v0 v1 v2 v4 F1 A1 = some r → Wk l Z (MoL Z cdC "RebaseLoaderL3" false) md_L_law 74 [.unset, .val (.int v1), .val (.int v2), .val (.ref 1), .val (.int v4), .unset, .unset, .unset] [] (sl, sv, [(10, F1, G1, A1, B1)]) 11 354 (fun v _ => v = some (.int r))) ∧ (lp_L_law n 87  v0 v1 v2 v4 F1 A1 = some r → Wk l Z (MoL Z cdC "RebaseLoaderL3" false) md_L_law 87 [.unset, .val (.int v1), .val (.int v2), .val (.ref 1), .val (.int v4), .unset, .unset, .unset] [] (sl, sv, [(10, F1, G1, A1, B1)]) 11 354 (fun v _ => v = some (.int r))) ∧ (lp_L_law n 95  v0 v1 v2 v4 F1 A1 = some r → Wk l Z (MoL Z cdC "RebaseLoaderL3" false) md_L_law 95 [.unset, .val (.int v1), .val (.int v2), .val (.ref 1), .val (.int v4), .unset, .unset, .unset] [] (sl, sv, [(10, F1, G1, A1, B1)]) 11 354 (fun v _ => v = some (.int r))) ∧ (lp_L_law n 104  v0 v1 v2 v4 F1 A1 = some r → Wk l Z (MoL Z cdC "RebaseLoaderL3" false) md_L_law 104 [.unset, .val (.int v1), .val (.int v2), .val (.ref 1), .val (.int v4), .unset, .unset, .unset] [] (sl, sv, [(10, F1, G1, A1, B1)]) 11 354 (fun v _ => v = some (.int r))) ∧ (lp_L_law n 113  v0 v1 v2 v4 F1 A1 = some r → Wk l Z (MoL Z cdC "RebaseLoaderL3" false) md_L_law 113 [.unset, .val (.int v1), .val (.int v2), .val (.ref 1), .val (.int v4), .unset, .unset, .unset] [] (sl, sv, [(10, F1, G1, A1, B1)]) 11 354 (fun v _ => v = some (.int r))) ∧ (lp_L_law n 123  v0 v1 v2 v4 F1 A1 = some r → Wk l Z (MoL Z cdC "RebaseLoaderL3" false) md_L_law 123 [.unset, .val (.int v1), .val (.int v2), .val (.ref 1), .val (.int v4), .unset, .unset, .unset] [] (sl, sv, [(10, F1, G1, A1, B1)]) 11 354 (fun v _ => v = some (.int r))) ∧ (lp_L_law n 136  v0 v1 v2 v4 F1 A1 = some r → Wk l Z (MoL Z cdC "RebaseLoaderL3" false) md_L_law 136 [.unset, .val (.int v1), .val (.int v2), .val (.ref 1), .val (.int v4), .unset, .unset, .unset] [] (sl, sv, [(10, F1, G1, A1, B1)]) 11 354 (fun v _ => v = some (.int r))) ∧ (lp_L_law n 152  v0 v1 v2 v4 F1 A1 = some r → Wk l Z (MoL Z cdC "RebaseLoaderL3" false) md_L_law 152 [.unset, .val (.int v1), .val (.int v2), .val (.ref 1), .val (.int v4), .unset, .unset, .unset] [] (sl, sv, [(10, F1, G1, A1, B1)]) 11 354 (fun v _ => v = some (.int r))) ∧ (lp_L_law n 163  v0 v1 v2 v4 F1 A1 = some r → Wk l Z (MoL Z cdC "RebaseLoaderL3" false) md_L_law 163 [.unset, .val (.int v1), .val (.int v2), .val (.ref 1), .val (.int v4), .unset, .unset, .unset] [] (sl, sv, [(10, F1, G1, A1, B1)]) 11 354 (fun v _ => v = some (.int r))) ∧ (lp_L_law n 173  v0 v1 v2 v4 F1 A1 = some r → Wk l Z (MoL Z cdC "RebaseLoaderL3" false) md_L_law 173 [.unset, .val (.int v1), .val (.int v2), .val (.ref 1), .val (.int v4), .unset, .unset, .unset] [] (sl, sv, [(10, F1, G1, A1, B1)]) 11 354 (fun v _ => v = some (.int r))) ∧ (lp_L_law n 185  v0 v1 v2 v4 F1 A1 = some r → Wk l Z (MoL Z cdC "RebaseLoaderL3" false) md_L_law 185 [.unset, .val (.int v1), .val (.int v2), .val (.ref 1), .val (.int v4), .unset, .unset, .unset] [] (sl, sv, [(10, F1, G1, A1, B1)]) 11 354 (fun v _ => v = some (.int r))) := by
  intro n
  induction n with
  | zero =>
    intro v0 v1 v2 v4 F1 A1 r
    exact ⟨(fun h => by rw [lp_L_law_z] at h; cases h), (fun h => by rw [lp_L_law_z] at h; cases h), (fun h => by rw [lp_L_law_z] at h; cases h), (fun h => by rw [lp_L_law_z] at h; cases h), (fun h => by rw [lp_L_law_z] at h; cases h), (fun h => by rw [lp_L_law_z] at h; cases h), (fun h => by rw [lp_L_law_z] at h; cases h), (fun h => by rw [lp_L_law_z] at h; cases h), (fun h => by rw [lp_L_law_z] at h; cases h), (fun h => by rw [lp_L_law_z] at h; cases h), (fun h => by rw [lp_L_law_z] at h; cases h), (fun h => by rw [lp_L_law_z] at h; cases h), (fun h => by rw [lp_L_law_z] at h; cases h), (fun h => by rw [lp_L_law_z] at h; cases h), (fun h => by rw [lp_L_law_z] at h; cases h), (fun h => by rw [lp_L_law_z] at h; cases h), (fun h => by rw [lp_L_law_z] at h; cases h)⟩
  | succ n ih =>
    intro v0 v1 v2 v4 F1 A1 r
    refine ⟨fun h => ?_, fun h => ?_, fun h => ?_, fun h => ?_, fun h => ?_, fun h => ?_, fun h => ?_, fun h => ?_, fun h => ?_, fun h => ?_, fun h => ?_, fun h => ?_, fun h => ?_, fun h => ?_, fun h => ?_, fun h => ?_, fun h => ?_⟩
    · rw [lp_L_law_12] at h
      exact wp_L_law_12 H sl sv F1 G1 A1 B1 v0 v1 v2 ((gd h).1) (fun q2 => (ih _ _ _ _ _ _ _).2.1 (ifp q2 (gd h).2)) (fun q2 => (rt_law (Option.some.inj (ifn q2 (gd h).2))))
    · rw [lp_L_law_29] at h
      exact wp_L_law_29 H sl sv F1 G1 A1 B1 v1 v2 v4 ((gd h).1) (fun q2 => (ih _ _ _ _ _ _ _).2.2.1 (ifp q2 (gd h).2)) (fun q2 => (rt_law (Option.some.inj (ifn q2 (gd h).2))))
    · rw [lp_L_law_42] at h
      exact wp_L_law_42 H sl sv F1 G1 A1 B1 v1 v2 v4 ((gd h).1) ((ih _ _ _ _ _ _ _).2.2.2.1 (gd h).2)
    · rw [lp_L_law_50] at h
      exact wp_L_law_50 H sl sv F1 G1 A1 B1 v1 v2 v4 ((gd h).1) ((ih _ _ _ _ _ _ _).2.2.2.2.1 (gd h).2)
    · rw [lp_L_law_58] at h
      exact wp_L_law_58 H sl sv F1 G1 A1 B1 v1 v2 v4 ((gd h).1) ((ih _ _ _ _ _ _ _).2.2.2.2.2.1 (gd h).2)
    · rw [lp_L_law_66] at h
      exact wp_L_law_66 H sl sv F1 G1 A1 B1 v1 v2 v4 ((gd h).1) ((ih _ _ _ _ _ _ _).2.2.2.2.2.2.1 (gd h).2)
    · rw [lp_L_law_74] at h
      exact wp_L_law_74 H sl sv F1 G1 A1 B1 v1 v2 v4 ((gd h).1) ((ih _ _ _ _ _ _ _).2.2.2.2.2.2.2.1 (gd h).2)
    · rw [lp_L_law_87] at h
      exact wp_L_law_87 H sl sv F1 G1 A1 B1 v1 v2 v4 ((gd h).1) ((ih _ _ _ _ _ _ _).2.2.2.2.2.2.2.2.1 (gd h).2)
    · rw [lp_L_law_95] at h
      exact wp_L_law_95 H sl sv F1 G1 A1 B1 v1 v2 v4 ((gd h).1) ((ih _ _ _ _ _ _ _).2.2.2.2.2.2.2.2.2.1 (gd h).2)
    · rw [lp_L_law_104] at h
      exact wp_L_law_104 H sl sv F1 G1 A1 B1 v1 v2 v4 ((gd h).1) ((ih _ _ _ _ _ _ _).2.2.2.2.2.2.2.2.2.2.1 (gd h).2)
    · rw [lp_L_law_113] at h
      exact wp_L_law_113 H sl sv F1 G1 A1 B1 v1 v2 v4 ((gd h).1) ((ih _ _ _ _ _ _ _).2.2.2.2.2.2.2.2.2.2.2.1 (gd h).2)
    · rw [lp_L_law_123] at h
      exact wp_L_law_123 H sl sv F1 G1 A1 B1 v1 v2 v4 ((gd h).1) (fun q2 => (ih _ _ _ _ _ _ _).2.2.2.2.2.2.2.2.2.2.2.2.1 (ifp q2 (gd h).2)) (fun q2 => (rt_law (Option.some.inj (ifn q2 (gd h).2))))
    · rw [lp_L_law_136] at h
      exact wp_L_law_136 H sl sv F1 G1 A1 B1 v1 v2 v4 ((gd h).1) (fun q2 => (ih _ _ _ _ _ _ _).2.2.2.2.2.2.2.2.2.2.2.2.2.1 (ifp q2 (gd h).2)) (fun q2 => (rt_law (Option.some.inj (ifn q2 (gd h).2))))
    · rw [lp_L_law_152] at h
      exact wp_L_law_152 H sl sv F1 G1 A1 B1 v1 v2 v4 ((gd h).1) (fun q2 => (ih _ _ _ _ _ _ _).2.2.2.2.2.2.2.2.2.2.2.2.2.2.1 (ifp q2 (gd h).2)) (fun q2 => (rt_law (Option.some.inj (ifn q2 (gd h).2))))
    · rw [lp_L_law_163] at h
      exact wp_L_law_163 H sl sv F1 G1 A1 B1 v1 v2 v4 ((gd h).1) (fun q2 => (ih _ _ _ _ _ _ _).2.2.2.2.2.2.2.2.2.2.2.2.2.2.2.1 (ifp q2 (gd h).2)) (fun q2 => (rt_law (Option.some.inj (ifn q2 (gd h).2))))
    · rw [lp_L_law_173] at h
      exact wp_L_law_173 H sl sv F1 G1 A1 B1 v1 v2 v4 ((gd h).1) (fun q2 => (ih _ _ _ _ _ _ _).2.2.2.2.2.2.2.2.2.2.2.2.2.2.2.2 (ifp q2 (gd h).2)) (fun q2 => (rt_law (Option.some.inj (ifn q2 (gd h).2))))
    · rw [lp_L_law_185] at h
      exact wp_L_law_185 H sl sv F1 G1 A1 B1 v1 v2 v4 (fun q3 q4 q5 => (gd (ifp q5 (ifp q4 (ifp q3 h)))).1) (fun q3 q4 q5 q7 => (gd (ifp q7 (gd (ifp q5 (ifp q4 (ifp q3 h)))).2)).1) (fun q3 q4 q5 q7 q9 => (gd (ifp q9 (gd (ifp q7 (gd (ifp q5 (ifp q4 (ifp q3 h)))).2)).2)).1) (fun q3 q4 q5 q7 q9 q11 => (gd (ifp q11 (gd (ifp q9 (gd (ifp q7 (gd (ifp q5 (ifp q4 (ifp q3 h)))).2)).2)).2)).1) (fun q3 q4 q5 q7 q9 q11 q13 => (gd (ifp q13 (gd (ifp q11 (gd (ifp q9 (gd (ifp q7 (gd (ifp q5 (ifp q4 (ifp q3 h)))).2)).2)).2)).2)).1) (fun q3 q4 q5 q7 q9 q11 q13 q15 => (gd (ifp q15 (gd (ifp q13 (gd (ifp q11 (gd (ifp q9 (gd (ifp q7 (gd (ifp q5 (ifp q4 (ifp q3 h)))).2)).2)).2)).2)).2)).1) (fun q3 q4 q5 q7 q9 q11 q13 q15 q17 => (gd (ifp q17 (gd (ifp q15 (gd (ifp q13 (gd (ifp q11 (gd (ifp q9 (gd (ifp q7 (gd (ifp q5 (ifp q4 (ifp q3 h)))).2)).2)).2)).2)).2)).2)).1) (fun q3 q4 q5 q7 q9 q11 q13 q15 q17 q19 => (gd (ifp q19 (gd (ifp q17 (gd (ifp q15 (gd (ifp q13 (gd (ifp q11 (gd (ifp q9 (gd (ifp q7 (gd (ifp q5 (ifp q4 (ifp q3 h)))).2)).2)).2)).2)).2)).2)).2)).1) (fun q3 q4 q5 q7 q9 q11 q13 q15 q17 q19 q21 q22 q23 q24 => (rt_law (Option.some.inj (ifp q24 (ifp q23 (ifp q22 (ifp q21 (gd (ifp q19 (gd (ifp q17 (gd (ifp q15 (gd (ifp q13 (gd (ifp q11 (gd (ifp q9 (gd (ifp q7 (gd (ifp q5 (ifp q4 (ifp q3 h)))).2)).2)).2)).2)).2)).2)).2)).2))))))) (fun q3 q4 q5 q7 q9 q11 q13 q15 q17 q19 q21 q22 q23 q24 => (rt_law (Option.some.inj (ifn q24 (ifp q23 (ifp q22 (ifp q21 (gd (ifp q19 (gd (ifp q17 (gd (ifp q15 (gd (ifp q13 (gd (ifp q11 (gd (ifp q9 (gd (ifp q7 (gd (ifp q5 (ifp q4 (ifp q3 h)))).2)).2)).2)).2)).2)).2)).2)).2))))))) (fun q3 q4 q5 q7 q9 q11 q13 q15 q17 q19 q21 q22 q23 => (rt_law (Option.some.inj (ifn q23 (ifp q22 (ifp q21 (gd (ifp q19 (gd (ifp q17 (gd (ifp q15 (gd (ifp q13 (gd (ifp q11 (gd (ifp q9 (gd (ifp q7 (gd (ifp q5 (ifp q4 (ifp q3 h)))).2)).2)).2)).2)).2)).2)).2)).2)))))) (fun q3 q4 q5 q7 q9 q11 q13 q15 q17 q19 q21 q22 => (rt_law (Option.some.inj (ifn q22 (ifp q21 (gd (ifp q19 (gd (ifp q17 (gd (ifp q15 (gd (ifp q13 (gd (ifp q11 (gd (ifp q9 (gd (ifp q7 (gd (ifp q5 (ifp q4 (ifp q3 h)))).2)).2)).2)).2)).2)).2)).2)).2))))) (fun q3 q4 q5 q7 q9 q11 q13 q15 q17 q19 q21 => (rt_law (Option.some.inj (ifn q21 (gd (ifp q19 (gd (ifp q17 (gd (ifp q15 (gd (ifp q13 (gd (ifp q11 (gd (ifp q9 (gd (ifp q7 (gd (ifp q5 (ifp q4 (ifp q3 h)))).2)).2)).2)).2)).2)).2)).2)).2)))) (fun q3 q4 q5 q7 q9 q11 q13 q15 q17 q19 => (rt_law (Option.some.inj (ifn q19 (gd (ifp q17 (gd (ifp q15 (gd (ifp q13 (gd (ifp q11 (gd (ifp q9 (gd (ifp q7 (gd (ifp q5 (ifp q4 (ifp q3 h)))).2)).2)).2)).2)).2)).2)).2)))) (fun q3 q4 q5 q7 q9 q11 q13 q15 q17 => (rt_law (Option.some.inj (ifn q17 (gd (ifp q15 (gd (ifp q13 (gd (ifp q11 (gd (ifp q9 (gd (ifp q7 (gd (ifp q5 (ifp q4 (ifp q3 h)))).2)).2)).2)).2)).2)).2)))) (fun q3 q4 q5 q7 q9 q11 q13 q15 => (rt_law (Option.some.inj (ifn q15 (gd (ifp q13 (gd (ifp q11 (gd (ifp q9 (gd (ifp q7 (gd (ifp q5 (ifp q4 (ifp q3 h)))).2)).2)).2)).2)).2)))) (fun q3 q4 q5 q7 q9 q11 q13 => (rt_law (Option.some.inj (ifn q13 (gd (ifp q11 (gd (ifp q9 (gd (ifp q7 (gd (ifp q5 (ifp q4 (ifp q3 h)))).2)).2)).2)).2)))) (fun q3 q4 q5 q7 q9 q11 => (rt_law (Option.some.inj (ifn q11 (gd (ifp q9 (gd (ifp q7 (gd (ifp q5 (ifp q4 (ifp q3 h)))).2)).2)).2)))) (fun q3 q4 q5 q7 q9 => (rt_law (Option.some.inj (ifn q9 (gd (ifp q7 (gd (ifp q5 (ifp q4 (ifp q3 h)))).2)).2)))) (fun q3 q4 q5 q7 => (rt_law (Option.some.inj (ifn q7 (gd (ifp q5 (ifp q4 (ifp q3 h)))).2)))) (fun q3 q4 q5 => (rt_law (Option.some.inj (ifn q5 (ifp q4 (ifp q3 h)))))) (fun q3 q4 => (rt_law (Option.some.inj (ifn q4 (ifp q3 h))))) (fun q3 => (rt_law (Option.some.inj (ifn q3 h))))
def en_L_law (p1 : Int32) (p2 : Int32) (p3 : Int32) : Option (Int32) := lp_L_law 1000 12 p1 p2 p3 0 (F_init (64 : Int32) (8 : Int32)) (fun _ _ => 0)
theorem een_L_law (p1 : Int32) (p2 : Int32) (p3 : Int32) : en_L_law   p1 p2 p3 = lp_L_law 1000 12 p1 p2 p3 0 (F_init (64 : Int32) (8 : Int32)) (fun _ _ => 0) := Eq.trans rfl rfl
set_option maxRecDepth 65536 in
set_option maxHeartbeats 4000000 in
theorem run_law {l : Launch} {Z : State} {a0 : Array Value} (H : OK Z a0) (sl : Int32) (sv : Int32 → Int32) (p1 : Int32) (p2 : Int32) (p3 : Int32) (h : en_L_law  p1 p2 p3 = some 1) : Wk l Z (MoL Z cdC "RebaseLoaderL3" false) md_L_law 0 [.val (.int p1), .val (.int p2), .val (.int p3), .unset, .unset, .unset, .unset, .unset] [] (sl, sv, []) 0 0 (fun v _ => v = some (.int (1 : Int32))) := by
  rw [een_L_law] at h
  exact wp_L_law H sl sv p1 p2 p3 ((lpw_L_law H sl sv _ _ _ _ _ _ _ _ _ _).1 h)
theorem ifS {α β : Type} {x : α} {a b : β} : (if (some x).isSome = true then a else b) = a := if_pos rfl
theorem r_of {α : Type} {R : α} {o : Option α} {d r : α} (e : R = o.getD d) (h : o = some r) : R = r := e.trans (getD_some h)
/-! bits -/
theorem i_eq {x y : Int32} (h : x.toBitVec.toNat = y.toBitVec.toNat) : x = y := Int32.toBitVec_inj.mp (BitVec.eq_of_toNat_eq h)
theorem ush_nat (x y : Int32) (k : Nat) (hy : (y &&& 31).toBitVec.toNat = k) (hk : k < 32) : (XT.ushr x y).toBitVec.toNat = x.toBitVec.toNat / 2 ^ k := by
  have h1 : (XT.ushr x y).toBitVec = x.toBitVec >>> k := by
    show x.toBitVec >>> ((y &&& 31).toBitVec % 32#32) = _
    rw [BitVec.ushiftRight_eq', BitVec.toNat_umod, hy]
    show x.toBitVec >>> (k % 32) = _
    rw [Nat.mod_eq_of_lt hk]
  rw [h1, BitVec.toNat_ushiftRight, Nat.shiftRight_eq_div_pow]
theorem and_nat (x m : Int32) (k : Nat) (hm : m.toBitVec.toNat = 2 ^ k - 1) : (x &&& m).toBitVec.toNat = x.toBitVec.toNat % 2 ^ k := by
  show (x.toBitVec &&& m.toBitVec).toNat = _
  rw [BitVec.toNat_and, hm, Nat.and_two_pow_sub_one_eq_mod]
theorem or_nat (C y : Int32) (c : Nat) (hc : C.toBitVec.toNat = c * 65536) : (C ||| (y &&& 65535)).toBitVec.toNat = c * 65536 + y.toBitVec.toNat % 65536 := by
  show (C.toBitVec ||| (y &&& 65535).toBitVec).toNat = _
  rw [BitVec.toNat_or, and_nat y 65535 16 (by decide), hc]
  have h := Nat.shiftLeft_add_eq_or_of_lt (i := 16) (b := y.toBitVec.toNat % 2 ^ 16) (Nat.mod_lt _ (by decide)) c
  rw [Nat.shiftLeft_eq] at h
  exact h.symm
theorem f28 (C y : Int32) (c k : Nat) (hc : C.toBitVec.toNat = c * 65536) (hk : c / 4096 = k) (K : Int32) (hK : K.toBitVec.toNat = k) : XT.ushr (C ||| (y &&& 65535)) 28 = K := by
  apply i_eq
  rw [ush_nat _ 28 28 (by decide) (by decide), or_nat C y c hc, hK]
  omega
theorem f24 (C y : Int32) (c k : Nat) (hc : C.toBitVec.toNat = c * 65536) (hk : c / 256 % 8 = k) (K : Int32) (hK : K.toBitVec.toNat = k) : XT.ushr (C ||| (y &&& 65535)) 24 &&& 7 = K := by
  apply i_eq
  rw [and_nat _ 7 3 (by decide), ush_nat _ 24 24 (by decide) (by decide), or_nat C y c hc, hK]
  omega
theorem f20 (C y : Int32) (c k : Nat) (hc : C.toBitVec.toNat = c * 65536) (hk : c / 16 % 8 = k) (K : Int32) (hK : K.toBitVec.toNat = k) : XT.ushr (C ||| (y &&& 65535)) 20 &&& 7 = K := by
  apply i_eq
  rw [and_nat _ 7 3 (by decide), ush_nat _ 20 20 (by decide) (by decide), or_nat C y c hc, hK]
  omega
theorem f16 (C y : Int32) (c : Nat) (hc : C.toBitVec.toNat = c * 65536) : (C ||| (y &&& 65535)) &&& 65535 = y &&& 65535 := by
  apply i_eq
  rw [and_nat _ 65535 16 (by decide), or_nat C y c hc, and_nat y 65535 16 (by decide)]
  omega
theorem shl16 (x : Int32) : (x <<< ((16 : Int32) &&& 31)).toBitVec.toNat = x.toBitVec.toNat * 65536 % 4294967296 := by
  have e : ((16 : Int32) &&& 31) = 16 := by decide
  rw [e]
  show (x.toBitVec <<< ((16 : Int32).toBitVec.smod 32#32)).toNat = _
  have e2 : (16 : Int32).toBitVec.smod 32#32 = 16#32 := by decide
  rw [e2, BitVec.shiftLeft_eq', BitVec.toNat_shiftLeft, Nat.shiftLeft_eq]
  rfl
theorem add_nat (x y : Int32) : (x + y).toBitVec.toNat = (x.toBitVec.toNat + y.toBitVec.toNat) % 4294967296 := by
  show (x.toBitVec + y.toBitVec).toNat = _
  rw [BitVec.toNat_add]
theorem sub_nat (x y : Int32) : (x - y).toBitVec.toNat = (4294967296 - y.toBitVec.toNat + x.toBitVec.toNat) % 4294967296 := by
  show (x.toBitVec - y.toBitVec).toNat = _
  rw [BitVec.toNat_sub]
/-- the high half, rounded, and the low half with its sign give the word again -/
theorem hilo (v : Int32) : ((XT.ushr (v + 32768) 16 &&& 65535) <<< ((16 : Int32) &&& 31)) + f_sext (v &&& 65535) = v := by
  have hv := v.toBitVec.isLt
  have n1 : (v &&& 65535).toBitVec.toNat = v.toBitVec.toNat % 65536 := and_nat v 65535 16 (by decide)
  have lt : (v &&& 65535 < 32768) ↔ v.toBitVec.toNat % 65536 < 32768 := by
    have h := toNat_toInt (v &&& 65535)
    rw [n1] at h
    have b := Int32.toInt_lt (v &&& 65535)
    have b2 := Int32.le_toInt (v &&& 65535)
    rw [lt_i, show (32768 : Int32).toInt = 32768 by decide]
    omega
  apply i_eq
  rw [add_nat, shl16, and_nat _ 65535 16 (by decide), ush_nat _ 16 16 (by decide) (by decide), add_nat, e_sext]
  have z : (32768 : Int32).toBitVec.toNat = 32768 := by decide
  have z2 : (65536 : Int32).toBitVec.toNat = 65536 := by decide
  by_cases c : v &&& 65535 < 32768
  · have c' := lt.mp c
    rw [if_pos c, n1, z]
    omega
  · have c' : ¬ v.toBitVec.toNat % 65536 < 32768 := fun q => c (lt.mpr q)
    rw [if_neg c, sub_nat, n1, z, z2]
    omega
theorem base16 (b : Int32) : (b <<< ((4 : Int32) &&& 31)) &&& 15 = 0 := by
  apply i_eq
  rw [and_nat _ 15 4 (by decide)]
  have e : ((4 : Int32) &&& 31) = 4 := by decide
  rw [e]
  have h : (b <<< (4 : Int32)).toBitVec.toNat = b.toBitVec.toNat * 16 % 4294967296 := by
    show (b.toBitVec <<< ((4 : Int32).toBitVec.smod 32#32)).toNat = _
    have e2 : (4 : Int32).toBitVec.smod 32#32 = 4#32 := by decide
    rw [e2, BitVec.shiftLeft_eq', BitVec.toNat_shiftLeft, Nat.shiftLeft_eq]
    rfl
  rw [h]
  have z : (0 : Int32).toBitVec.toNat = 0 := by decide
  rw [z]; omega
/-! the image -/
theorem cwz (A : Nat → Int32 → Int32) (h2 : ∀ x, A 2 x = 0) (h3 : ∀ x, A 3 x = 0) (h4 : ∀ x, A 4 x = 0) (t : Int32) : ∀ (n : Nat) (i : Int32), ¬ i < 0 → (64 - i.toInt).toNat < n → lp_clearWords n 2 t i A = some (0, A) := by
  have z64 : (64 : Int32).toInt = 64 := by decide
  have z0 : (0 : Int32).toInt = 0 := by decide
  intro n
  induction n with
  | zero => intro i h0 hn; omega
  | succ n ih =>
    intro i h0 hn
    rw [lp_clearWords_2]
    by_cases a : i < t
    · rw [if_pos a]
      by_cases b : i < 64
      · have e : ups (ups (ups A 2 (ups (A 2) i 0)) 3 (ups (A 3) i 0)) 4 (ups (A 4) i 0) = A := by
          have u2 : ups (A 2) i 0 = A 2 := by have := ups_self (A 2) i; rw [h2 i] at this; exact this
          have u3 : ups (A 3) i 0 = A 3 := by have := ups_self (A 3) i; rw [h3 i] at this; exact this
          have u4 : ups (A 4) i 0 = A 4 := by have := ups_self (A 4) i; rw [h4 i] at this; exact this
          rw [u2, ups_self, u3, ups_self, u4, ups_self]
        rw [if_pos b, if_neg h0, e]
        have q := lt_i.mp b
        rw [z64] at q
        refine ih (i + 1) ?_ (by rw [succ_toInt b]; omega)
        rw [lt_i, succ_toInt b]; rw [lt_i] at h0
        omega
      · rw [if_neg b]
    · rw [if_neg a]
theorem vpos (F : Nat → Int32) (A : Nat → Int32 → Int32) (p sec z : Int32) (f2 : F 2 = 2) (p0 : ¬ p < 0) (hs : p >>> ((8 : Int32) &&& 31) = sec) (s0 : ¬ sec < 0) (s2 : sec < 2) (a1 : A 1 sec = z) (hz : (p &&& 255) < z) : en_validPos F A p = some 1 := by
  rw [een_validPos, if_neg p0, f2, hs, if_pos s2, if_pos ⟨s0, by grind⟩, a1, if_pos hz]; exact congrArg some nar1
theorem offs (A : Nat → Int32 → Int32) (p sec st off : Int32) (hs : p >>> ((8 : Int32) &&& 31) = sec) (s0 : ¬ sec < 0) (s2 : sec < 2) (a0 : A 0 sec = st) (ho : st + (p &&& 255) = off) : en_offsetOf A p = some off := by
  rw [een_offsetOf, hs, if_pos ⟨s0, by grind⟩, a0, ho]
theorem setW (F : Nat → Int32) (A : Nat → Int32 → Int32) (p v off : Int32) (f5 : F 5 = 0) (ev : en_validPos F A p = some 1) (eo : en_offsetOf A p = some off) (o0 : ¬ off < 0) (o1 : off < 64) : en_setWord F A p v = some (0, ups A 2 (ups (A 2) off v)) := by
  rw [een_setWord, if_pos f5, ev, r_of (eR_validPos _ _ _) ev, ifS, if_neg (by decide), eo, r_of (eR_offsetOf _ _) eo, if_pos ⟨rfl, o0, o1⟩]
def Im (F : Nat → Int32) (A : Nat → Int32 → Int32) : Prop := F 2 = 2 ∧ F 5 = 0 ∧ A 0 0 = 0 ∧ A 0 1 = 16 ∧ A 1 0 = 8 ∧ A 1 1 = 2
theorem vp0 {F : Nat → Int32} {A : Nat → Int32 → Int32} (h : Im F A) (p : Int32) (hp : p = 0 ∨ p = 1 ∨ p = 2 ∨ p = 3 ∨ p = 4 ∨ p = 5 ∨ p = 6) : en_validPos F A p = some 1 ∧ en_offsetOf A p = some p := by
  obtain ⟨f2, f5, a00, a01, a10, a11⟩ := h
  rcases hp with rfl | rfl | rfl | rfl | rfl | rfl | rfl <;> exact ⟨vpos F A _ 0 8 f2 (by decide) (by decide) (by decide) (by decide) a10 (by decide), offs A _ 0 0 _ (by decide) (by decide) (by decide) a00 (by decide)⟩
theorem vp1 {F : Nat → Int32} {A : Nat → Int32 → Int32} (h : Im F A) : (en_validPos F A 256 = some 1 ∧ en_offsetOf A 256 = some 16) ∧ (en_validPos F A 257 = some 1 ∧ en_offsetOf A 257 = some 17) := by
  obtain ⟨f2, f5, a00, a01, a10, a11⟩ := h
  exact ⟨⟨vpos F A _ 1 2 f2 (by decide) (by decide) (by decide) (by decide) a11 (by decide), offs A _ 1 16 _ (by decide) (by decide) (by decide) a01 (by decide)⟩, ⟨vpos F A _ 1 2 f2 (by decide) (by decide) (by decide) (by decide) a11 (by decide), offs A _ 1 16 _ (by decide) (by decide) (by decide) a01 (by decide)⟩⟩
theorem Im.w {F : Nat → Int32} {A : Nat → Int32 → Int32} (h : Im F A) (f : Int32 → Int32) : Im F (ups A 2 f) := by
  obtain ⟨f2, f5, a00, a01, a10, a11⟩ := h
  exact ⟨f2, f5, by rw [ups_ne _ _ (by decide), a00], by rw [ups_ne _ _ (by decide), a01], by rw [ups_ne _ _ (by decide), a10], by rw [ups_ne _ _ (by decide), a11]⟩
/-- the words are set -/
theorem words (F : Nat → Int32) (A : Nat → Int32 → Int32) (x s b4 : Int32) (n : Nat) (h : Im F A) : ∃ A', lp_L_law (n + 9) 42 0 x s b4 F A = lp_L_law n 123 0 x s b4 F A' ∧ Im F A' ∧ A' 2 0 = 285212672 ∧ A' 2 1 = 554696704 ∧ A' 2 2 = 1108344832 ∧ A' 2 3 = 1125122049 ∧ A' 2 4 = ((1946157056 : Int32) ||| (s &&& (65535 : Int32))) ∧ A' 2 5 = 1392508928 ∧ A' 2 7 = A 2 7 ∧ A' 2 16 = x ∧ A' 2 17 = 7 ∧ ∀ j, j ≠ 2 → A' j = A j := by
  have w0 := setW F A 0 285212672 0 h.2.1 (vp0 h 0 (by decide)).1 (vp0 h 0 (by decide)).2 (by decide) (by decide)
  generalize hA1 : ups A 2 (ups (A 2) 0 285212672) = A1 at w0
  have h1 : Im F A1 := hA1 ▸ h.w _
  have w1 := setW F A1 1 554696704 1 h1.2.1 (vp0 h1 1 (by decide)).1 (vp0 h1 1 (by decide)).2 (by decide) (by decide)
  generalize hA2 : ups A1 2 (ups (A1 2) 1 554696704) = A2 at w1
  have h2 : Im F A2 := hA2 ▸ h1.w _
  have w2 := setW F A2 2 1108344832 2 h2.2.1 (vp0 h2 2 (by decide)).1 (vp0 h2 2 (by decide)).2 (by decide) (by decide)
  generalize hA3 : ups A2 2 (ups (A2 2) 2 1108344832) = A3 at w2
  have h3 : Im F A3 := hA3 ▸ h2.w _
  have w3 := setW F A3 3 1125122049 3 h3.2.1 (vp0 h3 3 (by decide)).1 (vp0 h3 3 (by decide)).2 (by decide) (by decide)
  generalize hA4 : ups A3 2 (ups (A3 2) 3 1125122049) = A4 at w3
  have h4 : Im F A4 := hA4 ▸ h3.w _
  have w4 := setW F A4 4 ((1946157056 : Int32) ||| (s &&& (65535 : Int32))) 4 h4.2.1 (vp0 h4 4 (by decide)).1 (vp0 h4 4 (by decide)).2 (by decide) (by decide)
  generalize hA5 : ups A4 2 (ups (A4 2) 4 ((1946157056 : Int32) ||| (s &&& (65535 : Int32)))) = A5 at w4
  have h5 : Im F A5 := hA5 ▸ h4.w _
  have w5 := setW F A5 5 1392508928 5 h5.2.1 (vp0 h5 5 (by decide)).1 (vp0 h5 5 (by decide)).2 (by decide) (by decide)
  generalize hA6 : ups A5 2 (ups (A5 2) 5 1392508928) = A6 at w5
  have h6 : Im F A6 := hA6 ▸ h5.w _
  have w6 := setW F A6 6 (-268435456) 6 h6.2.1 (vp0 h6 6 (by decide)).1 (vp0 h6 6 (by decide)).2 (by decide) (by decide)
  generalize hA7 : ups A6 2 (ups (A6 2) 6 (-268435456)) = A7 at w6
  have h7 : Im F A7 := hA7 ▸ h6.w _
  have w7 := setW F A7 256 x 16 h7.2.1 (vp1 h7).1.1 (vp1 h7).1.2 (by decide) (by decide)
  generalize hA8 : ups A7 2 (ups (A7 2) 16 x) = A8 at w7
  have h8 : Im F A8 := hA8 ▸ h7.w _
  have w8 := setW F A8 257 7 17 h8.2.1 (vp1 h8).2.1 (vp1 h8).2.2 (by decide) (by decide)
  generalize hA9 : ups A8 2 (ups (A8 2) 17 7) = A9 at w8
  have h9 : Im F A9 := hA9 ▸ h8.w _
  refine ⟨A9, ?_, h9, ?_, ?_, ?_, ?_, ?_, ?_, ?_, ?_, ?_, fun j hj => ?_⟩
  · rw [show n + 9 = (n + 8) + 1 from rfl, lp_L_law_42, w0, r_of (eR_setWord _ _ _ _) w0, ifS]
    dsimp only
    rw [show n + 8 = (n + 7) + 1 from rfl, lp_L_law_50, w1, r_of (eR_setWord _ _ _ _) w1, ifS]
    dsimp only
    rw [show n + 7 = (n + 6) + 1 from rfl, lp_L_law_58, w2, r_of (eR_setWord _ _ _ _) w2, ifS]
    dsimp only
    rw [show n + 6 = (n + 5) + 1 from rfl, lp_L_law_66, w3, r_of (eR_setWord _ _ _ _) w3, ifS]
    dsimp only
    rw [show n + 5 = (n + 4) + 1 from rfl, lp_L_law_74, w4, r_of (eR_setWord _ _ _ _) w4, ifS]
    dsimp only
    rw [show n + 4 = (n + 3) + 1 from rfl, lp_L_law_87, w5, r_of (eR_setWord _ _ _ _) w5, ifS]
    dsimp only
    rw [show n + 3 = (n + 2) + 1 from rfl, lp_L_law_95, w6, r_of (eR_setWord _ _ _ _) w6, ifS]
    dsimp only
    rw [show n + 2 = (n + 1) + 1 from rfl, lp_L_law_104, w7, r_of (eR_setWord _ _ _ _) w7, ifS]
    dsimp only
    rw [lp_L_law_113, w8, r_of (eR_setWord _ _ _ _) w8, ifS]
  all_goals (rw [← hA9, ← hA8, ← hA7, ← hA6, ← hA5, ← hA4, ← hA3, ← hA2, ← hA1]; simp [ups, *])
theorem addS1 (F : Nat → Int32) (f0 : F 0 = 64) (f2 : F 2 = 0) (f3 : F 3 = 0) (f5 : F 5 = 0) : en_addSection F (fun _ _ => 0) 8 1 = some (0, ups (ups F 2 1) 3 8, ups (ups (fun _ _ => 0) 0 (ups (fun _ => 0) 0 0)) 1 (ups (fun _ => 0) 0 8)) := by
  have ec : en_clearWords (ups (ups (fun _ _ => 0) 0 (ups (fun _ => 0) 0 0)) 1 (ups (fun _ => 0) 0 8)) 0 8 = some (0, ups (ups (fun _ _ => 0) 0 (ups (fun _ => 0) 0 0)) 1 (ups (fun _ => 0) 0 8)) := by
    rw [een_clearWords]; exact cwz _ (by intro x; simp [ups]) (by intro x; simp [ups]) (by intro x; simp [ups]) 8 1000 0 (by decide) (by decide)
  have va : f_validAlign 1 = 1 := by rw [e_validAlign, if_pos rfl]; exact nar1
  have e1 : ((((0 : Int32) + 1) - (1 : Int32)) &&& (((1 : Int32) - (1 : Int32)) ^^^ (-1 : Int32))) = 0 := by decide
  rw [een_addSection, if_pos f5, f2, if_pos (by decide), if_neg (by decide), va, if_neg (by decide), f3, e1, f0, if_neg (by decide)]
  show (if (¬ (0 : Int32) < 0) ∧ ((en_clearWords (ups (ups (fun _ _ => 0) 0 (ups (fun _ => 0) 0 0)) 1 (ups (fun _ => 0) 0 8)) 0 8).isSome = true) then some ((0 : Int32), ups (ups F 2 1) 3 8, (R_clearWords (ups (ups (fun _ _ => 0) 0 (ups (fun _ => 0) 0 0)) 1 (ups (fun _ => 0) 0 8)) 0 8).2) else none) = _
  rw [ec, r_of (eR_clearWords _ _ _) ec, if_pos ⟨by decide, rfl⟩]
theorem addS2 (F : Nat → Int32) (A : Nat → Int32 → Int32) (f0 : F 0 = 64) (f2 : F 2 = 1) (f3 : F 3 = 8) (f5 : F 5 = 0) (h2 : ∀ x, A 2 x = 0) (h3 : ∀ x, A 3 x = 0) (h4 : ∀ x, A 4 x = 0) : en_addSection F A 2 16 = some (1, ups (ups F 2 2) 3 18, ups (ups A 0 (ups (A 0) 1 16)) 1 (ups (A 1) 1 2)) := by
  have ec : en_clearWords (ups (ups A 0 (ups (A 0) 1 16)) 1 (ups (A 1) 1 2)) 8 18 = some (0, ups (ups A 0 (ups (A 0) 1 16)) 1 (ups (A 1) 1 2)) := by
    rw [een_clearWords]; exact cwz _ (by intro x; simp [ups, h2]) (by intro x; simp [ups, h3]) (by intro x; simp [ups, h4]) 18 1000 8 (by decide) (by decide)
  have va : f_validAlign 16 = 1 := by rw [e_validAlign, if_neg (by decide), if_neg (by decide), if_neg (by decide), if_neg (by decide), if_pos rfl]; exact nar1
  have e1 : ((((8 : Int32) + 16) - (1 : Int32)) &&& (((16 : Int32) - (1 : Int32)) ^^^ (-1 : Int32))) = 16 := by decide
  rw [een_addSection, if_pos f5, f2, if_pos (by decide), if_neg (by decide), va, if_neg (by decide), f3, e1, f0, if_neg (by decide)]
  show (if (¬ (1 : Int32) < 0) ∧ ((en_clearWords (ups (ups A 0 (ups (A 0) 1 16)) 1 (ups (A 1) 1 2)) 8 18).isSome = true) then some ((1 : Int32), ups (ups F 2 2) 3 18, (R_clearWords (ups (ups A 0 (ups (A 0) 1 16)) 1 (ups (A 1) 1 2)) 8 18).2) else none) = _
  rw [ec, r_of (eR_clearWords _ _ _) ec, if_pos ⟨by decide, rfl⟩]
theorem rel1 (F : Nat → Int32) (A : Nat → Int32 → Int32) (h : Im F A) (f1 : F 1 = 8) (f4 : F 4 = 0) (h4 : ∀ x, A 4 x = 0) : ∃ A', en_addReloc F A 4 0 1 1 = some (0, ups F 4 1, A') ∧ A' 5 0 = 4 ∧ A' 6 0 = 0 ∧ A' 7 0 = 1 ∧ A' 8 0 = 1 ∧ A' 4 17 = 0 ∧ ∀ j, j ≠ 4 → j ≠ 5 → j ≠ 6 → j ≠ 7 → j ≠ 8 → A' j = A j := by
  obtain ⟨v0, o0⟩ := vp0 h 0 (by decide)
  obtain ⟨v1, o1⟩ := vp0 h 1 (by decide)
  have rv0 := r_of (eR_validPos _ _ _) v0
  have rv1 := r_of (eR_validPos _ _ _) v1
  have ro0 := r_of (eR_offsetOf _ _) o0
  have ro1 := r_of (eR_offsetOf _ _) o1
  have vt : f_validTarget F 1 = 1 := by rw [e_validTarget, if_neg (by decide), if_neg (by decide), h.1, if_pos (by decide)]; exact nar1
  apply Exists.intro
  have es : en_storeRecord F A 4 0 1 1 = some (0, ups F 4 1, ups (ups (ups (ups (ups (ups A 5 (ups (A 5) 0 4)) 6 (ups (A 6) 0 0)) 7 (ups (A 7) 0 1)) 8 (ups (A 8) 0 1)) 4 (ups (A 4) 0 1)) 4 (ups (ups (A 4) 0 1) 1 1)) := by
    rw [een_storeRecord, f4, if_pos (by decide), if_pos rfl, if_neg (by decide), if_pos (by decide)]; rfl
  have rs := r_of (eR_storeRecord _ _ _ _ _ _) es
  refine ⟨?_, ?_, ?_, ?_, ?_, ?_, fun j q4 q5 q6 q7 q8 => ?_⟩
  · rw [een_addReloc, if_pos h.2.1, f4, f1, if_pos (by decide), if_neg (by decide), if_neg (by decide), v0, rv0, ifS, if_neg (by decide), vt, if_neg (by decide), if_neg (by decide), v1, rv1, ifS, if_neg (by decide), if_neg (by decide), o0, o1, ro0, ro1, if_pos ⟨rfl, fun _ => rfl, by decide, by decide⟩, h4, if_pos rfl, if_neg (by decide), if_pos (by decide)]
    rw [show (if (if (4 : Int32) = (4 : Int32) then (1 : Int32) else (0 : Int32)) = 0 then (-1 : Int32) else (1 : Int32)) = 1 by decide, h4, if_pos rfl, es, rs, ifS]
  · simp [ups]
  · simp [ups]
  · simp [ups]
  · simp [ups]
  · simp [ups, h4]
  · simp [ups, q4, q5, q6, q7, q8]
theorem rel2 (F : Nat → Int32) (A : Nat → Int32 → Int32) (h : Im F A) (f1 : F 1 = 8) (f4 : F 4 = 1) (h4 : A 4 17 = 0) : ∃ A', en_addReloc F A 1 257 0 0 = some (1, ups F 4 2, A') ∧ A' 5 1 = 1 ∧ A' 6 1 = 17 ∧ A' 7 1 = 0 ∧ A' 5 0 = A 5 0 ∧ A' 6 0 = A 6 0 ∧ A' 7 0 = A 7 0 ∧ A' 8 0 = A 8 0 ∧ ∀ j, j ≠ 4 → j ≠ 5 → j ≠ 6 → j ≠ 7 → j ≠ 8 → A' j = A j := by
  obtain ⟨v0, o0⟩ := (vp1 h).2
  have rv0 := r_of (eR_validPos _ _ _) v0
  have ro0 := r_of (eR_offsetOf _ _) o0
  have vt : f_validTarget F 0 = 1 := by rw [e_validTarget, if_neg (by decide), if_neg (by decide), h.1, if_pos (by decide)]; exact nar1
  apply Exists.intro
  have es : en_storeRecord F A 1 17 0 (-1) = some (1, ups F 4 2, ups (ups (ups (ups (ups A 5 (ups (A 5) 1 1)) 6 (ups (A 6) 1 17)) 7 (ups (A 7) 1 0)) 8 (ups (A 8) 1 (-1))) 4 (ups (A 4) 17 1)) := by
    rw [een_storeRecord, f4, if_pos (by decide), if_neg (by decide)]; rfl
  have rs := r_of (eR_storeRecord _ _ _ _ _ _) es
  refine ⟨?_, ?_, ?_, ?_, ?_, ?_, ?_, ?_, fun j q4 q5 q6 q7 q8 => ?_⟩
  · rw [een_addReloc, if_pos h.2.1, f4, f1, if_pos (by decide), if_neg (by decide), if_neg (by decide), v0, rv0, ifS, if_neg (by decide), vt, if_neg (by decide), if_pos (by decide), o0, ro0, if_pos ⟨rfl, fun q => absurd (by decide) q, by decide, by decide⟩, h4, if_pos rfl, if_pos (by decide)]
    rw [show ∀ z : Int32, (if (if (1 : Int32) = (4 : Int32) then (1 : Int32) else (0 : Int32)) = 0 then (-1 : Int32) else z) = -1 from fun z => if_pos (by decide), es, rs, ifS]
  · simp [ups]
  · simp [ups]
  · simp [ups]
  · simp [ups]
  · simp [ups]
  · simp [ups]
  · simp [ups]
  · simp [ups, q4, q5, q6, q7, q8]
theorem rst (F : Nat → Int32) (A : Nat → Int32 → Int32) (v : Int32) : ∃ A', en_resetMachine F A v = some (0, ups (ups F 7 0) 5 v, A') ∧ A' 9 0 = 0 ∧ A' 9 1 = 0 ∧ A' 9 2 = 0 ∧ A' 9 3 = 0 ∧ A' 9 4 = 0 ∧ A' 9 5 = 0 ∧ A' 9 6 = 0 ∧ A' 9 7 = 0 ∧ ∀ j, j ≠ 9 → A' j = A j := by
  apply Exists.intro
  refine ⟨?_, ?_, ?_, ?_, ?_, ?_, ?_, ?_, ?_, fun j hj => ?_⟩
  · rw [een_resetMachine]
    iterate 8 rw [lp_resetMachine_2, if_pos (by decide), if_pos (by decide)]
    rw [lp_resetMachine_2, if_neg (by decide)]
  all_goals first | (simp [ups]; done) | simp [ups, hj]
/-- the words come over -/
theorem cpy (F : Nat → Int32) (f3 : F 3 = 18) (b : Int32) (n : Nat) : ∀ (k : Nat) (i : Int32) (A : Nat → Int32 → Int32), ¬ i < 0 → i.toInt + k = 18 → ∃ A', lp_load (n + k) 22 b i F A = lp_load n 22 b 18 F A' ∧ (∀ j, j ≠ 3 → A' j = A j) ∧ (∀ x, ¬ x < i → x < 18 → A' 3 x = A 2 x) ∧ ∀ x, x < i → A' 3 x = A 3 x := by
  intro k
  have z2 : (18 : Int32).toInt = 18 := by decide
  have z0 : (0 : Int32).toInt = 0 := by decide
  have z64 : (64 : Int32).toInt = 64 := by decide
  induction k with
  | zero =>
    intro i A h0 hk
    have e : i = 18 := Int32.toInt_inj.mp (by omega)
    subst e
    exact ⟨A, rfl, fun _ _ => rfl, fun x h1 h2 => absurd h2 h1, fun _ _ => rfl⟩
  | succ k ih =>
    intro i A h0 hk
    have hi : i < 18 := lt_i.mpr (by omega)
    have es := succ_toInt hi
    have h0' : ¬ i + 1 < 0 := by
      rw [lt_i, es]; rw [lt_i] at h0
      omega
    obtain ⟨A', e1, e2, e3, e4⟩ := ih (i + 1) (ups A 3 (ups (A 3) i (A 2 i))) h0' (by omega)
    refine ⟨A', ?_, ?_, ?_, ?_⟩
    · rw [show n + (k + 1) = (n + k) + 1 from rfl, lp_load_22, f3, if_pos hi, if_pos (show i < 64 by rw [lt_i, z64]; omega), if_pos h0]; exact e1
    · intro j hj; rw [e2 j hj, ups_ne _ _ hj]
    · intro x hx h2
      by_cases c : x < i + 1
      · rw [e4 x c]
        have : x = i := Int32.toInt_inj.mp (by rw [lt_i] at hx c; omega)
        subst this
        simp [ups]
      · rw [e3 x c h2, ups_ne _ _ (by decide)]
    · intro x hx
      have c : x < i + 1 := by rw [lt_i] at hx ⊢; omega
      have ne : x ≠ i := fun q => by subst q; rw [lt_i] at hx; omega
      rw [e4 x c]; simp [ups, ne]
theorem load5 (F : Nat → Int32) (A : Nat → Int32 → Int32) (b s x : Int32) (h : Im F A) (f3 : F 3 = 18) (f4 : F 4 = 2) (hb : b &&& 15 = 0)
    (w0 : A 2 0 = 285212672) (w1 : A 2 1 = 554696704) (w2 : A 2 2 = 1108344832) (w3 : A 2 3 = 1125122049) (w4 : A 2 4 = ((1946157056 : Int32) ||| (s &&& (65535 : Int32)))) (w5 : A 2 5 = 1392508928) (w7 : A 2 7 = 0) (w16 : A 2 16 = x) (w17 : A 2 17 = 7)
    (k0 : A 5 0 = 4) (o0 : A 6 0 = 0) (t0 : A 7 0 = 1) (l0 : A 8 0 = 1) (k1 : A 5 1 = 1) (o1 : A 6 1 = 17) (t1 : A 7 1 = 0) :
    ∃ A', en_load F A b = some (0, ups (ups (ups F 6 b) 7 0) 5 1, A') ∧ A' 3 0 = ((285212672 : Int32) ||| (XT.ushr ((b + 16) + 32768) 16 &&& 65535)) ∧ A' 3 1 = ((554696704 : Int32) ||| ((b + 16) &&& 65535)) ∧ A' 3 2 = 1108344832 ∧ A' 3 3 = 1125122049 ∧ A' 3 4 = ((1946157056 : Int32) ||| (s &&& (65535 : Int32))) ∧ A' 3 5 = 1392508928 ∧ A' 3 7 = 0 ∧ A' 3 16 = x ∧ A' 3 17 = b + 7 ∧ A' 0 = A 0 ∧ A' 1 = A 1 := by
  obtain ⟨f2, f5, a00, a01, a10, a11⟩ := h
  obtain ⟨A1, e1, j1, c1, -⟩ := cpy F f3 b 982 18 0 A (by decide) (by decide)
  have C : ∀ z : Int32, ¬ z < 0 → z < 18 → A1 3 z = A 2 z := c1
  have s1 : en_symbolAddr F A1 1 b = some (b + 16) := by
    rw [een_symbolAddr, if_neg (by decide), f2, if_pos (by decide), if_pos (by decide), j1 0 (by decide), a01]
  have rs1 := r_of (eR_symbolAddr _ _ _ _) s1
  have v0 : f_imm 285212672 <<< ((16 : Int32) &&& 31) = 0 := by rw [e_imm]; decide
  have v1 : f_sext (f_imm 554696704) = 0 := by rw [e_imm, e_sext]; decide
  have m0 : ∀ y, f_setImm 285212672 y = ((285212672 : Int32) ||| (y &&& 65535)) := fun y => by rw [e_setImm, show (285212672 : Int32) &&& -65536 = 285212672 by decide]
  have m1 : ∀ y, f_setImm 554696704 y = ((554696704 : Int32) ||| (y &&& 65535)) := fun y => by rw [e_setImm, show (554696704 : Int32) &&& -65536 = 554696704 by decide]
  have c0 : A1 3 0 = 285212672 := (C 0 (by decide) (by decide)).trans w0
  have c1' : A1 3 1 = 554696704 := (C 1 (by decide) (by decide)).trans w1
  have d0 : A1 2 0 = 285212672 := by rw [j1 2 (by decide), w0]
  have d1 : A1 2 1 = 554696704 := by rw [j1 2 (by decide), w1]
  have d17 : A1 2 17 = 7 := by rw [j1 2 (by decide), w17]
  have p0 : A1 5 0 = 4 ∧ A1 6 0 = 0 ∧ A1 7 0 = 1 ∧ A1 8 0 = 1 ∧ A1 5 1 = 1 ∧ A1 6 1 = 17 ∧ A1 7 1 = 0 := ⟨by rw [j1 5 (by decide), k0], by rw [j1 6 (by decide), o0], by rw [j1 7 (by decide), t0], by rw [j1 8 (by decide), l0], by rw [j1 5 (by decide), k1], by rw [j1 6 (by decide), o1], by rw [j1 7 (by decide), t1]⟩
  obtain ⟨q1, q2, q3, q4, q5, q6, q7⟩ := p0
  have ew : en_writePair A1 0 1 (b + 16) = some (0, ups (ups A1 3 (ups (A1 3) 0 ((285212672 : Int32) ||| (XT.ushr ((b + 16) + 32768) 16 &&& 65535)))) 3 (ups (ups (A1 3) 0 ((285212672 : Int32) ||| (XT.ushr ((b + 16) + 32768) 16 &&& 65535))) 1 ((554696704 : Int32) ||| ((b + 16) &&& 65535)))) := by
    rw [een_writePair, if_pos (by decide), c0, c1', m0, m1]
  generalize hA2 : ups (ups A1 3 (ups (A1 3) 0 ((285212672 : Int32) ||| (XT.ushr ((b + 16) + 32768) 16 &&& 65535)))) 3 (ups (ups (A1 3) 0 ((285212672 : Int32) ||| (XT.ushr ((b + 16) + 32768) 16 &&& 65535))) 1 ((554696704 : Int32) ||| ((b + 16) &&& 65535))) = A2 at ew
  have jA2 : ∀ j, j ≠ 3 → A2 j = A1 j := fun j hj => by rw [← hA2]; simp [ups, hj]
  have el : en_loadPair A1 0 (b + 16) = some (0, A2) := by
    rw [een_loadPair, if_pos (by decide), q4, if_neg (by decide), if_pos (by decide), q2, d0, d1, v0, v1, Int32.add_zero, Int32.add_zero, ew, r_of (eR_writePair _ _ _ _) ew, if_pos ⟨by decide, by decide, rfl⟩]
  have ea0 : en_applyLoad F A1 0 b = some (0, A2) := by
    rw [een_applyLoad, q3, s1, q2, if_pos ⟨by decide, by decide, rfl, by decide, by decide⟩, q1, if_neg (by decide), if_neg (by decide), if_neg (by decide), rs1, el, r_of (eR_loadPair _ _ _) el, ifS]
  have s2 : en_symbolAddr F A2 0 b = some b := by
    rw [een_symbolAddr, if_neg (by decide), f2, if_pos (by decide), if_pos (by decide), jA2 0 (by decide), j1 0 (by decide), a00, Int32.add_zero]
  have rs2 := r_of (eR_symbolAddr _ _ _ _) s2
  have ea1 : en_applyLoad F A2 1 b = some (0, ups A2 3 (ups (A2 3) 17 (b + 7))) := by
    rw [een_applyLoad, jA2 7 (by decide), q7, s2, jA2 6 (by decide), q6, if_pos ⟨by decide, by decide, rfl, by decide, by decide⟩, jA2 5 (by decide), q5, if_pos rfl, if_pos (by decide), rs2, jA2 2 (by decide), d17]
  obtain ⟨A4, er, -, -, -, -, -, -, -, -, rj⟩ := rst (ups F 6 b) (ups A2 3 (ups (A2 3) 17 (b + 7))) 1
  have lb : f_legalBase b = 1 := by rw [e_legalBase, hb, if_pos rfl]; exact nar1
  refine ⟨A4, ?_, ?_, ?_, ?_, ?_, ?_, ?_, ?_, ?_, ?_, ?_, ?_⟩
  · rw [een_load, if_pos f5, lb, if_neg (by decide), show (1000 : Nat) = 982 + 18 from rfl, e1, lp_load_22, f3, if_neg (by decide), lp_load_56, f4, if_pos (by decide), if_pos (by decide), ea0, r_of (eR_applyLoad _ _ _ _) ea0, ifS]
    dsimp only
    rw [lp_load_56, f4, if_pos (by decide), if_pos (by decide), show (0 : Int32) + 1 = 1 by decide, ea1, r_of (eR_applyLoad _ _ _ _) ea1, ifS]
    dsimp only
    rw [lp_load_56, f4, if_neg (by decide), er, r_of (eR_resetMachine _ _ _) er, ifS]
  · rw [rj 3 (by decide), ups_at, ups_ne _ _ (by decide), ← hA2]; simp [ups]
  · rw [rj 3 (by decide), ups_at, ups_ne _ _ (by decide), ← hA2]; simp [ups]
  · rw [rj 3 (by decide), ups_at, ups_ne _ _ (by decide), ← hA2]; simp [ups]; exact (C 2 (by decide) (by decide)).trans w2
  · rw [rj 3 (by decide), ups_at, ups_ne _ _ (by decide), ← hA2]; simp [ups]; exact (C 3 (by decide) (by decide)).trans w3
  · rw [rj 3 (by decide), ups_at, ups_ne _ _ (by decide), ← hA2]; simp [ups]; exact (C 4 (by decide) (by decide)).trans w4
  · rw [rj 3 (by decide), ups_at, ups_ne _ _ (by decide), ← hA2]; simp [ups]; exact (C 5 (by decide) (by decide)).trans w5
  · rw [rj 3 (by decide), ups_at, ups_ne _ _ (by decide), ← hA2]; simp [ups]; exact (C 7 (by decide) (by decide)).trans w7
  · rw [rj 3 (by decide), ups_at, ups_ne _ _ (by decide), ← hA2]; simp [ups]; exact (C 16 (by decide) (by decide)).trans w16
  · rw [rj 3 (by decide), ups_at, ups_at]
  · rw [rj 0 (by decide), ups_ne _ _ (by decide), jA2 0 (by decide), j1 0 (by decide)]
  · rw [rj 1 (by decide), ups_ne _ _ (by decide), jA2 1 (by decide), j1 1 (by decide)]
theorem stp (F F' : Nat → Int32) (A A' : Nat → Int32 → Int32) (k w op a bb h s : Int32) (h0 : F 7 - F 6 = k) (k0 : ¬ k < 0) (k3 : k < F 3) (k64 : k < 64) (hw : A 3 k = w) (hop : XT.ushr w 28 = op) (ha : XT.ushr w 24 &&& 7 = a) (hb : XT.ushr w 20 &&& 7 = bb) (hh : w &&& 65535 = h) (hs : f_sext h = s) (ex : en_execute F A op a bb h s = some (0, F', A')) : en_step F A = some (0, F', A') := by
  rw [een_step, h0, if_neg k0, if_pos k3, if_pos k64, hw, hop, ha, hb, hh, hs, ex, r_of (eR_execute _ _ _ _ _ _ _) ex, ifS]
theorem rstp (F F' : Nat → Int32) (A A' : Nat → Int32 → Int32) (n : Nat) (v2 v3 : Int32) (h : v3 < v2) (f5 : F 5 = 2) (es : en_step F A = some (0, F', A')) : lp_run (n + 1) 25 v2 v3 F A = lp_run n 25 v2 (v3 + 1) F' A' := by
  rw [lp_run_25, if_pos h, if_pos f5, es, r_of (eR_step _ _) es, ifS]
def Rg (F : Nat → Int32) (A : Nat → Int32 → Int32) (C : Int32 → Int32) (b k r1 r2 r3 r4 : Int32) : Prop :=
  F 3 = 18 ∧ F 5 = 2 ∧ F 6 = b ∧ F 7 = b + k ∧ A 3 = C ∧ A 9 0 = 0 ∧ A 9 1 = r1 ∧ A 9 2 = r2 ∧ A 9 3 = r3 ∧ A 9 4 = r4 ∧ A 9 5 = 0 ∧ A 9 6 = 0 ∧ A 9 7 = 0
theorem sub_k (b k : Int32) : (b + k) - b = k := by rw [Int32.add_comm, Int32.add_sub_cancel]
theorem Rg.off {F : Nat → Int32} {A : Nat → Int32 → Int32} {C : Int32 → Int32} {b k r1 r2 r3 r4 : Int32} (h : Rg F A C b k r1 r2 r3 r4) : F 7 - F 6 = k := by
  rw [h.2.2.1, h.2.2.2.1, sub_k]
/-- a register is written and the counter goes on -/
theorem Rg.wr {F : Nat → Int32} {A : Nat → Int32 → Int32} {C : Int32 → Int32} {b k k' r1 r2 r3 r4 : Int32} (h : Rg F A C b k r1 r2 r3 r4) (hk : k + 1 = k') (a v : Int32) (ha : a = 1 ∨ a = 2 ∨ a = 3 ∨ a = 4) :
    Rg (ups F 7 (F 7 + 1)) (ups A 9 (ups (A 9) a v)) C b k' (if a = 1 then v else r1) (if a = 2 then v else r2) (if a = 3 then v else r3) (if a = 4 then v else r4) := by
  obtain ⟨f3, f5, f6, f7, c, q0, q1, q2, q3, q4, q5, q6, q7⟩ := h
  refine ⟨by simp [ups, f3], by simp [ups, f5], by simp [ups, f6], by rw [ups_at, f7, Int32.add_assoc, hk], by rw [ups_ne _ _ (by decide), c], ?_, ?_, ?_, ?_, ?_, ?_, ?_, ?_⟩ <;> rcases ha with rfl | rfl | rfl | rfl <;> simp [ups, *]
theorem sx (s : Int32) : f_sext s = (if s < 32768 then s else s - 65536) := e_sext s
theorem run7 (F : Nat → Int32) (A : Nat → Int32 → Int32) (C : Int32 → Int32) (b s x : Int32) (h : Rg F A C b 0 0 0 0 0)
    (c0 : C 0 = ((285212672 : Int32) ||| (XT.ushr ((b + 16) + 32768) 16 &&& 65535))) (c1 : C 1 = ((554696704 : Int32) ||| ((b + 16) &&& 65535))) (c2 : C 2 = 1108344832) (c3 : C 3 = 1125122049) (c4 : C 4 = ((1946157056 : Int32) ||| (s &&& (65535 : Int32)))) (c5 : C 5 = 1392508928) (c7 : C 7 = 0) (c16 : C 16 = x) (c17 : C 17 = b + 7) :
    ∃ F' A', lp_run 1000 25 20 0 F A = some (3, F', A') ∧ F' 3 = 18 ∧ F' 5 = 3 ∧ F' 6 = b ∧ F' 7 = b + 7 ∧ A' 3 = C ∧ A' 9 0 = 0 ∧ A' 9 1 = b + 16 ∧ A' 9 2 = x ∧ A' 9 3 = b + 7 ∧ A' 9 4 = (b + 4) + f_sext (s &&& 65535) ∧ A' 9 5 = 0 ∧ A' 9 6 = 0 ∧ A' 9 7 = 0 := by
  have e0 : en_execute F A 1 1 0 (XT.ushr ((b + 16) + 32768) 16 &&& 65535) (f_sext (XT.ushr ((b + 16) + 32768) 16 &&& 65535)) = some (0, ups F 7 (F 7 + 1), ups A 9 (ups (A 9) 1 ((XT.ushr ((b + 16) + 32768) 16 &&& 65535) <<< ((16 : Int32) &&& 31)))) := by
    rw [een_execute, if_neg (by decide), if_pos rfl, if_pos (by decide)]
  have s0 := stp F _ A _ 0 _ 1 1 0 _ _ h.off (by decide) (by rw [h.1]; decide) (by decide) (by rw [h.2.2.2.2.1, c0]) (f28 _ _ 4352 1 (by decide) (by decide) 1 (by decide)) (f24 _ _ 4352 1 (by decide) (by decide) 1 (by decide)) (f20 _ _ 4352 0 (by decide) (by decide) 0 (by decide)) (f16 _ _ 4352 (by decide)) rfl e0
  have h1 := h.wr (k' := 1) (by decide) 1 ((XT.ushr ((b + 16) + 32768) 16 &&& 65535) <<< ((16 : Int32) &&& 31)) (by decide)
  rw [if_pos rfl, if_neg (by decide), if_neg (by decide), if_neg (by decide)] at h1
  generalize ups F 7 (F 7 + 1) = F1 at *
  generalize ups A 9 (ups (A 9) 1 ((XT.ushr ((b + 16) + 32768) 16 &&& 65535) <<< ((16 : Int32) &&& 31))) = A1 at *
  have e1 : en_execute F1 A1 2 1 1 ((b + 16) &&& 65535) (f_sext ((b + 16) &&& 65535)) = some (0, ups F1 7 (F1 7 + 1), ups A1 9 (ups (A1 9) 1 (b + 16))) := by
    rw [een_execute, if_neg (by decide), if_neg (by decide), if_pos rfl, if_pos (by decide), h1.2.2.2.2.2.2.1, hilo]
  have s1 := stp F1 _ A1 _ 1 _ 2 1 1 _ _ h1.off (by decide) (by rw [h1.1]; decide) (by decide) (by rw [h1.2.2.2.2.1, c1]) (f28 _ _ 8464 2 (by decide) (by decide) 2 (by decide)) (f24 _ _ 8464 1 (by decide) (by decide) 1 (by decide)) (f20 _ _ 8464 1 (by decide) (by decide) 1 (by decide)) (f16 _ _ 8464 (by decide)) rfl e1
  have h2 := h1.wr (k' := 2) (by decide) 1 (b + 16) (by decide)
  rw [if_pos rfl, if_neg (by decide), if_neg (by decide), if_neg (by decide)] at h2
  generalize ups F1 7 (F1 7 + 1) = F2 at *
  generalize ups A1 9 (ups (A1 9) 1 (b + 16)) = A2 at *
  have x2 : b + 16 + 0 - b = 16 := by rw [Int32.add_zero, sub_k]
  have l2 : en_loadWord F2 A2 2 1 0 = some (0, ups F2 7 (F2 7 + 1), ups A2 9 (ups (A2 9) 2 x)) := by
    rw [een_loadWord, if_pos (by decide), h2.2.2.2.2.2.2.1, h2.2.2.1, x2, if_neg (by decide), h2.1, if_pos (by decide), if_pos (by decide), if_pos (by decide), h2.2.2.2.2.1, c16]
  have e2 : en_execute F2 A2 4 2 1 0 0 = some (0, ups F2 7 (F2 7 + 1), ups A2 9 (ups (A2 9) 2 x)) := by
    rw [een_execute, if_neg (by decide), if_neg (by decide), if_neg (by decide), if_neg (by decide), if_pos rfl, l2, r_of (eR_loadWord _ _ _ _ _) l2, ifS]
  have s2 := stp F2 _ A2 _ 2 1108344832 4 2 1 0 0 h2.off (by decide) (by rw [h2.1]; decide) (by decide) (by rw [h2.2.2.2.2.1, c2]) (by decide) (by decide) (by decide) (by decide) (by rw [e_sext]; decide) e2
  have h3 := h2.wr (k' := 3) (by decide) 2 x (by decide)
  rw [if_neg (by decide), if_pos rfl, if_neg (by decide), if_neg (by decide)] at h3
  generalize ups F2 7 (F2 7 + 1) = F3 at *
  generalize ups A2 9 (ups (A2 9) 2 x) = A3 at *
  have x3 : b + 16 + 1 - b = 17 := by rw [Int32.add_assoc, sub_k]; decide
  have l3 : en_loadWord F3 A3 3 1 1 = some (0, ups F3 7 (F3 7 + 1), ups A3 9 (ups (A3 9) 3 (b + 7))) := by
    rw [een_loadWord, if_pos (by decide), h3.2.2.2.2.2.2.1, h3.2.2.1, x3, if_neg (by decide), h3.1, if_pos (by decide), if_pos (by decide), if_pos (by decide), h3.2.2.2.2.1, c17]
  have e3 : en_execute F3 A3 4 3 1 1 1 = some (0, ups F3 7 (F3 7 + 1), ups A3 9 (ups (A3 9) 3 (b + 7))) := by
    rw [een_execute, if_neg (by decide), if_neg (by decide), if_neg (by decide), if_neg (by decide), if_pos rfl, l3, r_of (eR_loadWord _ _ _ _ _) l3, ifS]
  have s3 := stp F3 _ A3 _ 3 1125122049 4 3 1 1 1 h3.off (by decide) (by rw [h3.1]; decide) (by decide) (by rw [h3.2.2.2.2.1, c3]) (by decide) (by decide) (by decide) (by decide) (by rw [e_sext]; decide) e3
  have h4 := h3.wr (k' := 4) (by decide) 3 (b + 7) (by decide)
  rw [if_neg (by decide), if_neg (by decide), if_pos rfl, if_neg (by decide)] at h4
  generalize ups F3 7 (F3 7 + 1) = F4 at *
  generalize ups A3 9 (ups (A3 9) 3 (b + 7)) = A4 at *
  have e4 : en_execute F4 A4 7 4 0 (s &&& 65535) (f_sext (s &&& 65535)) = some (0, ups F4 7 (F4 7 + 1), ups A4 9 (ups (A4 9) 4 ((b + 4) + f_sext (s &&& 65535)))) := by
    rw [een_execute, if_neg (by decide), if_neg (by decide), if_neg (by decide), if_neg (by decide), if_neg (by decide), if_neg (by decide), if_neg (by decide), if_pos rfl, if_pos (by decide), h4.2.2.2.1]
  have s4 := stp F4 _ A4 _ 4 _ 7 4 0 _ _ h4.off (by decide) (by rw [h4.1]; decide) (by decide) (by rw [h4.2.2.2.2.1, c4]) (f28 _ _ 29696 7 (by decide) (by decide) 7 (by decide)) (f24 _ _ 29696 4 (by decide) (by decide) 4 (by decide)) (f20 _ _ 29696 0 (by decide) (by decide) 0 (by decide)) (f16 _ _ 29696 (by decide)) rfl e4
  have h5 := h4.wr (k' := 5) (by decide) 4 ((b + 4) + f_sext (s &&& 65535)) (by decide)
  rw [if_neg (by decide), if_neg (by decide), if_neg (by decide), if_pos rfl] at h5
  generalize ups F4 7 (F4 7 + 1) = F5 at *
  generalize ups A4 9 (ups (A4 9) 4 ((b + 4) + f_sext (s &&& 65535))) = A5 at *
  have e5 : en_execute F5 A5 5 3 0 0 0 = some (0, ups F5 7 (b + 7), A5) := by
    rw [een_execute, if_neg (by decide), if_neg (by decide), if_neg (by decide), if_neg (by decide), if_neg (by decide), if_pos rfl, if_pos (by decide), h5.2.2.2.2.2.2.2.2.1]
  have s5 := stp F5 _ A5 _ 5 1392508928 5 3 0 0 0 h5.off (by decide) (by rw [h5.1]; decide) (by decide) (by rw [h5.2.2.2.2.1, c5]) (by decide) (by decide) (by decide) (by decide) (by rw [e_sext]; decide) e5
  obtain ⟨f3, f5, f6, f7, fc, q0, q1, q2, q3, q4, q5, q6, q7⟩ := h5
  have o6 : ups F5 7 (b + 7) 7 - ups F5 7 (b + 7) 6 = 7 := by rw [ups_at, ups_ne _ _ (by decide), f6, sub_k]
  have e6 : en_execute (ups F5 7 (b + 7)) A5 0 0 0 0 0 = some (0, ups (ups F5 7 (b + 7)) 5 3, A5) := by rw [een_execute, if_pos rfl]
  have s6 := stp (ups F5 7 (b + 7)) _ A5 _ 7 0 0 0 0 0 0 o6 (by decide) (by rw [ups_ne _ _ (by decide), f3]; decide) (by decide) (by rw [fc, c7]) (by decide) (by decide) (by decide) (by decide) (by rw [e_sext]; decide) e6
  refine ⟨ups (ups F5 7 (b + 7)) 5 3, A5, ?_, by simp [ups, f3], by simp [ups], by simp [ups, f6], by simp [ups], fc, q0, q1, q2, q3, q4, q5, q6, q7⟩
  rw [rstp F F1 A A1 999 20 0 (by decide) h.2.1 s0, rstp F1 F2 A1 A2 998 20 _ (by decide) h1.2.1 s1, rstp F2 F3 A2 A3 997 20 _ (by decide) h2.2.1 s2, rstp F3 F4 A3 A4 996 20 _ (by decide) h3.2.1 s3, rstp F4 F5 A4 A5 995 20 _ (by decide) h4.2.1 s4, rstp F5 _ A5 A5 994 20 _ (by decide) f5 s5, rstp _ _ A5 A5 993 20 _ (by decide) (by rw [ups_ne _ _ (by decide), f5]) s6, lp_run_25, if_pos (by decide), if_neg (by rw [ups_at]; decide), ups_at]
theorem rg (A : Nat → Int32 → Int32) (i : Int32) (h0 : ¬ i < 0) (h7 : ¬ 7 < i) : en_reg A i = some (A 9 i) := by
  rw [een_reg, if_neg h0, if_neg h7, if_pos (by grind)]
theorem law5 (p1 p2 p3 : Int32) : en_L_law p1 p2 p3 = some 1 := by
  rw [een_L_law]
  have f0 : F_init 64 8 0 = 64 := by rw [F_init_0, e_clamp]; decide
  have f1 : F_init 64 8 1 = 8 := by rw [F_init_1, e_clamp]; decide
  have f2 := F_init_2 64 8
  have f3 := F_init_3 64 8
  have f4 := F_init_4 64 8
  have f5 := F_init_5 64 8
  generalize F_init 64 8 = F at *
  have hb := base16 p1
  generalize hB : p1 <<< ((4 : Int32) &&& 31) = b at hb
  have a1 := addS1 F f0 f2 f3 f5
  rw [lp_L_law_12, a1, r_of (eR_addSection _ _ _ _) a1, ifS, hB]
  dsimp only
  rw [if_pos rfl]
  have a2 := addS2 (ups (ups F 2 1) 3 8) (ups (ups (fun _ _ => 0) 0 (ups (fun _ => 0) 0 0)) 1 (ups (fun _ => 0) 0 8)) (by simp [ups, f0]) (by simp [ups]) (by simp [ups]) (by simp [ups, f5]) (by intro x; simp [ups]) (by intro x; simp [ups]) (by intro x; simp [ups])
  rw [lp_L_law_29, a2, r_of (eR_addSection _ _ _ _) a2, ifS]
  dsimp only
  rw [if_pos rfl]
  generalize hF2 : ups (ups (ups (ups F 2 1) 3 8) 2 2) 3 18 = F2
  generalize hA2 : (ups (ups (ups (ups (fun _ _ => 0) 0 (ups (fun _ => 0) 0 0)) 1 (ups (fun _ => 0) 0 8)) 0 (ups (ups (ups (fun _ _ => 0) 0 (ups (fun _ => 0) 0 0)) 1 (ups (fun _ => 0) 0 8) 0) 1 16)) 1 (ups (ups (ups (fun _ _ => 0) 0 (ups (fun _ => 0) 0 0)) 1 (ups (fun _ => 0) 0 8) 1) 1 2) : Nat → Int32 → Int32) = A2
  have im2 : Im F2 A2 := by
    rw [← hF2, ← hA2]
    refine ⟨by simp [ups], by simp [ups, f5], by simp [ups], by simp [ups], by simp [ups], by simp [ups]⟩
  have g1 : F2 1 = 8 := by rw [← hF2]; simp [ups, f1]
  have g3 : F2 3 = 18 := by rw [← hF2]; simp [ups]
  have g4 : F2 4 = 0 := by rw [← hF2]; simp [ups, f4]
  have z27 : A2 2 7 = 0 := by rw [← hA2]; simp [ups]
  have z4 : ∀ x, A2 4 x = 0 := by intro x; rw [← hA2]; simp [ups]
  obtain ⟨A3, e3, im3, w0, w1, w2, w3, w4, w5, w7, w16, w17, wj⟩ := words F2 A2 p2 p3 b 989 im2
  rw [show (998 : Nat) = 989 + 9 from rfl, e3]
  obtain ⟨A4, r1, k0, o0, t0, l0, t17, j4⟩ := rel1 F2 A3 im3 g1 g4 (by intro x; rw [wj 4 (by decide)]; exact z4 x)
  rw [lp_L_law_123, r1, r_of (eR_addReloc _ _ _ _ _ _) r1, ifS]
  dsimp only
  rw [if_pos rfl]
  have im4 : Im (ups F2 4 1) A4 := by
    obtain ⟨q1, q2, q3, q4, q5, q6⟩ := im3
    exact ⟨by simp [ups, q1], by simp [ups, q2], by rw [j4 0 (by decide) (by decide) (by decide) (by decide) (by decide), q3], by rw [j4 0 (by decide) (by decide) (by decide) (by decide) (by decide), q4], by rw [j4 1 (by decide) (by decide) (by decide) (by decide) (by decide), q5], by rw [j4 1 (by decide) (by decide) (by decide) (by decide) (by decide), q6]⟩
  obtain ⟨A5, r2, k1, o1, t1, k0', o0', t0', l0', j5⟩ := rel2 (ups F2 4 1) A4 im4 (by simp [ups, g1]) (by simp [ups]) t17
  rw [lp_L_law_136, r2, r_of (eR_addReloc _ _ _ _ _ _) r2, ifS]
  dsimp only
  rw [if_pos rfl]
  have im5 : Im (ups (ups F2 4 1) 4 2) A5 := by
    obtain ⟨q1, q2, q3, q4, q5, q6⟩ := im4
    exact ⟨by rw [ups_ne _ _ (by decide), q1], by rw [ups_ne _ _ (by decide), q2], by rw [j5 0 (by decide) (by decide) (by decide) (by decide) (by decide), q3], by rw [j5 0 (by decide) (by decide) (by decide) (by decide) (by decide), q4], by rw [j5 1 (by decide) (by decide) (by decide) (by decide) (by decide), q5], by rw [j5 1 (by decide) (by decide) (by decide) (by decide) (by decide), q6]⟩
  have y2 : A5 2 = A3 2 := (j5 2 (by decide) (by decide) (by decide) (by decide) (by decide)).trans (j4 2 (by decide) (by decide) (by decide) (by decide) (by decide))
  obtain ⟨A6, el, c0, c1, c2, c3, c4, c5, c7, c16, c17, ja0, ja1⟩ := load5 (ups (ups F2 4 1) 4 2) A5 b p3 p2 im5 (by simp [ups, g3]) (by simp [ups]) hb (by rw [y2, w0]) (by rw [y2, w1]) (by rw [y2, w2]) (by rw [y2, w3]) (by rw [y2, w4]) (by rw [y2, w5]) (by rw [y2, w7, z27]) (by rw [y2, w16]) (by rw [y2, w17]) (k0'.trans k0) (o0'.trans o0) (t0'.trans t0) (l0'.trans l0) k1 o1 t1
  rw [lp_L_law_152, el, r_of (eR_load _ _ _) el, ifS]
  dsimp only
  rw [if_pos rfl]
  have g32 : ups (ups (ups (ups (ups F2 4 1) 4 2) 6 b) 7 0) 5 1 3 = 18 := by simp [ups, g3]
  have g22 : ups (ups (ups (ups (ups F2 4 1) 4 2) 6 b) 7 0) 5 1 2 = 2 := by
    have := im5.1
    simp [ups] at this ⊢; exact this
  have g62 : ups (ups (ups (ups (ups F2 4 1) 4 2) 6 b) 7 0) 5 1 6 = b := by simp [ups]
  have g52 : ups (ups (ups (ups (ups F2 4 1) 4 2) 6 b) 7 0) 5 1 5 = 1 := by simp [ups]
  generalize ups (ups (ups (ups (ups F2 4 1) 4 2) 6 b) 7 0) 5 1 = F6 at *
  have ev : en_validPos F6 A6 0 = some 1 := vpos F6 A6 0 0 8 g22 (by decide) (by decide) (by decide) (by decide) (by rw [ja1]; exact im5.2.2.2.2.1) (by decide)
  have eo : en_offsetOf A6 0 = some 0 := offs A6 0 0 0 0 (by decide) (by decide) (by decide) (by rw [ja0]; exact im5.2.2.1) (by decide)
  obtain ⟨A7, er, v0, v1, v2, v3, v4, v5, v6, v7, j7⟩ := rst F6 A6 2
  have rr := r_of (eR_resetMachine _ _ _) er
  have est : en_start F6 A6 0 = some (0, ups (ups (ups F6 7 0) 5 2) 7 (b + 0), A7) := by
    rw [een_start, g52, if_neg (by decide), ev, r_of (eR_validPos _ _ _) ev, ifS, if_neg (by decide), eo, r_of (eR_offsetOf _ _) eo, er, rr, if_pos ⟨rfl, rfl⟩]
    dsimp only
    rw [show ups (ups F6 7 0) 5 2 6 = b by simp [ups, g62]]
  rw [lp_L_law_163, est, r_of (eR_start _ _ _) est, ifS]
  dsimp only
  rw [if_pos rfl]
  have rg0 : Rg (ups (ups (ups F6 7 0) 5 2) 7 (b + 0)) A7 (A6 3) b 0 0 0 0 0 := ⟨by simp [ups, g32], by simp [ups], by simp [ups, g62], by rw [ups_at], j7 3 (by decide), v0, v1, v2, v3, v4, v5, v6, v7⟩
  obtain ⟨F8, A8, e8, h3, h5, h6, h7, h3c, u0, u1, u2, u3, u4, u5, u6, u7⟩ := run7 _ A7 (A6 3) b p3 p2 rg0 c0 c1 c2 c3 c4 c5 c7 c16 c17
  have erun : en_run (ups (ups (ups F6 7 0) 5 2) 7 (b + 0)) A7 20 = some (3, F8, A8) := by
    rw [een_run, if_pos rg0.2.1, show f_clamp 20 0 1000 = 20 by rw [e_clamp]; decide]; exact e8
  rw [lp_L_law_173, erun, r_of (eR_run _ _ _) erun, ifS]
  dsimp only
  rw [if_pos rfl]
  have y0 := rg A8 0 (by decide) (by decide)
  have y1 := rg A8 1 (by decide) (by decide)
  have y2' := rg A8 2 (by decide) (by decide)
  have y3 := rg A8 3 (by decide) (by decide)
  have y4 := rg A8 4 (by decide) (by decide)
  have y5 := rg A8 5 (by decide) (by decide)
  have y6 := rg A8 6 (by decide) (by decide)
  have y7 := rg A8 7 (by decide) (by decide)
  have pk : ∀ i : Int32, ¬ i < 0 → i < 18 → f_peek F8 A8 i = A6 3 i := fun i q0 q1 => by
    rw [e_peek, if_neg q0, h3, if_pos q1, if_pos (by grind), h5, if_neg (by decide), h3c]
  have fb : f_base F8 = b := by rw [e_base, h5, if_neg (by decide), h6]
  have fp : f_pc F8 = b + 7 := by rw [e_pc, h5, if_neg (by decide), if_neg (by decide), h7]
  rw [lp_L_law_185, e_status, if_pos h5, if_pos fb, if_pos fp,
    y0, r_of (eR_reg _ _) y0, ifS, if_pos u0, y1, r_of (eR_reg _ _) y1, ifS, if_pos u1, y2', r_of (eR_reg _ _) y2', ifS, if_pos u2, y3, r_of (eR_reg _ _) y3, ifS, if_pos u3, y4, r_of (eR_reg _ _) y4, ifS, if_pos (by rw [u4, e_sext]), y5, r_of (eR_reg _ _) y5, ifS, if_pos u5, y6, r_of (eR_reg _ _) y6, ifS, if_pos u6, y7, r_of (eR_reg _ _) y7, ifS, if_pos u7,
    pk 0 (by decide) (by decide), if_pos c0, pk 1 (by decide) (by decide), if_pos c1, pk 17 (by decide) (by decide), if_pos c17]
theorem law_ok {l : Launch} {Z : State} {a0 : Array Value} (H : OK Z a0) (p1 p2 p3 : Int32) : Wk l Z (MoL Z cdC "RebaseLoaderL3" false) md_L_law 0 [.val (.int p1), .val (.int p2), .val (.int p3), .unset, .unset, .unset, .unset, .unset] [] (0, (fun _ => 0), []) 0 0 (fun v _ => v = some (.int 1)) :=
  run_law H 0 (fun _ => 0) p1 p2 p3 (law5 p1 p2 p3)
set_option maxRecDepth 65536 in
set_option maxHeartbeats 40000000 in
theorem comes_1 {Post : Tables → Env → Array Value → State → Outcome → State → Prop} (hpost : ∀ tb e args s v u, (limb_1_1.after args s (.returned v) u = true ∧ limb_1_2.after args s (.returned v) u = true ∧ True) → FrameEnd s (.returned v) u (Jvm.fieldLocs frame_1_writes args s ++ Jvm.arrayLocs frame_1_arrays args s ++ Jvm.staticLocs frame_1_statics s) room_1.cells room_1.slots → Post tb e args s (.returned v) u) :
    ArmFor flags0 classFile x code maxLocals ret World_1 tables_1 room_1 Calls_1 rest_1 Pre_1 Post := by
  intro l hfl _ _ p e ha hc hk s m args below hf hA hF happ hP
  obtain ⟨hcalls, hrest, hpre⟩ := hP
  obtain ⟨-, -, -, hnamed, -, -, -, hat⟩ := (Spec.applies_iff hf).mp happ
  obtain ⟨hg, hn⟩ := and_e (Cond.before_iff.mp (show (Jvm.Cond.and given_1 narrow_1).before args s = true from hpre))
  obtain ⟨h1, h2⟩ := and_e hg
  obtain ⟨w0, w1, w2, rfl⟩ : ∃ w0 w1 w2 : Value, args = #[w0, w1, w2] := by
    have hs : args.size = 3 := by simpa [Cond.value, given_1] using h1
    obtain ⟨L⟩ := args
    match L, hs with
    | [w0, w1, w2], _ => exact ⟨w0, w1, w2, rfl⟩
  have hw : OK s #[w0, w1, w2] := fun d (hd : d ∈ tables_1) => atoms_spec (ws := Jvm.Cond.code x code maxLocals ret :: tables_1) hat d (List.mem_cons_of_mem _ hd)
  obtain ⟨g0, r0⟩ := and_e h2
  obtain ⟨g1, r1⟩ := and_e r0
  have g2 := r1
  obtain ⟨i0, e0⟩ := is_v g0
  obtain rfl : w0 = (.int i0) := Option.some.inj e0
  obtain ⟨i1, e1⟩ := is_v g1
  obtain rfl : w1 = (.int i1) := Option.some.inj e1
  obtain ⟨i2, e2⟩ := is_v g2
  obtain rfl : w2 = (.int i2) := Option.some.inj e2
  have rel0 : relL s cdC false (s.heap.size, 0) (0, (fun _ => 0), []) s.heap := ⟨fun q => (by cases q), fun i x q => (by simp at q), (by simp)⟩
  obtain ⟨n, o, h1, h2, h3, v, L, rfl, ⟨w', hv, hrel, hfrm, N, hsz, hnr⟩, hq⟩ := (law_ok hw i0 i1 i2).met (M := MoL s cdC "RebaseLoaderL3" false) (l := l) pn_RebaseLoaderL3 rfl (en := (s.heap.size, 0)) rel0 [.int i0, .int i1, .int i2] rfl rfl tables_1 p e ha hc hk s m _ below hf ((Spec.applies_iff_loose hf).mp happ).1 ⟨rfl, State.Warmed39.refl s, rfl⟩ trivial
  subst hv
  exact ⟨n, _, h1, h2, h3, hpost _ _ _ _ _ _ ⟨Cond.after_iff.mpr rfl, Cond.after_iff.mpr (eq_i res_at (Term.int_eval (1)) rfl), trivial⟩ ⟨hq.1, hq.2.1, (hq.2.2.sift fun y hy => Or.inr (N y hy)).mono (Nat.le_refl _) (Nat.le_refl _)⟩⟩
theorem main_1_1 : Claimed_1_1 := comes_1 fun _ _ _ _ _ _ h hF => ⟨h.1, hF⟩
theorem main_1_2 : Claimed_1_2 := comes_1 fun _ _ _ _ _ _ h hF => ⟨h.2.1, hF⟩
end Jvm.Pilot.@@N@@
namespace Jvm.Pilot.@@N@@
open Jvm Jvm.ClassFile Sem Op Lib Jvm.Free Jvm.Stand Jvm.Pilot.@@N@@.Jvm.D
/-! MADE BY PROGRAM (witnessworld.py) out of the Statement's table words and the real class files: 11 classes; the members and pool entries that the words name. The judged class is class 1, her method 1. -/
namespace start1
open Jvm.ClassFile
def u (s : String) : CpInfo := .utf8 (stringToUtf16 s)
/-- a pool by its gaps: so many unusable entries, then the entry; so many at the end -/
def gap : Nat → List CpInfo → List CpInfo
  | 0, r => r
  | n + 1, r => .unusable :: gap n r
def poolList (es : List (Nat × CpInfo)) (last : Nat) : List CpInfo := es.foldr (fun e r => gap e.1 (e.2 :: r)) (gap last [])
def pool (es : List (Nat × CpInfo)) (last : Nat) : Array CpInfo := ⟨poolList es last⟩
def fileOf (pool : Array CpInfo) (this : Nat) (attrs : Array Attribute := #[]) (ms : Array MethodInfo := #[]) (fl : Nat := 33) (sup : Nat := 0) (ifs : Array Nat := #[]) (fds : Array FieldInfo := #[]) : ClassFile where
  minorVersion := 0
  majorVersion := 65
  constantPool := pool
  accessFlags := fl
  thisClass := this
  superClass := sup
  interfaces := ifs
  fields := fds
  methods := ms
  attributes := attrs
def plain (name : String) (sup : Option ClassId) : Class where
  name := name
  kind := .ordinary
  loader := none
  accessFlags := 33
  super := sup
  interfaces := #[]
  cf := none
  fields := #[]
  methods := #[]
  instanceTypes := #[]
  staticTypes := #[]
  resolved := #[]
  callSites := []
  init := .initialized
  statics := none
  mirror := none

def pool0 : Array CpInfo := pool [(5, u "<init>"), (0, u "()V"), (1, .class_ 10), (1, u "java/lang/Object")] 113

def k0c0 : Code := { maxStack := 0, maxLocals := 1, code := object_method_1_code, exceptionTable := #[], attributes := #[] }
def k0m0 : Method := { name := "<init>", desc := "()V", sig := { parameters := [], returnType := none }, accessFlags := 1, code := some k0c0 }
/-- java/lang/Object -/
def k0 : Class := { plain "java/lang/Object" none with
  accessFlags := 33
  interfaces := #[]
  cf := some (fileOf pool0 8 #[] #[{ accessFlags := 1, nameIndex := 5, descriptorIndex := 6, attributes := #[] }] 33 0 #[] #[])
  fields := #[]
  methods := #[k0m0]
  instanceTypes := #[]
  staticTypes := #[]
  resolved := Array.replicate 124 none
  statics := none }

def pool1 : Array CpInfo := pool [(2, .class_ 4), (1, u "java/lang/Object"), (0, u "<init>"), (0, u "()V"), (0, .class_ 8), (0, u "RebaseLoader"), (0, .methodref 7 10), (0, .nameAndType 5 11), (0, u "(II)V"), (0, .methodref 7 13), (0, .nameAndType 14 15), (0, u "addSection"), (0, u "(II)I"), (0, .integer 285212672), (0, .methodref 7 18), (0, .nameAndType 19 15), (0, u "setWord"), (0, .integer 554696704), (0, .integer 1108344832), (0, .integer 1125122049), (0, .integer 1946157056), (0, .integer 65535), (0, .integer 1392508928), (0, .integer 4026531840), (0, .methodref 7 28), (0, .nameAndType 29 30), (0, u "addReloc"), (0, u "(IIII)I"), (0, .methodref 7 32), (0, .nameAndType 33 34), (0, u "load"), (0, u "(I)I"), (0, .methodref 7 36), (0, .nameAndType 37 34), (0, u "start"), (0, .methodref 7 39), (0, .nameAndType 40 34), (0, u "run"), (0, .integer 32768), (0, .integer 65536), (0, .methodref 7 44), (0, .nameAndType 45 46), (0, u "status"), (0, u "()I"), (0, .methodref 7 48), (0, .nameAndType 49 46), (0, u "base"), (0, .methodref 7 51), (0, .nameAndType 52 46), (0, u "pc"), (0, .methodref 7 54), (0, .nameAndType 55 34), (0, u "reg"), (0, .methodref 7 57), (0, .nameAndType 58 34), (0, u "peek"), (0, .class_ 60), (0, u "RebaseLoaderL3"), (2, u "law"), (0, u "(III)Z")] 3

def k1m0 : Method := { name := "<init>", desc := "()V", sig := { parameters := [], returnType := none }, accessFlags := 1, code := none }
def k1c1 : Code := { maxStack := 5, maxLocals := 8, code := code, exceptionTable := #[], attributes := #[] }
def k1m1 : Method := { name := "law", desc := "(III)Z", sig := { parameters := [.int, .int, .int], returnType := some .boolean }, accessFlags := 9, code := some k1c1 }
/-- RebaseLoaderL3 -/
def k1 : Class := { plain "RebaseLoaderL3" (some 0) with
  accessFlags := 33
  interfaces := #[]
  cf := some (fileOf pool1 59 #[] #[{ accessFlags := 1, nameIndex := 5, descriptorIndex := 6, attributes := #[] }, { accessFlags := 9, nameIndex := 63, descriptorIndex := 64, attributes := #[] }] 33 2 #[] #[])
  fields := #[]
  methods := #[k1m0, k1m1]
  instanceTypes := #[]
  staticTypes := #[]
  resolved := Array.replicate 68 none
  statics := none }

def pool2 : Array CpInfo := pool [(1, .methodref 2 3), (0, .class_ 4), (0, .nameAndType 5 6), (0, u "java/lang/Object"), (0, u "<init>"), (0, u "()V"), (0, .fieldref 8 9), (0, .class_ 10), (0, .nameAndType 11 12), (0, u "RebaseLoader"), (0, u "secStart"), (0, u "[I"), (0, .fieldref 8 14), (0, .nameAndType 15 12), (0, u "secSize"), (0, .fieldref 8 17), (0, .nameAndType 18 12), (0, u "raw"), (0, .fieldref 8 20), (0, .nameAndType 21 12), (0, u "cur"), (0, .fieldref 8 23), (0, .nameAndType 24 25), (0, u "taken"), (0, u "[Z"), (0, .fieldref 8 27), (0, .nameAndType 28 12), (0, u "recKind"), (0, .fieldref 8 30), (0, .nameAndType 31 12), (0, u "recOff"), (0, .fieldref 8 33), (0, .nameAndType 34 12), (0, u "recTarget"), (0, .fieldref 8 36), (0, .nameAndType 37 12), (0, u "recLoOff"), (0, .fieldref 8 39), (0, .nameAndType 40 12), (0, u "regs"), (0, .methodref 8 42), (0, .nameAndType 43 44), (0, u "clamp"), (0, u "(III)I"), (0, .fieldref 8 46), (0, .nameAndType 47 48), (0, u "cap"), (0, u "I"), (0, .fieldref 8 50), (0, .nameAndType 51 48), (0, u "maxRec"), (0, .fieldref 8 53), (0, .nameAndType 54 48), (0, u "state"), (0, .fieldref 8 56), (0, .nameAndType 57 48), (0, u "nSec"), (0, .fieldref 8 59), (0, .nameAndType 60 48), (0, u "nRec"), (0, .fieldref 8 62), (0, .nameAndType 63 48), (0, u "imgSize"), (0, .fieldref 8 65), (0, .nameAndType 66 48), (0, u "baseAddr"), (0, .fieldref 8 68), (0, .nameAndType 69 48), (0, u "pcReg"), (0, .integer 65535), (0, .integer 32768), (0, .integer 65536), (0, .integer 4294901760), (0, .methodref 8 75), (0, .nameAndType 76 77), (0, u "validAlign"), (0, u "(I)Z"), (0, .methodref 8 79), (0, .nameAndType 80 81), (0, u "clearWords"), (0, u "(II)V"), (0, .methodref 8 83), (0, .nameAndType 84 77), (0, u "validPos"), (0, .methodref 8 86), (0, .nameAndType 87 88), (0, u "offsetOf"), (0, u "(I)I"), (0, .methodref 8 90), (0, .nameAndType 91 77), (0, u "validTarget"), (0, .methodref 8 93), (0, .nameAndType 94 95), (0, u "storeRecord"), (0, u "(IIII)I"), (0, .methodref 8 97), (0, .nameAndType 98 77), (0, u "legalBase"), (0, .methodref 8 100), (0, .nameAndType 101 81), (0, u "applyLoad"), (0, .methodref 8 103), (0, .nameAndType 104 105), (0, u "resetMachine"), (0, u "(I)V"), (0, .methodref 8 107), (0, .nameAndType 108 109), (0, u "symbolAddr"), (0, u "(II)I"), (3, .methodref 8 114), (0, .nameAndType 115 81), (0, u "loadPair"), (0, .methodref 8 117), (0, .nameAndType 118 88), (0, u "imm"), (0, .methodref 8 120), (0, .nameAndType 121 88), (0, u "sext"), (0, .methodref 8 123), (0, .nameAndType 124 109), (0, u "setImm"), (0, .methodref 8 126), (0, .nameAndType 127 128), (0, u "writePair"), (0, u "(III)V"), (9, .methodref 8 139), (0, .nameAndType 140 6), (0, u "step"), (0, .methodref 8 142), (0, .nameAndType 143 144), (0, u "execute"), (0, u "(IIIII)V"), (0, .methodref 8 146), (0, .nameAndType 147 128), (0, u "loadWord"), (3, u "OK"), (2, u "ERR_STATE"), (1, u "ERR_ARG"), (1, u "ERR_FULL"), (1, u "ERR_TAKEN"), (1, u "ABS32"), (1, u "REL32"), (1, u "LO16"), (1, u "PAIR"), (1, u "TARGET_ABSOLUTE"), (0, u "ST_BUILDING"), (0, u "ST_IDLE"), (0, u "ST_RUNNING"), (0, u "ST_HALTED"), (0, u "ST_FAULT"), (0, u "MAX_SECTIONS"), (0, u "MAX_STEPS"), (4, u "addSection"), (0, u "setWord"), (0, u "addReloc"), (0, u "load"), (1, u "peek"), (1, u "()I"), (1, u "base"), (1, u "reg"), (0, u "pc"), (0, u "status"), (0, u "start"), (0, u "run")] 2

def k2c0 : Code := { maxStack := 5, maxLocals := 3, code := prog_1_method_1_code, exceptionTable := #[], attributes := #[] }
def k2m0 : Method := { name := "<init>", desc := "(II)V", sig := { parameters := [.int, .int], returnType := none }, accessFlags := 1, code := some k2c0 }
def k2c1 : Code := { maxStack := 2, maxLocals := 4, code := prog_1_method_2_code, exceptionTable := #[], attributes := #[] }
def k2m1 : Method := { name := "clamp", desc := "(III)I", sig := { parameters := [.int, .int, .int], returnType := some .int }, accessFlags := 2, code := some k2c1 }
def k2c2 : Code := { maxStack := 2, maxLocals := 2, code := prog_1_method_3_code, exceptionTable := #[], attributes := #[] }
def k2m2 : Method := { name := "imm", desc := "(I)I", sig := { parameters := [.int], returnType := some .int }, accessFlags := 2, code := some k2c2 }
def k2c3 : Code := { maxStack := 2, maxLocals := 2, code := prog_1_method_4_code, exceptionTable := #[], attributes := #[] }
def k2m3 : Method := { name := "sext", desc := "(I)I", sig := { parameters := [.int], returnType := some .int }, accessFlags := 2, code := some k2c3 }
def k2c4 : Code := { maxStack := 3, maxLocals := 3, code := prog_1_method_5_code, exceptionTable := #[], attributes := #[] }
def k2m4 : Method := { name := "setImm", desc := "(II)I", sig := { parameters := [.int, .int], returnType := some .int }, accessFlags := 2, code := some k2c4 }
def k2c5 : Code := { maxStack := 2, maxLocals := 2, code := prog_1_method_6_code, exceptionTable := #[], attributes := #[] }
def k2m5 : Method := { name := "legalBase", desc := "(I)Z", sig := { parameters := [.int], returnType := some .boolean }, accessFlags := 2, code := some k2c5 }
def k2c6 : Code := { maxStack := 2, maxLocals := 2, code := prog_1_method_7_code, exceptionTable := #[], attributes := #[] }
def k2m6 : Method := { name := "validAlign", desc := "(I)Z", sig := { parameters := [.int], returnType := some .boolean }, accessFlags := 2, code := some k2c6 }
def k2c7 : Code := { maxStack := 3, maxLocals := 3, code := prog_1_method_8_code, exceptionTable := #[], attributes := #[] }
def k2m7 : Method := { name := "validPos", desc := "(I)Z", sig := { parameters := [.int], returnType := some .boolean }, accessFlags := 2, code := some k2c7 }
def k2c8 : Code := { maxStack := 3, maxLocals := 2, code := prog_1_method_9_code, exceptionTable := #[], attributes := #[] }
def k2m8 : Method := { name := "offsetOf", desc := "(I)I", sig := { parameters := [.int], returnType := some .int }, accessFlags := 2, code := some k2c8 }
def k2c9 : Code := { maxStack := 2, maxLocals := 2, code := prog_1_method_10_code, exceptionTable := #[], attributes := #[] }
def k2m9 : Method := { name := "validTarget", desc := "(I)Z", sig := { parameters := [.int], returnType := some .boolean }, accessFlags := 2, code := some k2c9 }
def k2c10 : Code := { maxStack := 3, maxLocals := 3, code := prog_1_method_11_code, exceptionTable := #[], attributes := #[] }
def k2m10 : Method := { name := "resetMachine", desc := "(I)V", sig := { parameters := [.int], returnType := none }, accessFlags := 2, code := some k2c10 }
def k2c11 : Code := { maxStack := 4, maxLocals := 5, code := prog_1_method_12_code, exceptionTable := #[], attributes := #[] }
def k2m11 : Method := { name := "addSection", desc := "(II)I", sig := { parameters := [.int, .int], returnType := some .int }, accessFlags := 1, code := some k2c11 }
def k2c12 : Code := { maxStack := 3, maxLocals := 4, code := prog_1_method_13_code, exceptionTable := #[], attributes := #[] }
def k2m12 : Method := { name := "clearWords", desc := "(II)V", sig := { parameters := [.int, .int], returnType := none }, accessFlags := 2, code := some k2c12 }
def k2c13 : Code := { maxStack := 3, maxLocals := 4, code := prog_1_method_14_code, exceptionTable := #[], attributes := #[] }
def k2m13 : Method := { name := "setWord", desc := "(II)I", sig := { parameters := [.int, .int], returnType := some .int }, accessFlags := 1, code := some k2c13 }
def k2c14 : Code := { maxStack := 5, maxLocals := 8, code := prog_1_method_15_code, exceptionTable := #[], attributes := #[] }
def k2m14 : Method := { name := "addReloc", desc := "(IIII)I", sig := { parameters := [.int, .int, .int, .int], returnType := some .int }, accessFlags := 1, code := some k2c14 }
def k2c15 : Code := { maxStack := 3, maxLocals := 6, code := prog_1_method_16_code, exceptionTable := #[], attributes := #[] }
def k2m15 : Method := { name := "storeRecord", desc := "(IIII)I", sig := { parameters := [.int, .int, .int, .int], returnType := some .int }, accessFlags := 2, code := some k2c15 }
def k2c16 : Code := { maxStack := 4, maxLocals := 3, code := prog_1_method_17_code, exceptionTable := #[], attributes := #[] }
def k2m16 : Method := { name := "load", desc := "(I)I", sig := { parameters := [.int], returnType := some .int }, accessFlags := 1, code := some k2c16 }
def k2c17 : Code := { maxStack := 3, maxLocals := 3, code := prog_1_method_18_code, exceptionTable := #[], attributes := #[] }
def k2m17 : Method := { name := "symbolAddr", desc := "(II)I", sig := { parameters := [.int, .int], returnType := some .int }, accessFlags := 2, code := some k2c17 }
def k2c18 : Code := { maxStack := 5, maxLocals := 8, code := prog_1_method_19_code, exceptionTable := #[], attributes := #[] }
def k2m18 : Method := { name := "applyLoad", desc := "(II)V", sig := { parameters := [.int, .int], returnType := none }, accessFlags := 2, code := some k2c18 }
def k2c19 : Code := { maxStack := 4, maxLocals := 9, code := prog_1_method_21_code, exceptionTable := #[], attributes := #[] }
def k2m19 : Method := { name := "loadPair", desc := "(II)V", sig := { parameters := [.int, .int], returnType := none }, accessFlags := 2, code := some k2c19 }
def k2c20 : Code := { maxStack := 6, maxLocals := 6, code := prog_1_method_22_code, exceptionTable := #[], attributes := #[] }
def k2m20 : Method := { name := "writePair", desc := "(III)V", sig := { parameters := [.int, .int, .int], returnType := none }, accessFlags := 2, code := some k2c20 }
def k2c21 : Code := { maxStack := 2, maxLocals := 2, code := prog_1_method_26_code, exceptionTable := #[], attributes := #[] }
def k2m21 : Method := { name := "peek", desc := "(I)I", sig := { parameters := [.int], returnType := some .int }, accessFlags := 1, code := some k2c21 }
def k2c22 : Code := { maxStack := 1, maxLocals := 1, code := prog_1_method_29_code, exceptionTable := #[], attributes := #[] }
def k2m22 : Method := { name := "base", desc := "()I", sig := { parameters := [], returnType := some .int }, accessFlags := 1, code := some k2c22 }
def k2c23 : Code := { maxStack := 2, maxLocals := 2, code := prog_1_method_32_code, exceptionTable := #[], attributes := #[] }
def k2m23 : Method := { name := "reg", desc := "(I)I", sig := { parameters := [.int], returnType := some .int }, accessFlags := 1, code := some k2c23 }
def k2c24 : Code := { maxStack := 2, maxLocals := 1, code := prog_1_method_33_code, exceptionTable := #[], attributes := #[] }
def k2m24 : Method := { name := "pc", desc := "()I", sig := { parameters := [], returnType := some .int }, accessFlags := 1, code := some k2c24 }
def k2c25 : Code := { maxStack := 1, maxLocals := 1, code := prog_1_method_34_code, exceptionTable := #[], attributes := #[] }
def k2m25 : Method := { name := "status", desc := "()I", sig := { parameters := [], returnType := some .int }, accessFlags := 1, code := some k2c25 }
def k2c26 : Code := { maxStack := 3, maxLocals := 3, code := prog_1_method_35_code, exceptionTable := #[], attributes := #[] }
def k2m26 : Method := { name := "start", desc := "(I)I", sig := { parameters := [.int], returnType := some .int }, accessFlags := 1, code := some k2c26 }
def k2c27 : Code := { maxStack := 4, maxLocals := 4, code := prog_1_method_36_code, exceptionTable := #[], attributes := #[] }
def k2m27 : Method := { name := "run", desc := "(I)I", sig := { parameters := [.int], returnType := some .int }, accessFlags := 1, code := some k2c27 }
def k2c28 : Code := { maxStack := 6, maxLocals := 8, code := prog_1_method_37_code, exceptionTable := #[], attributes := #[] }
def k2m28 : Method := { name := "step", desc := "()V", sig := { parameters := [], returnType := none }, accessFlags := 2, code := some k2c28 }
def k2c29 : Code := { maxStack := 5, maxLocals := 6, code := prog_1_method_38_code, exceptionTable := #[], attributes := #[] }
def k2m29 : Method := { name := "execute", desc := "(IIIII)V", sig := { parameters := [.int, .int, .int, .int, .int], returnType := none }, accessFlags := 2, code := some k2c29 }
def k2c30 : Code := { maxStack := 4, maxLocals := 5, code := prog_1_method_39_code, exceptionTable := #[], attributes := #[] }
def k2m30 : Method := { name := "loadWord", desc := "(III)V", sig := { parameters := [.int, .int, .int], returnType := none }, accessFlags := 2, code := some k2c30 }
/-- RebaseLoader -/
def k2 : Class := { plain "RebaseLoader" (some 0) with
  accessFlags := 49
  interfaces := #[]
  cf := some (fileOf pool2 8 #[] #[{ accessFlags := 1, nameIndex := 5, descriptorIndex := 81, attributes := #[] }, { accessFlags := 2, nameIndex := 43, descriptorIndex := 44, attributes := #[] }, { accessFlags := 2, nameIndex := 118, descriptorIndex := 88, attributes := #[] }, { accessFlags := 2, nameIndex := 121, descriptorIndex := 88, attributes := #[] }, { accessFlags := 2, nameIndex := 124, descriptorIndex := 109, attributes := #[] }, { accessFlags := 2, nameIndex := 98, descriptorIndex := 77, attributes := #[] }, { accessFlags := 2, nameIndex := 76, descriptorIndex := 77, attributes := #[] }, { accessFlags := 2, nameIndex := 84, descriptorIndex := 77, attributes := #[] }, { accessFlags := 2, nameIndex := 87, descriptorIndex := 88, attributes := #[] }, { accessFlags := 2, nameIndex := 91, descriptorIndex := 77, attributes := #[] }, { accessFlags := 2, nameIndex := 104, descriptorIndex := 105, attributes := #[] }, { accessFlags := 1, nameIndex := 182, descriptorIndex := 109, attributes := #[] }, { accessFlags := 2, nameIndex := 80, descriptorIndex := 81, attributes := #[] }, { accessFlags := 1, nameIndex := 183, descriptorIndex := 109, attributes := #[] }, { accessFlags := 1, nameIndex := 184, descriptorIndex := 95, attributes := #[] }, { accessFlags := 2, nameIndex := 94, descriptorIndex := 95, attributes := #[] }, { accessFlags := 1, nameIndex := 185, descriptorIndex := 88, attributes := #[] }, { accessFlags := 2, nameIndex := 108, descriptorIndex := 109, attributes := #[] }, { accessFlags := 2, nameIndex := 101, descriptorIndex := 81, attributes := #[] }, { accessFlags := 2, nameIndex := 115, descriptorIndex := 81, attributes := #[] }, { accessFlags := 2, nameIndex := 127, descriptorIndex := 128, attributes := #[] }, { accessFlags := 1, nameIndex := 187, descriptorIndex := 88, attributes := #[] }, { accessFlags := 1, nameIndex := 191, descriptorIndex := 189, attributes := #[] }, { accessFlags := 1, nameIndex := 193, descriptorIndex := 88, attributes := #[] }, { accessFlags := 1, nameIndex := 194, descriptorIndex := 189, attributes := #[] }, { accessFlags := 1, nameIndex := 195, descriptorIndex := 189, attributes := #[] }, { accessFlags := 1, nameIndex := 196, descriptorIndex := 88, attributes := #[] }, { accessFlags := 1, nameIndex := 197, descriptorIndex := 88, attributes := #[] }, { accessFlags := 2, nameIndex := 140, descriptorIndex := 6, attributes := #[] }, { accessFlags := 2, nameIndex := 143, descriptorIndex := 144, attributes := #[] }, { accessFlags := 2, nameIndex := 147, descriptorIndex := 128, attributes := #[] }] 49 2 #[] #[{ accessFlags := 25, nameIndex := 151, descriptorIndex := 48, attributes := #[] }, { accessFlags := 25, nameIndex := 154, descriptorIndex := 48, attributes := #[] }, { accessFlags := 25, nameIndex := 156, descriptorIndex := 48, attributes := #[] }, { accessFlags := 25, nameIndex := 158, descriptorIndex := 48, attributes := #[] }, { accessFlags := 25, nameIndex := 160, descriptorIndex := 48, attributes := #[] }, { accessFlags := 25, nameIndex := 162, descriptorIndex := 48, attributes := #[] }, { accessFlags := 25, nameIndex := 164, descriptorIndex := 48, attributes := #[] }, { accessFlags := 25, nameIndex := 166, descriptorIndex := 48, attributes := #[] }, { accessFlags := 25, nameIndex := 168, descriptorIndex := 48, attributes := #[] }, { accessFlags := 25, nameIndex := 170, descriptorIndex := 48, attributes := #[] }, { accessFlags := 25, nameIndex := 171, descriptorIndex := 48, attributes := #[] }, { accessFlags := 25, nameIndex := 172, descriptorIndex := 48, attributes := #[] }, { accessFlags := 25, nameIndex := 173, descriptorIndex := 48, attributes := #[] }, { accessFlags := 25, nameIndex := 174, descriptorIndex := 48, attributes := #[] }, { accessFlags := 25, nameIndex := 175, descriptorIndex := 48, attributes := #[] }, { accessFlags := 25, nameIndex := 176, descriptorIndex := 48, attributes := #[] }, { accessFlags := 25, nameIndex := 177, descriptorIndex := 48, attributes := #[] }, { accessFlags := 2, nameIndex := 47, descriptorIndex := 48, attributes := #[] }, { accessFlags := 2, nameIndex := 51, descriptorIndex := 48, attributes := #[] }, { accessFlags := 2, nameIndex := 57, descriptorIndex := 48, attributes := #[] }, { accessFlags := 2, nameIndex := 11, descriptorIndex := 12, attributes := #[] }, { accessFlags := 2, nameIndex := 15, descriptorIndex := 12, attributes := #[] }, { accessFlags := 2, nameIndex := 63, descriptorIndex := 48, attributes := #[] }, { accessFlags := 2, nameIndex := 18, descriptorIndex := 12, attributes := #[] }, { accessFlags := 2, nameIndex := 21, descriptorIndex := 12, attributes := #[] }, { accessFlags := 2, nameIndex := 24, descriptorIndex := 25, attributes := #[] }, { accessFlags := 2, nameIndex := 60, descriptorIndex := 48, attributes := #[] }, { accessFlags := 2, nameIndex := 28, descriptorIndex := 12, attributes := #[] }, { accessFlags := 2, nameIndex := 31, descriptorIndex := 12, attributes := #[] }, { accessFlags := 2, nameIndex := 34, descriptorIndex := 12, attributes := #[] }, { accessFlags := 2, nameIndex := 37, descriptorIndex := 12, attributes := #[] }, { accessFlags := 2, nameIndex := 54, descriptorIndex := 48, attributes := #[] }, { accessFlags := 2, nameIndex := 66, descriptorIndex := 48, attributes := #[] }, { accessFlags := 2, nameIndex := 69, descriptorIndex := 48, attributes := #[] }, { accessFlags := 2, nameIndex := 40, descriptorIndex := 12, attributes := #[] }])
  fields := #[{ name := "OK", type := .int, accessFlags := 25, slot := 0, constantValue := 0 }, { name := "ERR_STATE", type := .int, accessFlags := 25, slot := 1, constantValue := 0 }, { name := "ERR_ARG", type := .int, accessFlags := 25, slot := 2, constantValue := 0 }, { name := "ERR_FULL", type := .int, accessFlags := 25, slot := 3, constantValue := 0 }, { name := "ERR_TAKEN", type := .int, accessFlags := 25, slot := 4, constantValue := 0 }, { name := "ABS32", type := .int, accessFlags := 25, slot := 5, constantValue := 0 }, { name := "REL32", type := .int, accessFlags := 25, slot := 6, constantValue := 0 }, { name := "LO16", type := .int, accessFlags := 25, slot := 7, constantValue := 0 }, { name := "PAIR", type := .int, accessFlags := 25, slot := 8, constantValue := 0 }, { name := "TARGET_ABSOLUTE", type := .int, accessFlags := 25, slot := 9, constantValue := 0 }, { name := "ST_BUILDING", type := .int, accessFlags := 25, slot := 10, constantValue := 0 }, { name := "ST_IDLE", type := .int, accessFlags := 25, slot := 11, constantValue := 0 }, { name := "ST_RUNNING", type := .int, accessFlags := 25, slot := 12, constantValue := 0 }, { name := "ST_HALTED", type := .int, accessFlags := 25, slot := 13, constantValue := 0 }, { name := "ST_FAULT", type := .int, accessFlags := 25, slot := 14, constantValue := 0 }, { name := "MAX_SECTIONS", type := .int, accessFlags := 25, slot := 15, constantValue := 0 }, { name := "MAX_STEPS", type := .int, accessFlags := 25, slot := 16, constantValue := 0 }, { name := "cap", type := .int, accessFlags := 2, slot := 0, constantValue := 0 }, { name := "maxRec", type := .int, accessFlags := 2, slot := 1, constantValue := 0 }, { name := "nSec", type := .int, accessFlags := 2, slot := 2, constantValue := 0 }, { name := "secStart", type := (.array .int), accessFlags := 2, slot := 3, constantValue := 0 }, { name := "secSize", type := (.array .int), accessFlags := 2, slot := 4, constantValue := 0 }, { name := "imgSize", type := .int, accessFlags := 2, slot := 5, constantValue := 0 }, { name := "raw", type := (.array .int), accessFlags := 2, slot := 6, constantValue := 0 }, { name := "cur", type := (.array .int), accessFlags := 2, slot := 7, constantValue := 0 }, { name := "taken", type := (.array .boolean), accessFlags := 2, slot := 8, constantValue := 0 }, { name := "nRec", type := .int, accessFlags := 2, slot := 9, constantValue := 0 }, { name := "recKind", type := (.array .int), accessFlags := 2, slot := 10, constantValue := 0 }, { name := "recOff", type := (.array .int), accessFlags := 2, slot := 11, constantValue := 0 }, { name := "recTarget", type := (.array .int), accessFlags := 2, slot := 12, constantValue := 0 }, { name := "recLoOff", type := (.array .int), accessFlags := 2, slot := 13, constantValue := 0 }, { name := "state", type := .int, accessFlags := 2, slot := 14, constantValue := 0 }, { name := "baseAddr", type := .int, accessFlags := 2, slot := 15, constantValue := 0 }, { name := "pcReg", type := .int, accessFlags := 2, slot := 16, constantValue := 0 }, { name := "regs", type := (.array .int), accessFlags := 2, slot := 17, constantValue := 0 }]
  methods := #[k2m0, k2m1, k2m2, k2m3, k2m4, k2m5, k2m6, k2m7, k2m8, k2m9, k2m10, k2m11, k2m12, k2m13, k2m14, k2m15, k2m16, k2m17, k2m18, k2m19, k2m20, k2m21, k2m22, k2m23, k2m24, k2m25, k2m26, k2m27, k2m28, k2m29, k2m30]
  instanceTypes := #[.int, .int, .int, (.array .int), (.array .int), .int, (.array .int), (.array .int), (.array .boolean), .int, (.array .int), (.array .int), (.array .int), (.array .int), .int, .int, .int, (.array .int)]
  staticTypes := #[.int, .int, .int, .int, .int, .int, .int, .int, .int, .int, .int, .int, .int, .int, .int, .int, .int]
  resolved := Array.replicate 200 none
  statics := none }

def pool3 : Array CpInfo := pool [(1, u "java/lang/Cloneable"), (0, .class_ 1), (0, u "java/lang/Object"), (0, .class_ 3)] 3

/-- java/lang/Cloneable -/
def k3 : Class := { plain "java/lang/Cloneable" (some 0) with
  accessFlags := 1537
  interfaces := #[]
  cf := some (fileOf pool3 2 #[] #[] 1537 4 #[] #[])
  fields := #[]
  methods := #[]
  instanceTypes := #[]
  staticTypes := #[]
  resolved := Array.replicate 8 none
  statics := none }

def pool4 : Array CpInfo := pool [(1, u "java/io/Serializable"), (0, .class_ 1), (0, u "java/lang/Object"), (0, .class_ 3)] 3

/-- java/io/Serializable -/
def k4 : Class := { plain "java/io/Serializable" (some 0) with
  accessFlags := 1537
  interfaces := #[]
  cf := some (fileOf pool4 2 #[] #[] 1537 4 #[] #[])
  fields := #[]
  methods := #[]
  instanceTypes := #[]
  staticTypes := #[]
  resolved := Array.replicate 8 none
  statics := none }

/-- the primitive boolean -/
def k5 : Class := { plain "boolean" none with kind := .primitive 'Z', accessFlags := 0x411 }
/-- [Z -/
def k6 : Class := { plain "[Z" (some 0) with kind := .array 5 .boolean, interfaces := #[3, 4], accessFlags := 1041 }

/-- the primitive byte -/
def k7 : Class := { plain "byte" none with kind := .primitive 'B', accessFlags := 0x411 }
/-- [B -/
def k8 : Class := { plain "[B" (some 0) with kind := .array 7 .byte, interfaces := #[3, 4], accessFlags := 1041 }

/-- the primitive int -/
def k9 : Class := { plain "int" none with kind := .primitive 'I', accessFlags := 0x411 }
/-- [I -/
def k10 : Class := { plain "[I" (some 0) with kind := .array 9 .int, interfaces := #[3, 4], accessFlags := 1041 }

def heap : Heap := #[]
def classes : Array Class := #[k0, k1, k2, k3, k4, k5, k6, k7, k8, k9, k10]
def interned : List (Array UInt16 × Addr) := []
def slotsUsed : Nat := 0
def theMethod : MethodId := ⟨1, 1⟩
def args0 : Array Value := #[.int 5, .int 6, .int 7]
def aboutOver (below : List Frame) : State where
  vm := { classes := classes, interned := interned.toArray }
  heap := heap
  slotsUsed := slotsUsed
  threads := #[{ frames := .invoking theMethod args0 :: below }]
def below0 : List Frame := [.native { method := ⟨0, 0⟩, args := #[] }]
def about1 : State := aboutOver below0
def p0 : Program := .bare "" "" ""
def e0 : Env := launch0.env 0 0 0
theorem w_frames : about1.frames = Frame.invoking theMethod args0 :: below0 := rfl
set_option maxRecDepth 65536 in
theorem w_args : argsFit about1.vm theMethod args0 = true := by decide +kernel
set_option maxRecDepth 65536 in
theorem w_heap : heapFits about1 = true := by decide +kernel
set_option maxRecDepth 65536 in
theorem w_runnable : about1.curStatus? = some .runnable := by decide +kernel
set_option maxRecDepth 65536 in
theorem w_alone : about1.alone = true := by decide +kernel
set_option maxRecDepth 65536 in
theorem w_named : about1.methodNamed? x = some theMethod := by decide +kernel
set_option maxRecDepth 65536 in
theorem w_hears : about1.hears theMethod below0 = true := by decide +kernel
set_option maxRecDepth 65536 in
theorem w_ripe : about1.ripe theMethod args0 below0 = true := by decide +kernel
theorem w_running : about1.status = .running := rfl
set_option maxRecDepth 65536 in
theorem w_room : about1.hasRoom e0.platform room_1 = true :=
  launch0.hasRoom_least _ room_1 (by decide +kernel) (by decide +kernel) (by decide +kernel) (by decide +kernel) (by decide +kernel) (by decide +kernel)
theorem allAtoms_all (ts : List Jvm.Cond) (a : Array Jvm.Value) (st : Jvm.State) : (allAtoms ts).before a st = ts.all (fun c => c.before a st) := by
  induction ts with
  | nil => rfl
  | cons c t ih =>
    show (Jvm.Cond.and c (allAtoms t)).before a st = _
    rw [Jvm.Cond.before_and, ih, List.all_cons]
def words1 : List Jvm.Cond := Jvm.Cond.code x code maxLocals ret :: tables_1
/-- a 'code' word, met by the world's own term for the bytes: nothing is compared byte by byte -/
theorem code_word {y : MethodName} {bytes : ByteArray} {mx : Nat} {rt : Option FieldType} {a : Array Value} {s : State} {m : MethodId} {meth : Method} {c : Code} (h1 : s.methodNamed? y = some m) (h2 : s.vm.method? m = some meth) (h3 : meth.code = some c) (h4 : c.code = bytes)
    (h5 : (c.maxLocals == mx && c.exceptionTable.isEmpty && decide (c.maxStack ≤ mostOperands) && decide (meth.sig.returnType = rt) && !meth.locks && decide (parseMethodDescriptor y.desc = some meth.sig)) = true) : (Jvm.Cond.code y bytes mx rt).before a s = true := by
  simp only [Bool.and_eq_true, beq_iff_eq, Bool.not_eq_true', decide_eq_true_eq] at h5
  obtain ⟨⟨⟨⟨⟨g1, g2⟩, g3⟩, g4⟩, g5⟩, g6⟩ := h5
  simp [Cond.before, Cond.holds, Cond.value, h1, h2, h3, h4, g1, g2, g3, g4, g5, g6]
def isCode : Jvm.Cond → Bool
  | .code _ _ _ _ => true
  | _ => false
theorem all_split {L : List Jvm.Cond} {P : Jvm.Cond → Bool} (h1 : L.all (fun c => isCode c || P c) = true) (h2 : ∀ c ∈ L.filter isCode, P c = true) : L.all P = true := by
  refine List.all_eq_true.mpr fun c hc => ?_
  have h := List.all_eq_true.mp h1 c hc
  rcases Bool.eq_false_or_eq_true (isCode c) with hi | hi
  · exact h2 c (List.mem_filter.mpr ⟨hc, hi⟩)
  · simpa [hi] using h
set_option maxRecDepth 65536 in
theorem w_c0 : (Jvm.Cond.code x code maxLocals ret).before args0 about1 = true := code_word (m := ⟨1, 1⟩) (meth := k1m1) (c := k1c1) (by decide +kernel) rfl rfl rfl (by decide +kernel)
set_option maxRecDepth 65536 in
theorem w_c1 : (Jvm.Cond.code ({ cls := "RebaseLoader", name := "<init>", desc := "(II)V" } : Jvm.MethodName) prog_1_method_1_code (3 : Nat) (Option.none : Option Jvm.ClassFile.FieldType)).before args0 about1 = true := code_word (m := ⟨2, 0⟩) (meth := k2m0) (c := k2c0) (by decide +kernel) rfl rfl rfl (by decide +kernel)
set_option maxRecDepth 65536 in
theorem w_c2 : (Jvm.Cond.code ({ cls := "java/lang/Object", name := "<init>", desc := "()V" } : Jvm.MethodName) object_method_1_code (1 : Nat) (Option.none : Option Jvm.ClassFile.FieldType)).before args0 about1 = true := code_word (m := ⟨0, 0⟩) (meth := k0m0) (c := k0c0) (by decide +kernel) rfl rfl rfl (by decide +kernel)
set_option maxRecDepth 65536 in
theorem w_c3 : (Jvm.Cond.code ({ cls := "RebaseLoader", name := "clamp", desc := "(III)I" } : Jvm.MethodName) prog_1_method_2_code (4 : Nat) (Option.some Jvm.ClassFile.FieldType.int)).before args0 about1 = true := code_word (m := ⟨2, 1⟩) (meth := k2m1) (c := k2c1) (by decide +kernel) rfl rfl rfl (by decide +kernel)
set_option maxRecDepth 65536 in
theorem w_c4 : (Jvm.Cond.code ({ cls := "RebaseLoader", name := "addSection", desc := "(II)I" } : Jvm.MethodName) prog_1_method_12_code (5 : Nat) (Option.some Jvm.ClassFile.FieldType.int)).before args0 about1 = true := code_word (m := ⟨2, 11⟩) (meth := k2m11) (c := k2c11) (by decide +kernel) rfl rfl rfl (by decide +kernel)
set_option maxRecDepth 65536 in
theorem w_c5 : (Jvm.Cond.code ({ cls := "RebaseLoader", name := "validAlign", desc := "(I)Z" } : Jvm.MethodName) prog_1_method_7_code (2 : Nat) (Option.some Jvm.ClassFile.FieldType.boolean)).before args0 about1 = true := code_word (m := ⟨2, 6⟩) (meth := k2m6) (c := k2c6) (by decide +kernel) rfl rfl rfl (by decide +kernel)
set_option maxRecDepth 65536 in
theorem w_c6 : (Jvm.Cond.code ({ cls := "RebaseLoader", name := "clearWords", desc := "(II)V" } : Jvm.MethodName) prog_1_method_13_code (4 : Nat) (Option.none : Option Jvm.ClassFile.FieldType)).before args0 about1 = true := code_word (m := ⟨2, 12⟩) (meth := k2m12) (c := k2c12) (by decide +kernel) rfl rfl rfl (by decide +kernel)
set_option maxRecDepth 65536 in
theorem w_c7 : (Jvm.Cond.code ({ cls := "RebaseLoader", name := "setWord", desc := "(II)I" } : Jvm.MethodName) prog_1_method_14_code (4 : Nat) (Option.some Jvm.ClassFile.FieldType.int)).before args0 about1 = true := code_word (m := ⟨2, 13⟩) (meth := k2m13) (c := k2c13) (by decide +kernel) rfl rfl rfl (by decide +kernel)
set_option maxRecDepth 65536 in
theorem w_c8 : (Jvm.Cond.code ({ cls := "RebaseLoader", name := "validPos", desc := "(I)Z" } : Jvm.MethodName) prog_1_method_8_code (3 : Nat) (Option.some Jvm.ClassFile.FieldType.boolean)).before args0 about1 = true := code_word (m := ⟨2, 7⟩) (meth := k2m7) (c := k2c7) (by decide +kernel) rfl rfl rfl (by decide +kernel)
set_option maxRecDepth 65536 in
theorem w_c9 : (Jvm.Cond.code ({ cls := "RebaseLoader", name := "offsetOf", desc := "(I)I" } : Jvm.MethodName) prog_1_method_9_code (2 : Nat) (Option.some Jvm.ClassFile.FieldType.int)).before args0 about1 = true := code_word (m := ⟨2, 8⟩) (meth := k2m8) (c := k2c8) (by decide +kernel) rfl rfl rfl (by decide +kernel)
set_option maxRecDepth 65536 in
theorem w_c10 : (Jvm.Cond.code ({ cls := "RebaseLoader", name := "addReloc", desc := "(IIII)I" } : Jvm.MethodName) prog_1_method_15_code (8 : Nat) (Option.some Jvm.ClassFile.FieldType.int)).before args0 about1 = true := code_word (m := ⟨2, 14⟩) (meth := k2m14) (c := k2c14) (by decide +kernel) rfl rfl rfl (by decide +kernel)
set_option maxRecDepth 65536 in
theorem w_c11 : (Jvm.Cond.code ({ cls := "RebaseLoader", name := "validTarget", desc := "(I)Z" } : Jvm.MethodName) prog_1_method_10_code (2 : Nat) (Option.some Jvm.ClassFile.FieldType.boolean)).before args0 about1 = true := code_word (m := ⟨2, 9⟩) (meth := k2m9) (c := k2c9) (by decide +kernel) rfl rfl rfl (by decide +kernel)
set_option maxRecDepth 65536 in
theorem w_c12 : (Jvm.Cond.code ({ cls := "RebaseLoader", name := "storeRecord", desc := "(IIII)I" } : Jvm.MethodName) prog_1_method_16_code (6 : Nat) (Option.some Jvm.ClassFile.FieldType.int)).before args0 about1 = true := code_word (m := ⟨2, 15⟩) (meth := k2m15) (c := k2c15) (by decide +kernel) rfl rfl rfl (by decide +kernel)
set_option maxRecDepth 65536 in
theorem w_c13 : (Jvm.Cond.code ({ cls := "RebaseLoader", name := "load", desc := "(I)I" } : Jvm.MethodName) prog_1_method_17_code (3 : Nat) (Option.some Jvm.ClassFile.FieldType.int)).before args0 about1 = true := code_word (m := ⟨2, 16⟩) (meth := k2m16) (c := k2c16) (by decide +kernel) rfl rfl rfl (by decide +kernel)
set_option maxRecDepth 65536 in
theorem w_c14 : (Jvm.Cond.code ({ cls := "RebaseLoader", name := "legalBase", desc := "(I)Z" } : Jvm.MethodName) prog_1_method_6_code (2 : Nat) (Option.some Jvm.ClassFile.FieldType.boolean)).before args0 about1 = true := code_word (m := ⟨2, 5⟩) (meth := k2m5) (c := k2c5) (by decide +kernel) rfl rfl rfl (by decide +kernel)
set_option maxRecDepth 65536 in
theorem w_c15 : (Jvm.Cond.code ({ cls := "RebaseLoader", name := "applyLoad", desc := "(II)V" } : Jvm.MethodName) prog_1_method_19_code (8 : Nat) (Option.none : Option Jvm.ClassFile.FieldType)).before args0 about1 = true := code_word (m := ⟨2, 18⟩) (meth := k2m18) (c := k2c18) (by decide +kernel) rfl rfl rfl (by decide +kernel)
set_option maxRecDepth 65536 in
theorem w_c16 : (Jvm.Cond.code ({ cls := "RebaseLoader", name := "symbolAddr", desc := "(II)I" } : Jvm.MethodName) prog_1_method_18_code (3 : Nat) (Option.some Jvm.ClassFile.FieldType.int)).before args0 about1 = true := code_word (m := ⟨2, 17⟩) (meth := k2m17) (c := k2c17) (by decide +kernel) rfl rfl rfl (by decide +kernel)
set_option maxRecDepth 65536 in
theorem w_c17 : (Jvm.Cond.code ({ cls := "RebaseLoader", name := "loadPair", desc := "(II)V" } : Jvm.MethodName) prog_1_method_21_code (9 : Nat) (Option.none : Option Jvm.ClassFile.FieldType)).before args0 about1 = true := code_word (m := ⟨2, 19⟩) (meth := k2m19) (c := k2c19) (by decide +kernel) rfl rfl rfl (by decide +kernel)
set_option maxRecDepth 65536 in
theorem w_c18 : (Jvm.Cond.code ({ cls := "RebaseLoader", name := "imm", desc := "(I)I" } : Jvm.MethodName) prog_1_method_3_code (2 : Nat) (Option.some Jvm.ClassFile.FieldType.int)).before args0 about1 = true := code_word (m := ⟨2, 2⟩) (meth := k2m2) (c := k2c2) (by decide +kernel) rfl rfl rfl (by decide +kernel)
set_option maxRecDepth 65536 in
theorem w_c19 : (Jvm.Cond.code ({ cls := "RebaseLoader", name := "sext", desc := "(I)I" } : Jvm.MethodName) prog_1_method_4_code (2 : Nat) (Option.some Jvm.ClassFile.FieldType.int)).before args0 about1 = true := code_word (m := ⟨2, 3⟩) (meth := k2m3) (c := k2c3) (by decide +kernel) rfl rfl rfl (by decide +kernel)
set_option maxRecDepth 65536 in
theorem w_c20 : (Jvm.Cond.code ({ cls := "RebaseLoader", name := "writePair", desc := "(III)V" } : Jvm.MethodName) prog_1_method_22_code (6 : Nat) (Option.none : Option Jvm.ClassFile.FieldType)).before args0 about1 = true := code_word (m := ⟨2, 20⟩) (meth := k2m20) (c := k2c20) (by decide +kernel) rfl rfl rfl (by decide +kernel)
set_option maxRecDepth 65536 in
theorem w_c21 : (Jvm.Cond.code ({ cls := "RebaseLoader", name := "setImm", desc := "(II)I" } : Jvm.MethodName) prog_1_method_5_code (3 : Nat) (Option.some Jvm.ClassFile.FieldType.int)).before args0 about1 = true := code_word (m := ⟨2, 4⟩) (meth := k2m4) (c := k2c4) (by decide +kernel) rfl rfl rfl (by decide +kernel)
set_option maxRecDepth 65536 in
theorem w_c22 : (Jvm.Cond.code ({ cls := "RebaseLoader", name := "resetMachine", desc := "(I)V" } : Jvm.MethodName) prog_1_method_11_code (3 : Nat) (Option.none : Option Jvm.ClassFile.FieldType)).before args0 about1 = true := code_word (m := ⟨2, 10⟩) (meth := k2m10) (c := k2c10) (by decide +kernel) rfl rfl rfl (by decide +kernel)
set_option maxRecDepth 65536 in
theorem w_c23 : (Jvm.Cond.code ({ cls := "RebaseLoader", name := "start", desc := "(I)I" } : Jvm.MethodName) prog_1_method_35_code (3 : Nat) (Option.some Jvm.ClassFile.FieldType.int)).before args0 about1 = true := code_word (m := ⟨2, 26⟩) (meth := k2m26) (c := k2c26) (by decide +kernel) rfl rfl rfl (by decide +kernel)
set_option maxRecDepth 65536 in
theorem w_c24 : (Jvm.Cond.code ({ cls := "RebaseLoader", name := "run", desc := "(I)I" } : Jvm.MethodName) prog_1_method_36_code (4 : Nat) (Option.some Jvm.ClassFile.FieldType.int)).before args0 about1 = true := code_word (m := ⟨2, 27⟩) (meth := k2m27) (c := k2c27) (by decide +kernel) rfl rfl rfl (by decide +kernel)
set_option maxRecDepth 65536 in
theorem w_c25 : (Jvm.Cond.code ({ cls := "RebaseLoader", name := "step", desc := "()V" } : Jvm.MethodName) prog_1_method_37_code (8 : Nat) (Option.none : Option Jvm.ClassFile.FieldType)).before args0 about1 = true := code_word (m := ⟨2, 28⟩) (meth := k2m28) (c := k2c28) (by decide +kernel) rfl rfl rfl (by decide +kernel)
set_option maxRecDepth 65536 in
theorem w_c26 : (Jvm.Cond.code ({ cls := "RebaseLoader", name := "execute", desc := "(IIIII)V" } : Jvm.MethodName) prog_1_method_38_code (6 : Nat) (Option.none : Option Jvm.ClassFile.FieldType)).before args0 about1 = true := code_word (m := ⟨2, 29⟩) (meth := k2m29) (c := k2c29) (by decide +kernel) rfl rfl rfl (by decide +kernel)
set_option maxRecDepth 65536 in
theorem w_c27 : (Jvm.Cond.code ({ cls := "RebaseLoader", name := "loadWord", desc := "(III)V" } : Jvm.MethodName) prog_1_method_39_code (5 : Nat) (Option.none : Option Jvm.ClassFile.FieldType)).before args0 about1 = true := code_word (m := ⟨2, 30⟩) (meth := k2m30) (c := k2c30) (by decide +kernel) rfl rfl rfl (by decide +kernel)
set_option maxRecDepth 65536 in
theorem w_c28 : (Jvm.Cond.code ({ cls := "RebaseLoader", name := "status", desc := "()I" } : Jvm.MethodName) prog_1_method_34_code (1 : Nat) (Option.some Jvm.ClassFile.FieldType.int)).before args0 about1 = true := code_word (m := ⟨2, 25⟩) (meth := k2m25) (c := k2c25) (by decide +kernel) rfl rfl rfl (by decide +kernel)
set_option maxRecDepth 65536 in
theorem w_c29 : (Jvm.Cond.code ({ cls := "RebaseLoader", name := "base", desc := "()I" } : Jvm.MethodName) prog_1_method_29_code (1 : Nat) (Option.some Jvm.ClassFile.FieldType.int)).before args0 about1 = true := code_word (m := ⟨2, 22⟩) (meth := k2m22) (c := k2c22) (by decide +kernel) rfl rfl rfl (by decide +kernel)
set_option maxRecDepth 65536 in
theorem w_c30 : (Jvm.Cond.code ({ cls := "RebaseLoader", name := "pc", desc := "()I" } : Jvm.MethodName) prog_1_method_33_code (1 : Nat) (Option.some Jvm.ClassFile.FieldType.int)).before args0 about1 = true := code_word (m := ⟨2, 24⟩) (meth := k2m24) (c := k2c24) (by decide +kernel) rfl rfl rfl (by decide +kernel)
set_option maxRecDepth 65536 in
theorem w_c31 : (Jvm.Cond.code ({ cls := "RebaseLoader", name := "reg", desc := "(I)I" } : Jvm.MethodName) prog_1_method_32_code (2 : Nat) (Option.some Jvm.ClassFile.FieldType.int)).before args0 about1 = true := code_word (m := ⟨2, 23⟩) (meth := k2m23) (c := k2c23) (by decide +kernel) rfl rfl rfl (by decide +kernel)
set_option maxRecDepth 65536 in
theorem w_c32 : (Jvm.Cond.code ({ cls := "RebaseLoader", name := "peek", desc := "(I)I" } : Jvm.MethodName) prog_1_method_26_code (2 : Nat) (Option.some Jvm.ClassFile.FieldType.int)).before args0 about1 = true := code_word (m := ⟨2, 21⟩) (meth := k2m21) (c := k2c21) (by decide +kernel) rfl rfl rfl (by decide +kernel)
def codes1 : List Jvm.Cond := [Jvm.Cond.code x code maxLocals ret, Jvm.Cond.code ({ cls := "RebaseLoader", name := "<init>", desc := "(II)V" } : Jvm.MethodName) prog_1_method_1_code (3 : Nat) (Option.none : Option Jvm.ClassFile.FieldType), Jvm.Cond.code ({ cls := "java/lang/Object", name := "<init>", desc := "()V" } : Jvm.MethodName) object_method_1_code (1 : Nat) (Option.none : Option Jvm.ClassFile.FieldType), Jvm.Cond.code ({ cls := "RebaseLoader", name := "clamp", desc := "(III)I" } : Jvm.MethodName) prog_1_method_2_code (4 : Nat) (Option.some Jvm.ClassFile.FieldType.int), Jvm.Cond.code ({ cls := "RebaseLoader", name := "addSection", desc := "(II)I" } : Jvm.MethodName) prog_1_method_12_code (5 : Nat) (Option.some Jvm.ClassFile.FieldType.int), Jvm.Cond.code ({ cls := "RebaseLoader", name := "validAlign", desc := "(I)Z" } : Jvm.MethodName) prog_1_method_7_code (2 : Nat) (Option.some Jvm.ClassFile.FieldType.boolean), Jvm.Cond.code ({ cls := "RebaseLoader", name := "clearWords", desc := "(II)V" } : Jvm.MethodName) prog_1_method_13_code (4 : Nat) (Option.none : Option Jvm.ClassFile.FieldType), Jvm.Cond.code ({ cls := "RebaseLoader", name := "setWord", desc := "(II)I" } : Jvm.MethodName) prog_1_method_14_code (4 : Nat) (Option.some Jvm.ClassFile.FieldType.int), Jvm.Cond.code ({ cls := "RebaseLoader", name := "validPos", desc := "(I)Z" } : Jvm.MethodName) prog_1_method_8_code (3 : Nat) (Option.some Jvm.ClassFile.FieldType.boolean), Jvm.Cond.code ({ cls := "RebaseLoader", name := "offsetOf", desc := "(I)I" } : Jvm.MethodName) prog_1_method_9_code (2 : Nat) (Option.some Jvm.ClassFile.FieldType.int), Jvm.Cond.code ({ cls := "RebaseLoader", name := "addReloc", desc := "(IIII)I" } : Jvm.MethodName) prog_1_method_15_code (8 : Nat) (Option.some Jvm.ClassFile.FieldType.int), Jvm.Cond.code ({ cls := "RebaseLoader", name := "validTarget", desc := "(I)Z" } : Jvm.MethodName) prog_1_method_10_code (2 : Nat) (Option.some Jvm.ClassFile.FieldType.boolean), Jvm.Cond.code ({ cls := "RebaseLoader", name := "storeRecord", desc := "(IIII)I" } : Jvm.MethodName) prog_1_method_16_code (6 : Nat) (Option.some Jvm.ClassFile.FieldType.int), Jvm.Cond.code ({ cls := "RebaseLoader", name := "load", desc := "(I)I" } : Jvm.MethodName) prog_1_method_17_code (3 : Nat) (Option.some Jvm.ClassFile.FieldType.int), Jvm.Cond.code ({ cls := "RebaseLoader", name := "legalBase", desc := "(I)Z" } : Jvm.MethodName) prog_1_method_6_code (2 : Nat) (Option.some Jvm.ClassFile.FieldType.boolean), Jvm.Cond.code ({ cls := "RebaseLoader", name := "applyLoad", desc := "(II)V" } : Jvm.MethodName) prog_1_method_19_code (8 : Nat) (Option.none : Option Jvm.ClassFile.FieldType), Jvm.Cond.code ({ cls := "RebaseLoader", name := "symbolAddr", desc := "(II)I" } : Jvm.MethodName) prog_1_method_18_code (3 : Nat) (Option.some Jvm.ClassFile.FieldType.int), Jvm.Cond.code ({ cls := "RebaseLoader", name := "loadPair", desc := "(II)V" } : Jvm.MethodName) prog_1_method_21_code (9 : Nat) (Option.none : Option Jvm.ClassFile.FieldType), Jvm.Cond.code ({ cls := "RebaseLoader", name := "imm", desc := "(I)I" } : Jvm.MethodName) prog_1_method_3_code (2 : Nat) (Option.some Jvm.ClassFile.FieldType.int), Jvm.Cond.code ({ cls := "RebaseLoader", name := "sext", desc := "(I)I" } : Jvm.MethodName) prog_1_method_4_code (2 : Nat) (Option.some Jvm.ClassFile.FieldType.int), Jvm.Cond.code ({ cls := "RebaseLoader", name := "writePair", desc := "(III)V" } : Jvm.MethodName) prog_1_method_22_code (6 : Nat) (Option.none : Option Jvm.ClassFile.FieldType), Jvm.Cond.code ({ cls := "RebaseLoader", name := "setImm", desc := "(II)I" } : Jvm.MethodName) prog_1_method_5_code (3 : Nat) (Option.some Jvm.ClassFile.FieldType.int), Jvm.Cond.code ({ cls := "RebaseLoader", name := "resetMachine", desc := "(I)V" } : Jvm.MethodName) prog_1_method_11_code (3 : Nat) (Option.none : Option Jvm.ClassFile.FieldType), Jvm.Cond.code ({ cls := "RebaseLoader", name := "start", desc := "(I)I" } : Jvm.MethodName) prog_1_method_35_code (3 : Nat) (Option.some Jvm.ClassFile.FieldType.int), Jvm.Cond.code ({ cls := "RebaseLoader", name := "run", desc := "(I)I" } : Jvm.MethodName) prog_1_method_36_code (4 : Nat) (Option.some Jvm.ClassFile.FieldType.int), Jvm.Cond.code ({ cls := "RebaseLoader", name := "step", desc := "()V" } : Jvm.MethodName) prog_1_method_37_code (8 : Nat) (Option.none : Option Jvm.ClassFile.FieldType), Jvm.Cond.code ({ cls := "RebaseLoader", name := "execute", desc := "(IIIII)V" } : Jvm.MethodName) prog_1_method_38_code (6 : Nat) (Option.none : Option Jvm.ClassFile.FieldType), Jvm.Cond.code ({ cls := "RebaseLoader", name := "loadWord", desc := "(III)V" } : Jvm.MethodName) prog_1_method_39_code (5 : Nat) (Option.none : Option Jvm.ClassFile.FieldType), Jvm.Cond.code ({ cls := "RebaseLoader", name := "status", desc := "()I" } : Jvm.MethodName) prog_1_method_34_code (1 : Nat) (Option.some Jvm.ClassFile.FieldType.int), Jvm.Cond.code ({ cls := "RebaseLoader", name := "base", desc := "()I" } : Jvm.MethodName) prog_1_method_29_code (1 : Nat) (Option.some Jvm.ClassFile.FieldType.int), Jvm.Cond.code ({ cls := "RebaseLoader", name := "pc", desc := "()I" } : Jvm.MethodName) prog_1_method_33_code (1 : Nat) (Option.some Jvm.ClassFile.FieldType.int), Jvm.Cond.code ({ cls := "RebaseLoader", name := "reg", desc := "(I)I" } : Jvm.MethodName) prog_1_method_32_code (2 : Nat) (Option.some Jvm.ClassFile.FieldType.int), Jvm.Cond.code ({ cls := "RebaseLoader", name := "peek", desc := "(I)I" } : Jvm.MethodName) prog_1_method_26_code (2 : Nat) (Option.some Jvm.ClassFile.FieldType.int)]
set_option maxRecDepth 65536 in
theorem codes_eq : words1.filter isCode = codes1 := rfl
theorem w_codes : ∀ c ∈ words1.filter isCode, c.before args0 about1 = true := by
  rw [codes_eq]
  intro c hc
  simp only [codes1, List.mem_cons, List.not_mem_nil, or_false] at hc
  rcases hc with rfl | rfl | rfl | rfl | rfl | rfl | rfl | rfl | rfl | rfl | rfl | rfl | rfl | rfl | rfl | rfl | rfl | rfl | rfl | rfl | rfl | rfl | rfl | rfl | rfl | rfl | rfl | rfl | rfl | rfl | rfl | rfl | rfl
  · exact w_c0
  · exact w_c1
  · exact w_c2
  · exact w_c3
  · exact w_c4
  · exact w_c5
  · exact w_c6
  · exact w_c7
  · exact w_c8
  · exact w_c9
  · exact w_c10
  · exact w_c11
  · exact w_c12
  · exact w_c13
  · exact w_c14
  · exact w_c15
  · exact w_c16
  · exact w_c17
  · exact w_c18
  · exact w_c19
  · exact w_c20
  · exact w_c21
  · exact w_c22
  · exact w_c23
  · exact w_c24
  · exact w_c25
  · exact w_c26
  · exact w_c27
  · exact w_c28
  · exact w_c29
  · exact w_c30
  · exact w_c31
  · exact w_c32
set_option maxRecDepth 65536 in
theorem w_t1 : (words1.take 24).all (fun c => isCode c || c.before args0 about1) = true := by decide +kernel
set_option maxRecDepth 65536 in
theorem w_t2 : ((words1.drop 24).take 24).all (fun c => isCode c || c.before args0 about1) = true := by decide +kernel
set_option maxRecDepth 65536 in
theorem w_t3 : (((words1.drop 24).drop 24).take 24).all (fun c => isCode c || c.before args0 about1) = true := by decide +kernel
set_option maxRecDepth 65536 in
theorem w_t4 : ((((words1.drop 24).drop 24).drop 24).take 24).all (fun c => isCode c || c.before args0 about1) = true := by decide +kernel
set_option maxRecDepth 65536 in
theorem w_t5 : (((((words1.drop 24).drop 24).drop 24).drop 24).take 24).all (fun c => isCode c || c.before args0 about1) = true := by decide +kernel
set_option maxRecDepth 65536 in
theorem w_t6 : ((((((words1.drop 24).drop 24).drop 24).drop 24).drop 24).take 24).all (fun c => isCode c || c.before args0 about1) = true := by decide +kernel
set_option maxRecDepth 65536 in
theorem w_t7 : (((((((words1.drop 24).drop 24).drop 24).drop 24).drop 24).drop 24).take 24).all (fun c => isCode c || c.before args0 about1) = true := by decide +kernel
set_option maxRecDepth 65536 in
theorem w_t8 : ((((((((words1.drop 24).drop 24).drop 24).drop 24).drop 24).drop 24).drop 24).take 24).all (fun c => isCode c || c.before args0 about1) = true := by decide +kernel
set_option maxRecDepth 65536 in
theorem w_t9 : ((((((((words1.drop 24).drop 24).drop 24).drop 24).drop 24).drop 24).drop 24).drop 24).all (fun c => isCode c || c.before args0 about1) = true := by decide +kernel
theorem w_tables : (allAtoms (Jvm.Cond.code x code maxLocals ret :: tables_1)).before args0 about1 = true := by
  rw [allAtoms_all]
  show words1.all (fun c => c.before args0 about1) = true
  refine all_split ?_ w_codes
  rw [← List.take_append_drop 24 words1, List.all_append, w_t1, ← List.take_append_drop 24 (words1.drop 24), List.all_append, w_t2, ← List.take_append_drop 24 ((words1.drop 24).drop 24), List.all_append, w_t3, ← List.take_append_drop 24 (((words1.drop 24).drop 24).drop 24), List.all_append, w_t4, ← List.take_append_drop 24 ((((words1.drop 24).drop 24).drop 24).drop 24), List.all_append, w_t5, ← List.take_append_drop 24 (((((words1.drop 24).drop 24).drop 24).drop 24).drop 24), List.all_append, w_t6, ← List.take_append_drop 24 ((((((words1.drop 24).drop 24).drop 24).drop 24).drop 24).drop 24), List.all_append, w_t7, ← List.take_append_drop 24 (((((((words1.drop 24).drop 24).drop 24).drop 24).drop 24).drop 24).drop 24), List.all_append, w_t8, w_t9]
  rfl
set_option maxRecDepth 65536 in
theorem w_case : (Jvm.Cond.and given_1 narrow_1).before args0 about1 = true := by decide +kernel
theorem w_applies : (headSpec (Jvm.Cond.code x code maxLocals ret :: tables_1) room_1).applies x e0.platform about1 = true :=
  (Spec.applies_iff w_frames).mpr ⟨w_running, w_runnable, w_alone, w_named, w_hears, w_ripe, w_room, w_tables⟩
theorem atStart : AtStart classFile x code maxLocals ret World_1 tables_1 room_1 Calls_1 rest_1 Pre_1 launch0 p0 e0 about1 theMethod args0 below0 :=
  ⟨lists_1, trivial, launch0.admits_env _ _ _, launch0.least_env, fairChoices_fair.cas, fairChoices_fair.clock, w_frames, w_args, w_heap, w_applies, trivial, trivial, w_case⟩
end start1
theorem witness_1 : WitnessClaimed_1 := ⟨start1.p0, start1.e0, start1.about1, start1.theMethod, start1.args0, start1.below0, start1.atStart⟩
end Jvm.Pilot.@@N@@
