import JvmDerived
import JvmDerived.Pilot.@@N@@Statement
import JvmDerived.Pilot.@@N@@Code
set_option linter.unusedVariables false
set_option linter.unusedSimpArgs false
namespace Jvm.RoadKit
open Sem ClassFile Op Lib Jvm.Stand Jvm.Free Jvm.LawKit
section New
variable {p : Program} {l : Launch} {e : Env} {R : Room} {s : State} {m : MethodId} {args : Array Value} {below : List Frame} {meth : Method} {c : Code} {T : State} {locs : List Loc} {cells slots : Nat}
theorem retI (X : Stand p l e R s m args below meth c T locs cells slots) (hx : p.tables.exec = Jvm.exec) {pc : Nat} {Ls : Array Slot} {z : Int32} {rest : List Value} (hret : meth.sig.returnType = some .int) (hd : decode c.code pc = .ok (.ireturn, 1)) {fs : List Frame}
    (hl : ∀ (f : JFrame) (acts : List Action), f.method = m → f.locked = none → f.entered = [] → (doReturn e (T.setTop f) acts (some (.int z))).1 = T.setFrames fs) : Steps p.tables e below (T.setTop (mkF m pc Ls (.int z :: rest))) (T.setFrames fs) := by
  have hm' : T.vm.method? m = some meth := X.method'
  have hn : narrow .int (.int z) = .int z := rfl
  show Steps p.tables e below (T.setTop { method := m, pc := pc, locals := Ls, stack := _ :: rest, locked := none }) _
  jvm_step X.here [X.here.top, hx, hd, hm', hret, hn]
  first | (intro acts; rw [hl _ acts rfl rfl rfl]) | rw [hl _ _ rfl rfl rfl]
  exact Steps.refl _
end New
end Jvm.RoadKit
namespace Jvm.Own
open Jvm Jvm.ClassFile Sem Op Lib Jvm.Free Jvm.Stand Jvm.LawKit Jvm.RoadKit
/-! ## 1. Local variables: what the walk knows of them (L) and what they are (r) -/
def rv (ρ : Nat → Addr) : Value → Value
  | .ref k => .ref (ρ k)
  | .int x => .int x
  | .long x => .long x
  | .float x => .float x
  | .double x => .double x
  | .null => .null
  | .retAddr x => .retAddr x
def rs (ρ : Nat → Addr) : Slot → Slot
  | .val v => .val (rv ρ v)
  | .unset => .unset
  | .second => .second
theorem rv_cat (ρ : Nat → Addr) (v : Value) : (rv ρ v).category = v.category := by cases v <;> rfl
def WR (f : Nat → Option Slot) : Prop := (∀ i v, f i = some (.val v) → v.category = 2 → f (i + 1) = some .second) ∧ (∀ i, f i = some .second → ∃ j v, i = j + 1 ∧ f j = some (.val v) ∧ v.category = 2)
def up (f : Nat → Option Slot) (i : Nat) (x : Slot) : Nat → Option Slot := fun k => if k = i then some x else f k
def C1 (s : Option Slot) : Prop := s = some .unset ∨ ∃ w, s = some (.val w) ∧ w.category = 1
theorem C1.not2 {s : Option Slot} (h : C1 s) : s ≠ some .second ∧ ∀ v, s = some (.val v) → v.category ≠ 2 := by
  rcases h with rfl | ⟨w, rfl, h⟩
  · exact ⟨nofun, nofun⟩
  · exact ⟨nofun, fun v e q => by cases e; omega⟩
theorem up_at (f : Nat → Option Slot) (i : Nat) (x : Slot) : up f i x i = some x := by simp [up]
theorem up_ne (f : Nat → Option Slot) {i k : Nat} (x : Slot) (h : k ≠ i) : up f i x k = f k := by simp [up, h]
theorem WR.one {f : Nat → Option Slot} {i : Nat} {x : Slot} (h : WR f) (hi : C1 (f i)) (hx : C1 (some x)) : WR (up f i x) := by
  obtain ⟨n1, n2⟩ := hi.not2
  obtain ⟨m1, m2⟩ := hx.not2
  constructor
  · intro k v hk hv
    by_cases e : k = i
    · subst e; rw [up_at] at hk; exact absurd hv (m2 v hk)
    · rw [up_ne _ _ e] at hk
      have q := h.1 k v hk hv
      by_cases e2 : k + 1 = i
      · rw [e2] at q; exact absurd q n1
      · rw [up_ne _ _ e2]; exact q
  · intro k hk
    by_cases e : k = i
    · subst e; rw [up_at] at hk; exact absurd hk m1
    · rw [up_ne _ _ e] at hk
      obtain ⟨j, v, e1, e2, e3⟩ := h.2 k hk
      refine ⟨j, v, e1, ?_, e3⟩
      by_cases e4 : j = i
      · rw [e4] at e2; exact absurd e3 (n2 v e2)
      · rw [up_ne _ _ e4]; exact e2
theorem WR.clr {f : Nat → Option Slot} {j : Nat} {v : Value} (h : WR f) (hj : f j = some (.val v)) (hv : v.category = 2) : WR (up (up f j .unset) (j + 1) .unset) := by
  have q := h.1 j v hj hv
  constructor
  · intro k w hk hw
    by_cases e : k = j + 1
    · subst e; rw [up_at] at hk; cases hk
    · rw [up_ne _ _ e] at hk
      by_cases e2 : k = j
      · subst e2; rw [up_at] at hk; cases hk
      · rw [up_ne _ _ e2] at hk
        have q2 := h.1 k w hk hw
        by_cases e3 : k + 1 = j
        · rw [e3] at q2; rw [hj] at q2; cases q2
        · rw [up_ne _ _ (show k + 1 ≠ j + 1 by omega), up_ne _ _ e3]; exact q2
  · intro k hk
    by_cases e : k = j + 1
    · subst e; rw [up_at] at hk; cases hk
    · rw [up_ne _ _ e] at hk
      by_cases e2 : k = j
      · subst e2; rw [up_at] at hk; cases hk
      · rw [up_ne _ _ e2] at hk
        obtain ⟨i, w, e3, e4, e5⟩ := h.2 k hk
        refine ⟨i, w, e3, ?_, e5⟩
        by_cases e6 : i = j + 1
        · rw [e6, q] at e4; cases e4
        · rw [up_ne _ _ e6, up_ne _ _ (show i ≠ j by omega)]; exact e4
theorem WR.two {f : Nat → Option Slot} {i : Nat} {v : Value} (h : WR f) (h1 : C1 (f i)) (h2 : C1 (f (i + 1))) (hv : v.category = 2) : WR (up (up f i (.val v)) (i + 1) .second) := by
  obtain ⟨n1, n2⟩ := h1.not2
  obtain ⟨m1, m2⟩ := h2.not2
  constructor
  · intro k w hk hw
    by_cases e : k = i + 1
    · subst e; rw [up_at] at hk; cases hk
    · rw [up_ne _ _ e] at hk
      by_cases e2 : k = i
      · subst e2; exact up_at _ _ _
      · rw [up_ne _ _ e2] at hk
        have q := h.1 k w hk hw
        by_cases e3 : k + 1 = i
        · rw [e3] at q; exact absurd q n1
        · rw [up_ne _ _ (show k + 1 ≠ i + 1 by omega), up_ne _ _ e3]; exact q
  · intro k hk
    by_cases e : k = i + 1
    · exact ⟨i, v, e, by rw [up_ne _ _ (show i ≠ i + 1 by omega), up_at], hv⟩
    · rw [up_ne _ _ e] at hk
      by_cases e2 : k = i
      · subst e2; rw [up_at] at hk; cases hk
      · rw [up_ne _ _ e2] at hk
        obtain ⟨j, w, e3, e4, e5⟩ := h.2 k hk
        refine ⟨j, w, e3, ?_, e5⟩
        by_cases e6 : j = i + 1
        · rw [e6] at e4; exact absurd e5 (m2 w e4)
        · by_cases e7 : j = i
          · omega
          · rw [up_ne _ _ e6, up_ne _ _ e7]; exact e4
theorem up_arr {r : Array Slot} {i : Nat} (hi : i < r.size) (x : Slot) : (fun k => (r.setIfInBounds i x)[k]?) = up (fun k => r[k]?) i x := by
  funext k
  show (r.setIfInBounds i x)[k]? = _
  rw [Array.getElem?_setIfInBounds]
  by_cases e : i = k
  · subst e; simp [up, hi]
  · rw [if_neg e, up_ne _ _ (Ne.symm e)]
theorem up_lst {L : List Slot} {i : Nat} (hi : i < L.length) (x : Slot) : (fun k => (L.set i x)[k]?) = up (fun k => L[k]?) i x := by
  funext k
  show (L.set i x)[k]? = _
  rw [List.getElem?_set]
  by_cases e : i = k
  · subst e; simp [up, hi]
  · rw [if_neg e, up_ne _ _ (Ne.symm e)]
def SR (ρ : Nat → Addr) (L : List Slot) (r : Array Slot) : Prop :=
  r.size = L.length ∧ (∀ (i : Nat) (v : Value), L[i]? = some (.val v) → r[i]? = some (.val (rv ρ v))) ∧ (∀ (i : Nat), L[i]? = some .second → r[i]? = some .second) ∧ WR (fun k => L[k]?) ∧ WR (fun k => r[k]?)
theorem SR.get {ρ : Nat → Addr} {L : List Slot} {r : Array Slot} (h : SR ρ L r) {i : Nat} {v : Value} (e : L[i]? = some (.val v)) : r[i]? = some (.val (rv ρ v)) := h.2.1 i v e
/-- a store of one word over nothing or one word -/
theorem SR.st1 {ρ : Nat → Addr} {L : List Slot} {r : Array Slot} {i : Nat} {v : Value} (h : SR ρ L r) (ho : C1 L[i]?) (hv : v.category = 1) :
    ∃ r', storeLocals r i (rv ρ v) = some r' ∧ SR ρ (L.set i (.val v)) r' := by
  obtain ⟨h1, h2, h3, h4, h5⟩ := h
  have hi : i < L.length := by
    rcases ho with h | ⟨w, h, -⟩ <;> exact (List.getElem?_eq_some_iff.mp h).1
  have hir : i < r.size := by omega
  have hcv : (rv ρ v).category = 1 := by rw [rv_cat]; exact hv
  have hcx : C1 (some (Slot.val (rv ρ v))) := Or.inr ⟨_, rfl, hcv⟩
  obtain ⟨n1, n2⟩ := ho.not2
  have fin : ∀ r' : Array Slot, r'.size = r.size → WR (fun k => r'[k]?) → r'[i]? = some (.val (rv ρ v)) → (∀ k, k ≠ i → r'[k]? = r[k]? ∨ ∀ s, L[k]? = some s → s = .unset) → SR ρ (L.set i (.val v)) r' := by
    intro r' a1 a2 a3 a4
    refine ⟨by rw [a1, h1, List.length_set], ?_, ?_, by rw [up_lst hi]; exact h4.one ho (Or.inr ⟨v, rfl, hv⟩), a2⟩
    · intro k w hk
      rw [List.getElem?_set] at hk
      by_cases e : i = k
      · subst e; simp [hi] at hk; subst hk; exact a3
      · rw [if_neg e] at hk
        rcases a4 k (Ne.symm e) with q | q
        · rw [q]; exact h2 k w hk
        · cases q _ hk
    · intro k hk
      rw [List.getElem?_set] at hk
      by_cases e : i = k
      · subst e; simp [hi] at hk
      · rw [if_neg e] at hk
        rcases a4 k (Ne.symm e) with q | q
        · rw [q]; exact h3 k hk
        · cases q _ hk
  obtain ⟨q, hq⟩ : ∃ q, r[i]? = some q := ⟨_, Array.getElem?_eq_getElem hir⟩
  have plain : C1 (r[i]?) → ∃ r', storeLocals r i (rv ρ v) = some r' ∧ SR ρ (L.set i (.val v)) r' := by
    intro hC
    have hs : storeLocals r i (rv ρ v) = some (r.setIfInBounds i (.val (rv ρ v))) := by
      rcases hC with e | ⟨w, e, hw⟩
      · exact XS.store1 e (Or.inl rfl) hcv
      · exact XS.store1 e (Or.inr ⟨w, rfl, hw⟩) hcv
    refine ⟨_, hs, fin _ (by simp) (by rw [up_arr hir]; exact h5.one hC hcx) (by simp [hir]) ?_⟩
    intro k hk
    exact Or.inl (Array.getElem?_setIfInBounds_ne (Ne.symm hk))
  cases q with
  | unset => exact plain (Or.inl hq)
  | val w =>
    by_cases hw : w.category = 2
    · have q2 := h5.1 i w hq hw
      have hj : i + 1 < r.size := (Array.getElem?_eq_some_iff.mp q2).1
      have Lu : ∀ k, (k = i ∨ k = i + 1) → ∀ s, L[k]? = some s → s = .unset := by
        intro k hk s hs
        cases s with
        | unset => rfl
        | second =>
          rcases hk with rfl | rfl
          · exact absurd hs n1
          · obtain ⟨j, u, e1, e2, e3⟩ := h4.2 _ hs
            have : j = i := by omega
            subst this
            exact absurd e3 (n2 u e2)
        | val u =>
          rcases hk with rfl | rfl
          · have := h2 _ _ hs
            rw [hq] at this
            cases this
            rw [rv_cat] at hw
            exact absurd hw (n2 u hs)
          · have := h2 _ _ hs
            have q3 : r[i + 1]? = some .second := q2
            rw [q3] at this; cases this
      have hs : storeLocals r i (rv ρ v) = some ((r.setIfInBounds (i + 1) .unset).setIfInBounds i (.val (rv ρ v))) := by
        simp [storeLocals, storeSelf, setAt, hq, (Array.getElem?_eq_some_iff.mp hq).2, hw, hj, hir, hcv]
      refine ⟨_, hs, fin _ (by simp) ?_ (by simp [hir]) ?_⟩
      · have e : (fun k => ((r.setIfInBounds (i + 1) .unset).setIfInBounds i (.val (rv ρ v)))[k]?) = up (up (up (fun k => r[k]?) i .unset) (i + 1) .unset) i (.val (rv ρ v)) := by
          rw [up_arr (by simpa using hir), up_arr hj]
          funext k
          simp only [up]
          by_cases e : k = i
          · simp [e]
          · simp [e]
        rw [e]
        exact (h5.clr hq hw).one (Or.inl (by simp [up])) hcx
      · intro k hk
        by_cases e : k = i + 1
        · exact Or.inr (Lu k (Or.inr e))
        · left
          rw [Array.getElem?_setIfInBounds_ne (Ne.symm hk), Array.getElem?_setIfInBounds_ne (Ne.symm e)]
    · refine plain (Or.inr ⟨w, hq, ?_⟩)
      cases w <;> simp [Value.category] at hw ⊢
  | second =>
    obtain ⟨j, u, e1, e2, e3⟩ := h5.2 i hq
    subst e1
    have e2' : r[j]? = some (.val u) := e2
    have hj : j < r.size := by omega
    have Lu : ∀ s, L[j]? = some s → s = .unset := by
      intro s hs
      cases s with
      | unset => rfl
      | second => have := h3 _ hs; rw [e2'] at this; cases this
      | val w =>
        have := h2 _ _ hs
        rw [e2'] at this
        cases this
        rw [rv_cat] at e3
        exact absurd (h4.1 j w hs e3) n1
    have hs : storeLocals r (j + 1) (rv ρ v) = some ((r.setIfInBounds j .unset).setIfInBounds (j + 1) (.val (rv ρ v))) := by
      simp [storeLocals, storeSelf, setAt, hq, (Array.getElem?_eq_some_iff.mp hq).2, hj, hir, hcv]
    refine ⟨_, hs, fin _ (by simp) ?_ (by simp [hir]) ?_⟩
    · have e : (fun k => ((r.setIfInBounds j .unset).setIfInBounds (j + 1) (.val (rv ρ v)))[k]?) = up (up (up (fun k => r[k]?) j .unset) (j + 1) .unset) (j + 1) (.val (rv ρ v)) := by
        rw [up_arr (by simpa using hir), up_arr hj]
        funext k
        simp only [up]
        by_cases e : k = j + 1
        · simp [e]
        · simp [e]
      rw [e]
      exact (h5.clr e2 e3).one (Or.inl (by simp [up])) hcx
    · intro k hk
      by_cases e : k = j
      · subst e; exact Or.inr Lu
      · left
        rw [Array.getElem?_setIfInBounds_ne (Ne.symm hk), Array.getElem?_setIfInBounds_ne (Ne.symm e)]
end Jvm.Own

namespace Jvm.Own
open Jvm Jvm.ClassFile Sem Op Lib Jvm.Free Jvm.Stand Jvm.LawKit Jvm.RoadKit
theorem cat12 (w : Value) (h : ¬ w.category = 2) : w.category = 1 := by cases w <;> simp [Value.category] at h ⊢
theorem getset_ne {r : Array Slot} {i k : Nat} {x t : Slot} (h : r[k]? = some t) (ne : i ≠ k) (hk : k < (r.setIfInBounds i x).size) : (r.setIfInBounds i x)[k] = t := by
  have q : (r.setIfInBounds i x)[k]? = some t := by rw [Array.getElem?_setIfInBounds_ne ne]; exact h
  exact (Array.getElem?_eq_some_iff.mp q).2
/-- a store of two words over nothing or single words -/
theorem SR.st2 {ρ : Nat → Addr} {L : List Slot} {r : Array Slot} {i : Nat} {v : Value} (h : SR ρ L r) (ho : C1 L[i]?) (ho' : C1 L[i + 1]?) (hv : v.category = 2) :
    ∃ r', storeLocals r i (rv ρ v) = some r' ∧ SR ρ ((L.set i (.val v)).set (i + 1) .second) r' := by
  obtain ⟨h1, h2, h3, h4, h5⟩ := h
  have hi : i + 1 < L.length := by
    rcases ho' with h | ⟨w, h, -⟩ <;> exact (List.getElem?_eq_some_iff.mp h).1
  have hir1 : i + 1 < r.size := by omega
  have hir : i < r.size := by omega
  have hcv : (rv ρ v).category = 2 := by rw [rv_cat]; exact hv
  obtain ⟨n1, n2⟩ := ho.not2
  obtain ⟨m1, m2⟩ := ho'.not2
  have nr : ∀ w, r[i]? = some (.val w) → ∀ u, L[i]? = some (.val u) → w.category = 2 → False := by
    intro w hw u hu hc
    have := h2 _ _ hu
    rw [hw] at this; cases this
    rw [rv_cat] at hc
    exact n2 u hu hc
  have fin : ∀ r' : Array Slot, r'.size = r.size → WR (fun k => r'[k]?) → r'[i]? = some (.val (rv ρ v)) → r'[i + 1]? = some .second → (∀ k, k ≠ i → k ≠ i + 1 → r'[k]? = r[k]? ∨ ∀ s, L[k]? = some s → s = .unset) → SR ρ ((L.set i (.val v)).set (i + 1) .second) r' := by
    intro r' a1 a2 a3 a3' a4
    refine ⟨by rw [a1, h1]; simp, ?_, ?_, by rw [up_lst (by simpa using hi), up_lst (by omega)]; exact h4.two ho ho' hv, a2⟩
    · intro k w hk
      rw [List.getElem?_set] at hk
      by_cases e : i + 1 = k
      · subst e; simp [hi] at hk
      · rw [if_neg e, List.getElem?_set] at hk
        by_cases e2 : i = k
        · subst e2; simp [show i < L.length by omega] at hk; subst hk; exact a3
        · rw [if_neg e2] at hk
          rcases a4 k (Ne.symm e2) (Ne.symm e) with q | q
          · rw [q]; exact h2 k w hk
          · cases q _ hk
    · intro k hk
      rw [List.getElem?_set] at hk
      by_cases e : i + 1 = k
      · subst e; exact a3'
      · rw [if_neg e, List.getElem?_set] at hk
        by_cases e2 : i = k
        · subst e2; simp [show i < L.length by omega] at hk
        · rw [if_neg e2] at hk
          rcases a4 k (Ne.symm e2) (Ne.symm e) with q | q
          · rw [q]; exact h3 k hk
          · cases q _ hk
  have Lun2 : ∀ u, r[i + 1]? = some (.val u) → u.category = 2 → ∀ s, L[i + 2]? = some s → s = .unset := by
    intro u hu hc s hs
    have q2 : r[i + 2]? = some .second := h5.1 (i + 1) u hu hc
    cases s with
    | unset => rfl
    | second =>
      obtain ⟨j, w, e1, e2, e3⟩ := h4.2 _ hs
      have : j = i + 1 := by omega
      subst this
      exact absurd e3 (m2 w e2)
    | val w => have := h2 _ _ hs; rw [q2] at this; cases this
  obtain ⟨q, hq⟩ : ∃ q, r[i]? = some q := ⟨_, Array.getElem?_eq_getElem hir⟩
  obtain ⟨q1, hq1⟩ : ∃ q, r[i + 1]? = some q := ⟨_, Array.getElem?_eq_getElem hir1⟩
  have ne1 : i + 1 ≠ i := by omega
  cases q with
  | unset =>
    have hC : C1 (r[i]?) := Or.inl hq
    cases q1 with
    | unset =>
      refine ⟨(r.setIfInBounds i (.val (rv ρ v))).setIfInBounds (i + 1) .second, by simp [storeLocals, storeSelf, setAt, hq, (Array.getElem?_eq_some_iff.mp hq).2, hq1, (Array.getElem?_eq_some_iff.mp hq1).2, hir, hir1, hcv, Array.getElem?_setIfInBounds], fin _ (by simp) ?_ (by simp [hir, Array.getElem?_setIfInBounds]) (by simp [hir1]) ?_⟩
      · rw [up_arr (by simpa using hir1), up_arr hir]; exact h5.two hC (Or.inl hq1) hcv
      · intro k a b; left; rw [Array.getElem?_setIfInBounds_ne (Ne.symm b), Array.getElem?_setIfInBounds_ne (Ne.symm a)]
    | second => obtain ⟨j, w, e1, e2, e3⟩ := h5.2 _ hq1; have : j = i := by omega
                subst this; have e2' : r[j]? = some (.val w) := e2; rw [hq] at e2'; cases e2'
    | val u =>
      by_cases hu : u.category = 2
      · have q2 : r[i + 2]? = some .second := h5.1 (i + 1) u hq1 hu
        have hi2 : i + 2 < r.size := (Array.getElem?_eq_some_iff.mp q2).1
        refine ⟨((r.setIfInBounds i (.val (rv ρ v))).setIfInBounds (i + 2) .unset).setIfInBounds (i + 1) .second, by simp [storeLocals, storeSelf, setAt, hq, (Array.getElem?_eq_some_iff.mp hq).2, hq1, (Array.getElem?_eq_some_iff.mp hq1).2, hir, hir1, hi2, hcv, hu, Array.getElem?_setIfInBounds], fin _ (by simp) ?_ (by simp [hir, Array.getElem?_setIfInBounds]) (by simp [hir1]) ?_⟩
        · have e : (fun k => (((r.setIfInBounds i (.val (rv ρ v))).setIfInBounds (i + 2) .unset).setIfInBounds (i + 1) .second)[k]?) = up (up (up (up (fun k => r[k]?) (i + 1) .unset) (i + 2) .unset) i (.val (rv ρ v))) (i + 1) .second := by
            rw [up_arr (by simpa using hir1), up_arr (by simpa using hi2), up_arr hir]
            funext k
            simp only [up]
            by_cases e : k = i + 1
            · simp [e]
            · by_cases e2 : k = i
              · simp [e2]
              · simp [e, e2]
          rw [e]
          exact (h5.clr hq1 hu).two (Or.inl (by simp [up, hq] <;> omega)) (Or.inl (by simp [up] <;> omega)) hcv
        · intro k a b
          by_cases e : k = i + 2
          · subst e; exact Or.inr (Lun2 u hq1 hu)
          · left; rw [Array.getElem?_setIfInBounds_ne (Ne.symm b), Array.getElem?_setIfInBounds_ne (Ne.symm e), Array.getElem?_setIfInBounds_ne (Ne.symm a)]
      · refine ⟨(r.setIfInBounds i (.val (rv ρ v))).setIfInBounds (i + 1) .second, by simp [storeLocals, storeSelf, setAt, hq, (Array.getElem?_eq_some_iff.mp hq).2, hq1, (Array.getElem?_eq_some_iff.mp hq1).2, hir, hir1, hcv, hu, Array.getElem?_setIfInBounds], fin _ (by simp) ?_ (by simp [hir, Array.getElem?_setIfInBounds]) (by simp [hir1]) ?_⟩
        · rw [up_arr (by simpa using hir1), up_arr hir]; exact h5.two hC (Or.inr ⟨u, hq1, cat12 u hu⟩) hcv
        · intro k a b; left; rw [Array.getElem?_setIfInBounds_ne (Ne.symm b), Array.getElem?_setIfInBounds_ne (Ne.symm a)]
  | val w =>
    by_cases hw : w.category = 2
    · have q2 : r[i + 1]? = some .second := h5.1 i w hq hw
      have Lu : ∀ s, L[i]? = some s → s = .unset := by
        intro s hs
        cases s with
        | unset => rfl
        | second => exact absurd hs n1
        | val u => exact (nr w hq u hs hw).elim
      refine ⟨((r.setIfInBounds (i + 1) .unset).setIfInBounds i (.val (rv ρ v))).setIfInBounds (i + 1) .second, by simp [storeLocals, storeSelf, setAt, hq, (Array.getElem?_eq_some_iff.mp hq).2, hw, hir, hir1, hcv, Array.getElem?_setIfInBounds], fin _ (by simp) ?_ (by simp [hir, Array.getElem?_setIfInBounds]) (by simp [hir1]) ?_⟩
      · have e : (fun k => (((r.setIfInBounds (i + 1) .unset).setIfInBounds i (.val (rv ρ v))).setIfInBounds (i + 1) .second)[k]?) = up (up (up (up (fun k => r[k]?) i .unset) (i + 1) .unset) i (.val (rv ρ v))) (i + 1) .second := by
          rw [up_arr (by simpa using hir1), up_arr (by simpa using hir), up_arr hir1]
          funext k
          simp only [up]
          by_cases e : k = i + 1
          · simp [e]
          · by_cases e2 : k = i
            · simp [e2]
            · simp [e, e2]
        rw [e]
        exact (h5.clr hq hw).two (Or.inl (by simp [up] <;> omega)) (Or.inl (by simp [up] <;> omega)) hcv
      · intro k a b
        left; rw [Array.getElem?_setIfInBounds_ne (Ne.symm b), Array.getElem?_setIfInBounds_ne (Ne.symm a), Array.getElem?_setIfInBounds_ne (Ne.symm b)]
    · have hC : C1 (r[i]?) := Or.inr ⟨w, hq, cat12 w hw⟩
      cases q1 with
      | unset =>
        refine ⟨(r.setIfInBounds i (.val (rv ρ v))).setIfInBounds (i + 1) .second, by simp [storeLocals, storeSelf, setAt, hq, (Array.getElem?_eq_some_iff.mp hq).2, hq1, (Array.getElem?_eq_some_iff.mp hq1).2, hw, hir, hir1, hcv, Array.getElem?_setIfInBounds], fin _ (by simp) ?_ (by simp [hir, Array.getElem?_setIfInBounds]) (by simp [hir1]) ?_⟩
        · rw [up_arr (by simpa using hir1), up_arr hir]; exact h5.two hC (Or.inl hq1) hcv
        · intro k a b; left; rw [Array.getElem?_setIfInBounds_ne (Ne.symm b), Array.getElem?_setIfInBounds_ne (Ne.symm a)]
      | second => obtain ⟨j, u, e1, e2, e3⟩ := h5.2 _ hq1; have : j = i := by omega
                  subst this; have e2' : r[j]? = some (.val u) := e2; rw [hq] at e2'; cases e2'; exact absurd e3 hw
      | val u =>
        by_cases hu : u.category = 2
        · have q2 : r[i + 2]? = some .second := h5.1 (i + 1) u hq1 hu
          have hi2 : i + 2 < r.size := (Array.getElem?_eq_some_iff.mp q2).1
          refine ⟨((r.setIfInBounds i (.val (rv ρ v))).setIfInBounds (i + 2) .unset).setIfInBounds (i + 1) .second, by simp [storeLocals, storeSelf, setAt, hq, (Array.getElem?_eq_some_iff.mp hq).2, hq1, (Array.getElem?_eq_some_iff.mp hq1).2, hw, hir, hir1, hi2, hcv, hu, Array.getElem?_setIfInBounds], fin _ (by simp) ?_ (by simp [hir, Array.getElem?_setIfInBounds]) (by simp [hir1]) ?_⟩
          · have e : (fun k => (((r.setIfInBounds i (.val (rv ρ v))).setIfInBounds (i + 2) .unset).setIfInBounds (i + 1) .second)[k]?) = up (up (up (up (fun k => r[k]?) (i + 1) .unset) (i + 2) .unset) i (.val (rv ρ v))) (i + 1) .second := by
              rw [up_arr (by simpa using hir1), up_arr (by simpa using hi2), up_arr hir]
              funext k
              simp only [up]
              by_cases e : k = i + 1
              · simp [e]
              · by_cases e2 : k = i
                · simp [e2]
                · simp [e, e2]
            rw [e]
            exact (h5.clr hq1 hu).two (Or.inr ⟨w, by simp [up, hq] <;> omega, cat12 w hw⟩) (Or.inl (by simp [up] <;> omega)) hcv
          · intro k a b
            by_cases e : k = i + 2
            · subst e; exact Or.inr (Lun2 u hq1 hu)
            · left; rw [Array.getElem?_setIfInBounds_ne (Ne.symm b), Array.getElem?_setIfInBounds_ne (Ne.symm e), Array.getElem?_setIfInBounds_ne (Ne.symm a)]
        · refine ⟨(r.setIfInBounds i (.val (rv ρ v))).setIfInBounds (i + 1) .second, by simp [storeLocals, storeSelf, setAt, hq, (Array.getElem?_eq_some_iff.mp hq).2, hq1, (Array.getElem?_eq_some_iff.mp hq1).2, hw, hir, hir1, hcv, hu, Array.getElem?_setIfInBounds], fin _ (by simp) ?_ (by simp [hir, Array.getElem?_setIfInBounds]) (by simp [hir1]) ?_⟩
          · rw [up_arr (by simpa using hir1), up_arr hir]; exact h5.two hC (Or.inr ⟨u, hq1, cat12 u hu⟩) hcv
          · intro k a b; left; rw [Array.getElem?_setIfInBounds_ne (Ne.symm b), Array.getElem?_setIfInBounds_ne (Ne.symm a)]
  | second =>
    obtain ⟨j, y, e1, e2, e3⟩ := h5.2 i hq
    subst e1
    have e2' : r[j]? = some (.val y) := e2
    have hj : j < r.size := by omega
    have Lu : ∀ s, L[j]? = some s → s = .unset := by
      intro s hs
      cases s with
      | unset => rfl
      | second => have := h3 _ hs; rw [e2'] at this; cases this
      | val w =>
        have := h2 _ _ hs
        rw [e2'] at this
        cases this
        rw [rv_cat] at e3
        exact absurd (h4.1 j w hs e3) n1
    have W5 := h5.clr e2 e3
    cases q1 with
    | unset =>
      refine ⟨((r.setIfInBounds j .unset).setIfInBounds (j + 1) (.val (rv ρ v))).setIfInBounds (j + 1 + 1) .second, by simp [storeLocals, storeSelf, setAt, hq, (Array.getElem?_eq_some_iff.mp hq).2, hq1, (Array.getElem?_eq_some_iff.mp hq1).2, getset_ne hq1 (show j ≠ j + 1 + 1 by omega), hj, hir, hir1, hcv, Array.getElem?_setIfInBounds], fin _ (by simp) ?_ (by simp [hir, Array.getElem?_setIfInBounds]) (by simp [hir1]) ?_⟩
      · have e : (fun k => (((r.setIfInBounds j .unset).setIfInBounds (j + 1) (.val (rv ρ v))).setIfInBounds (j + 1 + 1) .second)[k]?) = up (up (up (up (fun k => r[k]?) j .unset) (j + 1) .unset) (j + 1) (.val (rv ρ v))) (j + 1 + 1) .second := by
          rw [up_arr (by simpa using hir1), up_arr (by simpa using hir), up_arr hj]
          funext k
          simp only [up]
          by_cases e : k = j + 1 + 1
          · simp [e]
          · by_cases e2 : k = j + 1
            · simp [e2]
            · simp [e, e2]
        rw [e]
        exact W5.two (Or.inl (by simp [up] <;> omega)) (Or.inl (by simp [up, hq1] <;> omega)) hcv
      · intro k a b
        by_cases e : k = j
        · subst e; exact Or.inr Lu
        · left; rw [Array.getElem?_setIfInBounds_ne (Ne.symm b), Array.getElem?_setIfInBounds_ne (Ne.symm a), Array.getElem?_setIfInBounds_ne (Ne.symm e)]
    | second => obtain ⟨k, w, f1, f2, f3⟩ := h5.2 _ hq1; have : k = j + 1 := by omega
                subst this; have f2' : r[j + 1]? = some (.val w) := f2; rw [hq] at f2'; cases f2'
    | val u =>
      by_cases hu : u.category = 2
      · have q2 : r[j + 1 + 2]? = some .second := h5.1 (j + 1 + 1) u hq1 hu
        have hi2 : j + 1 + 2 < r.size := (Array.getElem?_eq_some_iff.mp q2).1
        refine ⟨(((r.setIfInBounds j .unset).setIfInBounds (j + 1) (.val (rv ρ v))).setIfInBounds (j + 1 + 2) .unset).setIfInBounds (j + 1 + 1) .second, by simp [storeLocals, storeSelf, setAt, hq, (Array.getElem?_eq_some_iff.mp hq).2, hq1, (Array.getElem?_eq_some_iff.mp hq1).2, getset_ne hq1 (show j ≠ j + 1 + 1 by omega), hj, hir, hir1, hi2, hcv, hu, Array.getElem?_setIfInBounds], fin _ (by simp) ?_ (by simp [hir, Array.getElem?_setIfInBounds]) (by simp [hir1]) ?_⟩
        · have e : (fun k => ((((r.setIfInBounds j .unset).setIfInBounds (j + 1) (.val (rv ρ v))).setIfInBounds (j + 1 + 2) .unset).setIfInBounds (j + 1 + 1) .second)[k]?) = up (up (up (up (up (up (fun k => r[k]?) j .unset) (j + 1) .unset) (j + 1 + 1) .unset) (j + 1 + 1 + 1) .unset) (j + 1) (.val (rv ρ v))) (j + 1 + 1) .second := by
            rw [up_arr (by simpa using hir1), up_arr (by simpa using hi2), up_arr (by simpa using hir), up_arr hj]
            funext k
            simp only [up]
            by_cases e : k = j + 1 + 1
            · simp [e]
            · by_cases e2 : k = j + 1
              · simp [e2]
              · simp [e, e2]
          rw [e]
          exact (W5.clr (j := j + 1 + 1) (v := u) (by simp [up, hq1] <;> omega) hu).two (Or.inl (by simp [up] <;> omega)) (Or.inl (by simp [up] <;> omega)) hcv
        · intro k a b
          by_cases e : k = j
          · subst e; exact Or.inr Lu
          · by_cases e4 : k = j + 1 + 2
            · subst e4; exact Or.inr (Lun2 u hq1 hu)
            · left; rw [Array.getElem?_setIfInBounds_ne (Ne.symm b), Array.getElem?_setIfInBounds_ne (Ne.symm e4), Array.getElem?_setIfInBounds_ne (Ne.symm a), Array.getElem?_setIfInBounds_ne (Ne.symm e)]
      · refine ⟨((r.setIfInBounds j .unset).setIfInBounds (j + 1) (.val (rv ρ v))).setIfInBounds (j + 1 + 1) .second, by simp [storeLocals, storeSelf, setAt, hq, (Array.getElem?_eq_some_iff.mp hq).2, hq1, (Array.getElem?_eq_some_iff.mp hq1).2, getset_ne hq1 (show j ≠ j + 1 + 1 by omega), hj, hir, hir1, hcv, hu, Array.getElem?_setIfInBounds], fin _ (by simp) ?_ (by simp [hir, Array.getElem?_setIfInBounds]) (by simp [hir1]) ?_⟩
        · have e : (fun k => (((r.setIfInBounds j .unset).setIfInBounds (j + 1) (.val (rv ρ v))).setIfInBounds (j + 1 + 1) .second)[k]?) = up (up (up (up (fun k => r[k]?) j .unset) (j + 1) .unset) (j + 1) (.val (rv ρ v))) (j + 1 + 1) .second := by
            rw [up_arr (by simpa using hir1), up_arr (by simpa using hir), up_arr hj]
            funext k
            simp only [up]
            by_cases e : k = j + 1 + 1
            · simp [e]
            · by_cases e2 : k = j + 1
              · simp [e2]
              · simp [e, e2]
          rw [e]
          exact W5.two (Or.inl (by simp [up] <;> omega)) (Or.inr ⟨u, by simp [up, hq1] <;> omega, cat12 u hu⟩) hcv
        · intro k a b
          by_cases e : k = j
          · subst e; exact Or.inr Lu
          · left; rw [Array.getElem?_setIfInBounds_ne (Ne.symm b), Array.getElem?_setIfInBounds_ne (Ne.symm a), Array.getElem?_setIfInBounds_ne (Ne.symm e)]
/-- which lists of slots are laid out well -/
def wfL : List Slot → Bool
  | [] => true
  | .unset :: t => wfL t
  | .second :: _ => false
  | [.val v] => decide (v.category = 1)
  | .val v :: .second :: t => decide (v.category = 2) && wfL t
  | .val v :: .unset :: t => decide (v.category = 1) && wfL t
  | .val v :: .val u :: t => decide (v.category = 1) && wfL (.val u :: t)
/-- the walk forgets the variables that the mask marks -/
def fg : List Bool → List Slot → List Slot
  | true :: b, _ :: t => .unset :: fg b t
  | false :: b, s :: t => s :: fg b t
  | _, t => t
theorem WR.nil : WR (fun k => ([] : List Slot)[k]?) := ⟨fun i v h => by simp at h, fun i h => by simp at h⟩
theorem WR.cons1 {t : List Slot} {s : Slot} (h : WR (fun k => t[k]?)) (hs : C1 (some s)) : WR (fun k => (s :: t)[k]?) := by
  obtain ⟨n1, n2⟩ := hs.not2
  constructor
  · intro i v hi hv
    cases i with
    | zero => exact absurd hv (n2 v (by simpa using hi))
    | succ i => have := h.1 i v (by simpa using hi) hv; simpa using this
  · intro i hi
    cases i with
    | zero => exact absurd (by simpa using hi) n1
    | succ i => obtain ⟨j, v, e1, e2, e3⟩ := h.2 i (by simpa using hi); exact ⟨j + 1, v, by omega, by simpa using e2, e3⟩
theorem WR.cons2 {t : List Slot} {w : Value} (h : WR (fun k => t[k]?)) (hw : w.category = 2) : WR (fun k => (Slot.val w :: .second :: t)[k]?) := by
  constructor
  · intro i v hi hv
    match i with
    | 0 => simp
    | 1 => simp at hi
    | i + 2 => have := h.1 i v (by simpa using hi) hv; simpa using this
  · intro i hi
    match i with
    | 0 => simp at hi
    | 1 => exact ⟨0, w, rfl, by simp, hw⟩
    | i + 2 => obtain ⟨j, v, e1, e2, e3⟩ := h.2 i (by simpa using hi); exact ⟨j + 2, v, by omega, by simpa using e2, e3⟩
theorem WR.of_wfL : (L : List Slot) → wfL L = true → WR (fun k => L[k]?)
  | [], _ => WR.nil
  | .unset :: t, h => (WR.of_wfL t h).cons1 (Or.inl rfl)
  | .second :: _, h => by simp [wfL] at h
  | [.val v], h => WR.nil.cons1 (Or.inr ⟨v, rfl, by simpa [wfL] using h⟩)
  | .val v :: .second :: t, h => by simp [wfL] at h; exact (WR.of_wfL t h.2).cons2 h.1
  | .val v :: .unset :: t, h => by simp [wfL] at h; exact ((WR.of_wfL t h.2).cons1 (Or.inl rfl)).cons1 (Or.inr ⟨v, rfl, h.1⟩)
  | .val v :: .val u :: t, h => by
    have h' : decide (v.category = 1) = true ∧ wfL (.val u :: t) = true := by rw [wfL, Bool.and_eq_true] at h; exact h
    exact (WR.of_wfL (.val u :: t) h'.2).cons1 (Or.inr ⟨v, rfl, of_decide_eq_true h'.1⟩)
theorem fg_length : (b : List Bool) → (L : List Slot) → (fg b L).length = L.length
  | true :: b, _ :: t => by simp [fg, fg_length b t]
  | false :: b, s :: t => by simp [fg, fg_length b t]
  | [], t => by simp [fg]
  | true :: _, [] => by simp [fg]
  | false :: _, [] => by simp [fg]
theorem fg_get : (b : List Bool) → (L : List Slot) → ∀ (i : Nat) (s : Slot), (fg b L)[i]? = some s → s = .unset ∨ L[i]? = some s
  | true :: b, x :: t, i, s, h => by
    cases i with
    | zero => left; simpa [fg] using h.symm
    | succ i => have := fg_get b t i s (by simpa [fg] using h); simpa using this
  | false :: b, x :: t, i, s, h => by
    cases i with
    | zero => right; simpa [fg] using h
    | succ i => have := fg_get b t i s (by simpa [fg] using h); simpa using this
  | [], t, i, s, h => by right; simpa [fg] using h
  | true :: _, [], i, s, h => by right; simpa [fg] using h
  | false :: _, [], i, s, h => by right; simpa [fg] using h
theorem SR.forget {ρ : Nat → Addr} {L : List Slot} {r : Array Slot} (h : SR ρ L r) (b : List Bool) (hw : wfL (fg b L) = true) : SR ρ (fg b L) r := by
  obtain ⟨h1, h2, h3, h4, h5⟩ := h
  refine ⟨by rw [fg_length]; exact h1, fun i v hi => ?_, fun i hi => ?_, WR.of_wfL _ hw, h5⟩
  · rcases fg_get _ _ _ _ hi with e | e
    · cases e
    · exact h2 i v e
  · rcases fg_get _ _ _ _ hi with e | e
    · cases e
    · exact h3 i e
/-- at a method's entry -/
theorem a2l (ρ : Nat → Addr) (as : List Value) (mx : Nat) : argsToLocals (as.map (rv ρ)).toArray mx = (argsToLocals as.toArray mx).map (rs ρ) := by
  have key : ∀ (as : List Value) (acc : Array Slot), (as.map (rv ρ)).foldl (fun acc v => if v.category = 2 then (acc.push (.val v)).push .second else acc.push (.val v)) (acc.map (rs ρ)) = (as.foldl (fun acc v => if v.category = 2 then (acc.push (.val v)).push .second else acc.push (.val v)) acc).map (rs ρ) := by
    intro as
    induction as with
    | nil => intro acc; rfl
    | cons v t ih =>
      intro acc
      simp only [List.map_cons, List.foldl_cons, rv_cat]
      by_cases hv : v.category = 2
      · rw [if_pos hv, if_pos hv, ← ih]; simp [Array.map_push, rs]
      · rw [if_neg hv, if_neg hv, ← ih]; simp [Array.map_push, rs]
  have k0 := key as #[]
  simp only [Array.map_empty] at k0
  simp only [argsToLocals, List.foldl_toArray', List.size_toArray]
  simp only [k0, Array.map_append, Array.size_map, Array.map_replicate, rs]
theorem SR.entry (ρ : Nat → Addr) (as : List Value) (mx : Nat) {L : List Slot} (hL : (argsToLocals as.toArray mx).toList = L) (hw : wfL L = true) : SR ρ L (argsToLocals (as.map (rv ρ)).toArray mx) := by
  subst hL
  rw [a2l]
  have hW := WR.of_wfL _ hw
  generalize argsToLocals as.toArray mx = A at hW
  have g : ∀ i : Nat, (A.map (rs ρ))[i]? = (A.toList[i]?).map (rs ρ) := by intro i; simp
  refine ⟨by simp, fun i v hi => by rw [g, hi]; rfl, fun i hi => by rw [g, hi]; rfl, hW, ?_, ?_⟩
  · intro i v hi hv
    have hi' : (A.toList[i]?).map (rs ρ) = some (.val v) := by rw [← g]; exact hi
    cases hs : A.toList[i]? with
    | none => rw [hs] at hi'; cases hi'
    | some s =>
      rw [hs] at hi'
      cases s with
      | unset => cases hi'
      | second => cases hi'
      | val u =>
        cases hi'
        have := hW.1 i u hs (by rwa [rv_cat] at hv)
        show (A.map (rs ρ))[i + 1]? = _
        rw [g]
        have t : A.toList[i + 1]? = some .second := this
        rw [t]; rfl
  · intro i hi
    have hi' : (A.toList[i]?).map (rs ρ) = some .second := by rw [← g]; exact hi
    cases hs : A.toList[i]? with
    | none => rw [hs] at hi'; cases hi'
    | some s =>
      rw [hs] at hi'
      cases s with
      | unset => cases hi'
      | val u => cases hi'
      | second =>
        obtain ⟨j, v, e1, e2, e3⟩ := hW.2 i hs
        refine ⟨j, rv ρ v, e1, ?_, by rw [rv_cat]; exact e3⟩
        show (A.map (rs ρ))[j]? = _
        rw [g]
        have t : A.toList[j]? = some (.val v) := e2
        rw [t]; rfl
end Jvm.Own

namespace Jvm.Own
open Jvm Jvm.ClassFile Sem Op Lib Jvm.Free Jvm.Stand Jvm.LawKit Jvm.RoadKit
/-! ## 2. A method's data; what it means that a walk from a point of it comes to an end -/
/-- name, bytes, number of variables, what it returns, room, cells that it makes -/
abbrev MD : Type := MethodName × ByteArray × Nat × Option FieldType × Room × Nat
abbrev nmOf (md : MD) : MethodName := md.1
abbrev byOf (md : MD) : ByteArray := md.2.1
abbrev mxOf (md : MD) : Nat := md.2.2.1
abbrev rtOf (md : MD) : Option FieldType := md.2.2.2.1
abbrev rmOf (md : MD) : Room := md.2.2.2.2.1
abbrev exOf (md : MD) : Nat := md.2.2.2.2.2
/-- the class whose methods are walked; where the walk's references point; the first new address; what the heap holds; what a walk leaves alone -/
abbrev Mode (μ E : Type) : Type := String × (E → Nat → Addr) × (E → Nat) × (E → μ → Heap → Prop) × (E → Heap → Heap → Prop)
abbrev Mode.own {μ E : Type} (M : Mode μ E) : String := M.1
abbrev Mode.rho {μ E : Type} (M : Mode μ E) : E → Nat → Addr := M.2.1
abbrev Mode.lo {μ E : Type} (M : Mode μ E) : E → Nat := M.2.2.1
abbrev Mode.rel {μ E : Type} (M : Mode μ E) : E → μ → Heap → Prop := M.2.2.2.1
abbrev Mode.frm {μ E : Type} (M : Mode μ E) : E → Heap → Heap → Prop := M.2.2.2.2
def Kn (Z : State) (own : String) (md : MD) (p : Program) (s : State) (m : MethodId) (meth : Method) (c : Code) : Prop :=
  p.tables.exec = Jvm.exec ∧ Z.Warmed39 s.vm ∧ s.vm.findClass own = some m.cls ∧ meth.name = (nmOf md).name ∧ meth.sig.returnType = rtOf md ∧ meth.locks = false ∧ c.code = byOf md ∧ c.maxLocals = mxOf md
def Done {μ E : Type} (l : Launch) (M : Mode μ E) (md : MD) (Q : Option Value → μ → Prop) (en : E) (p : Program) (e : Env) (s : State) (m : MethodId) (args : Array Value) (below : List Frame) (meth : Method) (c : Code) (T : State) (g : JFrame) : Prop :=
  ∃ (T' : State) (locs' : List Loc) (su' : Nat) (v : Option Value) (w' : μ), Stand p l e (rmOf md) s m args below meth c T' locs' (exOf md) su' ∧ exOf md ≤ (rmOf md).cells ∧ su' ≤ (rmOf md).slots ∧ T'.heap.size = s.heap.size + exOf md ∧ Fr (M.lo en) locs' ∧ M.rel en w' T'.heap ∧ M.frm en T.heap T'.heap ∧
    (meth.sig.returnType = none → v = none) ∧ (∀ ρ x, v = some x → rv ρ x = x) ∧ Q v w' ∧
    ∀ fs, (∀ (f : JFrame) (acts : List Action), f.method = m → f.locked = none → f.entered = [] → (doReturn e (T'.setTop f) acts v).1 = T'.setFrames fs) → Steps p.tables e below (T.setTop g) (T'.setFrames fs)
/-- from the pc, with these variables and operands, over w, the walk returns with what Q says -/
def Wk {μ E : Type} (l : Launch) (Z : State) (M : Mode μ E) (md : MD) (pc : Nat) (L : List Slot) (S : List Value) (w : μ) (cu su : Nat) (Q : Option Value → μ → Prop) : Prop :=
  ∀ (en : E) (p : Program) (e : Env) (s : State) (m : MethodId) (args : Array Value) (below : List Frame) (meth : Method) (c : Code) (T : State) (locs : List Loc) (r : Array Slot),
    Stand p l e (rmOf md) s m args below meth c T locs cu su → Kn Z M.own md p s m meth c → T.heap.size = s.heap.size + cu → Fr (M.lo en) locs → M.rel en w T.heap → SR (M.rho en) L r →
    Done l M md Q en p e s m args below meth c T (mkF m pc r (S.map (rv (M.rho en))))
section Steps
variable {μ E : Type} {l : Launch} {Z : State} {M : Mode μ E} {md : MD} {pc pc' : Nat} {L L' : List Slot} {S : List Value} {w : μ} {cu su : Nat} {Q : Option Value → μ → Prop}
theorem Done.pre {en : E} {p : Program} {e : Env} {s : State} {m : MethodId} {args : Array Value} {below : List Frame} {meth : Method} {c : Code} {T T1 : State} {g g1 : JFrame} (h : Done l M md Q en p e s m args below meth c T1 g1) (hT : ∀ x, M.frm en T1.heap x → M.frm en T.heap x)
    (st : ∀ t, Steps p.tables e below (T1.setTop g1) t → Steps p.tables e below (T.setTop g) t) : Done l M md Q en p e s m args below meth c T g := by
  obtain ⟨T', locs', su', v, w', a1, a2, a3, a4, a5, a6, a7, a8, a9, a10, a11⟩ := h
  exact ⟨T', locs', su', v, w', a1, a2, a3, a4, a5, a6, hT _ a7, a8, a9, a10, fun fs hf => st _ (a11 fs hf)⟩
theorem Wk.mono {Q' : Option Value → μ → Prop} (h : Wk l Z M md pc L S w cu su Q) (hq : ∀ v w', Q v w' → Q' v w') : Wk l Z M md pc L S w cu su Q' := by
  intro en p e s m args below meth c T locs r X K hz hF hR hL
  obtain ⟨T', locs', su', v, w', a1, a2, a3, a4, a5, a6, a7, a8, a9, a10, a11⟩ := h en p e s m args below meth c T locs r X K hz hF hR hL
  exact ⟨T', locs', su', v, w', a1, a2, a3, a4, a5, a6, a7, a8, a9, hq _ _ a10, a11⟩
abbrev InsA (md : MD) (pc : Nat) (i : Instr) (n pc' : Nat) : Prop := decode (byOf md) pc = .ok (i, n) ∧ pc + n = pc'
abbrev InsB (md : MD) (pc : Nat) (i : Instr) (n pc' : Nat) (o : Int) (pt : Nat) : Prop := decode (byOf md) pc = .ok (i, n) ∧ pc + n = pc' ∧ 0 ≤ (pc : Int) + o ∧ ((pc : Int) + o).toNat = pt
theorem Kn.by {own : String} {p : Program} {s : State} {m : MethodId} {meth : Method} {c : Code} (K : Kn Z own md p s m meth c) : c.code = byOf md := K.2.2.2.2.2.2.1
theorem Wk.forget (b : List Bool) (hf : fg b L = L') (hw : wfL L' = true) (h : Wk l Z M md pc L' S w cu su Q) : Wk l Z M md pc L S w cu su Q :=
  fun en p e s m args below meth c T locs r X K hz hF hR hL => h en p e s m args below meth c T locs r X K hz hF hR (by subst hf; exact hL.forget b hw)
theorem Wk.iloadN {k : Fin 4} {v : Int32} (hd : InsA md pc (.iload_n k) 1 pc') (hl : L[k.val]? = some (.val (.int v))) (h : Wk l Z M md pc' L (.int v :: S) w cu su Q) : Wk l Z M md pc L (S) w cu su Q :=
  fun en p e s m args below meth c T locs r X K hz hF hR hL => by
  obtain ⟨hd, rfl⟩ := hd
  exact (h en p e s m args below meth c T locs r X K hz hF hR hL).pre (fun _ q => q) fun t k => XS.iloadN X.here K.1 rfl (hb K.by hd) (hL.get hl) k
theorem Wk.iload {k : Nat} {v : Int32} (hd : InsA md pc (.iload k) 2 pc') (hl : L[k]? = some (.val (.int v))) (h : Wk l Z M md pc' L (.int v :: S) w cu su Q) : Wk l Z M md pc L (S) w cu su Q :=
  fun en p e s m args below meth c T locs r X K hz hF hR hL => by
  obtain ⟨hd, rfl⟩ := hd
  exact (h en p e s m args below meth c T locs r X K hz hF hR hL).pre (fun _ q => q) fun t k => XS.iload X.here K.1 rfl (hb K.by hd) (hL.get hl) k
theorem Wk.lloadN {k : Fin 4} {v : Int64} (hd : InsA md pc (.lload_n k) 1 pc') (hl : L[k.val]? = some (.val (.long v))) (h : Wk l Z M md pc' L (.long v :: S) w cu su Q) : Wk l Z M md pc L (S) w cu su Q :=
  fun en p e s m args below meth c T locs r X K hz hF hR hL => by
  obtain ⟨hd, rfl⟩ := hd
  exact (h en p e s m args below meth c T locs r X K hz hF hR hL).pre (fun _ q => q) fun t k => XT.lloadN X.here K.1 rfl (hb K.by hd) (hL.get hl) k
theorem Wk.lload {k : Nat} {v : Int64} (hd : InsA md pc (.lload k) 2 pc') (hl : L[k]? = some (.val (.long v))) (h : Wk l Z M md pc' L (.long v :: S) w cu su Q) : Wk l Z M md pc L (S) w cu su Q :=
  fun en p e s m args below meth c T locs r X K hz hF hR hL => by
  obtain ⟨hd, rfl⟩ := hd
  exact (h en p e s m args below meth c T locs r X K hz hF hR hL).pre (fun _ q => q) fun t k => XT.lload X.here K.1 rfl (hb K.by hd) (hL.get hl) k
theorem Wk.aloadN {k : Fin 4} {v : Nat} (hd : InsA md pc (.aload_n k) 1 pc') (hl : L[k.val]? = some (.val (.ref v))) (h : Wk l Z M md pc' L (.ref v :: S) w cu su Q) : Wk l Z M md pc L (S) w cu su Q :=
  fun en p e s m args below meth c T locs r X K hz hF hR hL => by
  obtain ⟨hd, rfl⟩ := hd
  exact (h en p e s m args below meth c T locs r X K hz hF hR hL).pre (fun _ q => q) fun t k => XS.aloadN X.here K.1 rfl (hb K.by hd) (hL.get hl) rfl k
theorem Wk.aload {k : Nat} {v : Nat} (hd : InsA md pc (.aload k) 2 pc') (hl : L[k]? = some (.val (.ref v))) (h : Wk l Z M md pc' L (.ref v :: S) w cu su Q) : Wk l Z M md pc L (S) w cu su Q :=
  fun en p e s m args below meth c T locs r X K hz hF hR hL => by
  obtain ⟨hd, rfl⟩ := hd
  exact (h en p e s m args below meth c T locs r X K hz hF hR hL).pre (fun _ q => q) fun t k => XS.aload X.here K.1 rfl (hb K.by hd) (hL.get hl) rfl k
theorem Wk.iconst {i : Int} {z : Int32} (hd : InsA md pc (.iconst i) 1 pc') (hz' : Int32.ofInt i = z) (h : Wk l Z M md pc' L (.int z :: S) w cu su Q) : Wk l Z M md pc L (S) w cu su Q :=
  fun en p e s m args below meth c T locs r X K hz hF hR hL => by
  obtain ⟨hd, rfl⟩ := hd
  exact (h en p e s m args below meth c T locs r X K hz hF hR hL).pre (fun _ q => q) fun t k => XS.iconst X.here K.1 rfl (hb K.by hd) (by subst hz'; exact k)
theorem Wk.bipush {i : Int} {z : Int32} (hd : InsA md pc (.bipush i) 2 pc') (hz' : (Int8.ofInt i).toInt32 = z) (h : Wk l Z M md pc' L (.int z :: S) w cu su Q) : Wk l Z M md pc L (S) w cu su Q :=
  fun en p e s m args below meth c T locs r X K hz hF hR hL => by
  obtain ⟨hd, rfl⟩ := hd
  exact (h en p e s m args below meth c T locs r X K hz hF hR hL).pre (fun _ q => q) fun t k => XS.bipush X.here K.1 rfl (hb K.by hd) (by subst hz'; exact k)
theorem Wk.sipush {i : Int} {z : Int32} (hd : InsA md pc (.sipush i) 3 pc') (hz' : (Int16.ofInt i).toInt32 = z) (h : Wk l Z M md pc' L (.int z :: S) w cu su Q) : Wk l Z M md pc L (S) w cu su Q :=
  fun en p e s m args below meth c T locs r X K hz hF hR hL => by
  obtain ⟨hd, rfl⟩ := hd
  exact (h en p e s m args below meth c T locs r X K hz hF hR hL).pre (fun _ q => q) fun t k => XS.sipush X.here K.1 rfl (hb K.by hd) (by subst hz'; exact k)
theorem Wk.lconst {i : Fin 2} {z : Int64} (hd : InsA md pc (.lconst i) 1 pc') (hz' : Int64.ofNat i = z) (h : Wk l Z M md pc' L (.long z :: S) w cu su Q) : Wk l Z M md pc L (S) w cu su Q :=
  fun en p e s m args below meth c T locs r X K hz hF hR hL => by
  obtain ⟨hd, rfl⟩ := hd
  exact (h en p e s m args below meth c T locs r X K hz hF hR hL).pre (fun _ q => q) fun t k => XT.lconst X.here K.1 rfl (hb K.by hd) (by subst hz'; exact k)
theorem Wk.iadd {x y : Int32} (hd : InsA md pc (.iadd) 1 pc') (h : Wk l Z M md pc' L (.int (x + y) :: S) w cu su Q) : Wk l Z M md pc L (.int y :: .int x :: S) w cu su Q :=
  fun en p e s m args below meth c T locs r X K hz hF hR hL => by
  obtain ⟨hd, rfl⟩ := hd
  exact (h en p e s m args below meth c T locs r X K hz hF hR hL).pre (fun _ q => q) fun t k => XS.iadd X.here K.1 rfl (hb K.by hd) rfl k
theorem Wk.isub {x y : Int32} (hd : InsA md pc (.isub) 1 pc') (h : Wk l Z M md pc' L (.int (x - y) :: S) w cu su Q) : Wk l Z M md pc L (.int y :: .int x :: S) w cu su Q :=
  fun en p e s m args below meth c T locs r X K hz hF hR hL => by
  obtain ⟨hd, rfl⟩ := hd
  exact (h en p e s m args below meth c T locs r X K hz hF hR hL).pre (fun _ q => q) fun t k => XS.isub X.here K.1 rfl (hb K.by hd) rfl k
theorem Wk.imul {x y : Int32} (hd : InsA md pc (.imul) 1 pc') (h : Wk l Z M md pc' L (.int (x * y) :: S) w cu su Q) : Wk l Z M md pc L (.int y :: .int x :: S) w cu su Q :=
  fun en p e s m args below meth c T locs r X K hz hF hR hL => by
  obtain ⟨hd, rfl⟩ := hd
  exact (h en p e s m args below meth c T locs r X K hz hF hR hL).pre (fun _ q => q) fun t k => XS.imul X.here K.1 rfl (hb K.by hd) rfl k
theorem Wk.iand {x y : Int32} (hd : InsA md pc (.iand) 1 pc') (h : Wk l Z M md pc' L (.int (x &&& y) :: S) w cu su Q) : Wk l Z M md pc L (.int y :: .int x :: S) w cu su Q :=
  fun en p e s m args below meth c T locs r X K hz hF hR hL => by
  obtain ⟨hd, rfl⟩ := hd
  exact (h en p e s m args below meth c T locs r X K hz hF hR hL).pre (fun _ q => q) fun t k => XS.iand X.here K.1 rfl (hb K.by hd) rfl k
theorem Wk.ior {x y : Int32} (hd : InsA md pc (.ior) 1 pc') (h : Wk l Z M md pc' L (.int (x ||| y) :: S) w cu su Q) : Wk l Z M md pc L (.int y :: .int x :: S) w cu su Q :=
  fun en p e s m args below meth c T locs r X K hz hF hR hL => by
  obtain ⟨hd, rfl⟩ := hd
  exact (h en p e s m args below meth c T locs r X K hz hF hR hL).pre (fun _ q => q) fun t k => XT.ior X.here K.1 rfl (hb K.by hd) rfl k
theorem Wk.ixor {x y : Int32} (hd : InsA md pc (.ixor) 1 pc') (h : Wk l Z M md pc' L (.int (x ^^^ y) :: S) w cu su Q) : Wk l Z M md pc L (.int y :: .int x :: S) w cu su Q :=
  fun en p e s m args below meth c T locs r X K hz hF hR hL => by
  obtain ⟨hd, rfl⟩ := hd
  exact (h en p e s m args below meth c T locs r X K hz hF hR hL).pre (fun _ q => q) fun t k => XT.ixor X.here K.1 rfl (hb K.by hd) rfl k
theorem Wk.ishl {x y : Int32} (hd : InsA md pc (.ishl) 1 pc') (h : Wk l Z M md pc' L (.int (x <<< (y &&& 31)) :: S) w cu su Q) : Wk l Z M md pc L (.int y :: .int x :: S) w cu su Q :=
  fun en p e s m args below meth c T locs r X K hz hF hR hL => by
  obtain ⟨hd, rfl⟩ := hd
  exact (h en p e s m args below meth c T locs r X K hz hF hR hL).pre (fun _ q => q) fun t k => XT.ishl X.here K.1 rfl (hb K.by hd) rfl k
theorem Wk.ishr {x y : Int32} (hd : InsA md pc (.ishr) 1 pc') (h : Wk l Z M md pc' L (.int (x >>> (y &&& 31)) :: S) w cu su Q) : Wk l Z M md pc L (.int y :: .int x :: S) w cu su Q :=
  fun en p e s m args below meth c T locs r X K hz hF hR hL => by
  obtain ⟨hd, rfl⟩ := hd
  exact (h en p e s m args below meth c T locs r X K hz hF hR hL).pre (fun _ q => q) fun t k => XT.ishr X.here K.1 rfl (hb K.by hd) rfl k
theorem Wk.iushr {x y : Int32} (hd : InsA md pc (.iushr) 1 pc') (h : Wk l Z M md pc' L (.int (XT.ushr x y) :: S) w cu su Q) : Wk l Z M md pc L (.int y :: .int x :: S) w cu su Q :=
  fun en p e s m args below meth c T locs r X K hz hF hR hL => by
  obtain ⟨hd, rfl⟩ := hd
  exact (h en p e s m args below meth c T locs r X K hz hF hR hL).pre (fun _ q => q) fun t k => XT.iushr X.here K.1 rfl (hb K.by hd) rfl k
theorem Wk.ineg {x : Int32} (hd : InsA md pc (.ineg) 1 pc') (h : Wk l Z M md pc' L (.int (-x) :: S) w cu su Q) : Wk l Z M md pc L (.int x :: S) w cu su Q :=
  fun en p e s m args below meth c T locs r X K hz hF hR hL => by
  obtain ⟨hd, rfl⟩ := hd
  exact (h en p e s m args below meth c T locs r X K hz hF hR hL).pre (fun _ q => q) fun t k => XS.ineg X.here K.1 rfl (hb K.by hd) rfl k
theorem Wk.idiv {x y : Int32} (hd : InsA md pc (.idiv) 1 pc') (hy : y ≠ 0) (h : Wk l Z M md pc' L (.int (x / y) :: S) w cu su Q) : Wk l Z M md pc L (.int y :: .int x :: S) w cu su Q :=
  fun en p e s m args below meth c T locs r X K hz hF hR hL => by
  obtain ⟨hd, rfl⟩ := hd
  exact (h en p e s m args below meth c T locs r X K hz hF hR hL).pre (fun _ q => q) fun t k => XS.idiv X.here K.1 rfl (hb K.by hd) rfl hy k
theorem Wk.irem {x y : Int32} (hd : InsA md pc (.irem) 1 pc') (hy : y ≠ 0) (h : Wk l Z M md pc' L (.int (x % y) :: S) w cu su Q) : Wk l Z M md pc L (.int y :: .int x :: S) w cu su Q :=
  fun en p e s m args below meth c T locs r X K hz hF hR hL => by
  obtain ⟨hd, rfl⟩ := hd
  exact (h en p e s m args below meth c T locs r X K hz hF hR hL).pre (fun _ q => q) fun t k => Jvm.RoadKit.iremM X K.1 rfl (hb K.by hd) rfl hy k
theorem Wk.ladd {x y : Int64} (hd : InsA md pc (.ladd) 1 pc') (h : Wk l Z M md pc' L (.long (x + y) :: S) w cu su Q) : Wk l Z M md pc L (.long y :: .long x :: S) w cu su Q :=
  fun en p e s m args below meth c T locs r X K hz hF hR hL => by
  obtain ⟨hd, rfl⟩ := hd
  exact (h en p e s m args below meth c T locs r X K hz hF hR hL).pre (fun _ q => q) fun t k => XT.ladd X.here K.1 rfl (hb K.by hd) rfl k
theorem Wk.lsub {x y : Int64} (hd : InsA md pc (.lsub) 1 pc') (h : Wk l Z M md pc' L (.long (x - y) :: S) w cu su Q) : Wk l Z M md pc L (.long y :: .long x :: S) w cu su Q :=
  fun en p e s m args below meth c T locs r X K hz hF hR hL => by
  obtain ⟨hd, rfl⟩ := hd
  exact (h en p e s m args below meth c T locs r X K hz hF hR hL).pre (fun _ q => q) fun t k => XT.lsub X.here K.1 rfl (hb K.by hd) rfl k
theorem Wk.lmul {x y : Int64} (hd : InsA md pc (.lmul) 1 pc') (h : Wk l Z M md pc' L (.long (x * y) :: S) w cu su Q) : Wk l Z M md pc L (.long y :: .long x :: S) w cu su Q :=
  fun en p e s m args below meth c T locs r X K hz hF hR hL => by
  obtain ⟨hd, rfl⟩ := hd
  exact (h en p e s m args below meth c T locs r X K hz hF hR hL).pre (fun _ q => q) fun t k => XT.lmul X.here K.1 rfl (hb K.by hd) rfl k
theorem Wk.land {x y : Int64} (hd : InsA md pc (.land) 1 pc') (h : Wk l Z M md pc' L (.long (x &&& y) :: S) w cu su Q) : Wk l Z M md pc L (.long y :: .long x :: S) w cu su Q :=
  fun en p e s m args below meth c T locs r X K hz hF hR hL => by
  obtain ⟨hd, rfl⟩ := hd
  exact (h en p e s m args below meth c T locs r X K hz hF hR hL).pre (fun _ q => q) fun t k => XT.land X.here K.1 rfl (hb K.by hd) rfl k
theorem Wk.lor {x y : Int64} (hd : InsA md pc (.lor) 1 pc') (h : Wk l Z M md pc' L (.long (x ||| y) :: S) w cu su Q) : Wk l Z M md pc L (.long y :: .long x :: S) w cu su Q :=
  fun en p e s m args below meth c T locs r X K hz hF hR hL => by
  obtain ⟨hd, rfl⟩ := hd
  exact (h en p e s m args below meth c T locs r X K hz hF hR hL).pre (fun _ q => q) fun t k => XT.lor X.here K.1 rfl (hb K.by hd) rfl k
theorem Wk.lxor {x y : Int64} (hd : InsA md pc (.lxor) 1 pc') (h : Wk l Z M md pc' L (.long (x ^^^ y) :: S) w cu su Q) : Wk l Z M md pc L (.long y :: .long x :: S) w cu su Q :=
  fun en p e s m args below meth c T locs r X K hz hF hR hL => by
  obtain ⟨hd, rfl⟩ := hd
  exact (h en p e s m args below meth c T locs r X K hz hF hR hL).pre (fun _ q => q) fun t k => XT.lxor X.here K.1 rfl (hb K.by hd) rfl k
theorem Wk.ldiv {x y : Int64} (hd : InsA md pc (.ldiv) 1 pc') (hy : y ≠ 0) (h : Wk l Z M md pc' L (.long (x / y) :: S) w cu su Q) : Wk l Z M md pc L (.long y :: .long x :: S) w cu su Q :=
  fun en p e s m args below meth c T locs r X K hz hF hR hL => by
  obtain ⟨hd, rfl⟩ := hd
  exact (h en p e s m args below meth c T locs r X K hz hF hR hL).pre (fun _ q => q) fun t k => XT.ldiv X.here K.1 rfl (hb K.by hd) rfl hy k
theorem Wk.lrem {x y : Int64} (hd : InsA md pc (.lrem) 1 pc') (hy : y ≠ 0) (h : Wk l Z M md pc' L (.long (x - (x / y) * y) :: S) w cu su Q) : Wk l Z M md pc L (.long y :: .long x :: S) w cu su Q :=
  fun en p e s m args below meth c T locs r X K hz hF hR hL => by
  obtain ⟨hd, rfl⟩ := hd
  exact (h en p e s m args below meth c T locs r X K hz hF hR hL).pre (fun _ q => q) fun t k => XT.lrem X.here K.1 rfl (hb K.by hd) rfl hy k
theorem Wk.lshl {x : Int64} {y : Int32} (hd : InsA md pc (.lshl) 1 pc') (h : Wk l Z M md pc' L (.long (x <<< (y.toInt64 &&& 63)) :: S) w cu su Q) : Wk l Z M md pc L (.int y :: .long x :: S) w cu su Q :=
  fun en p e s m args below meth c T locs r X K hz hF hR hL => by
  obtain ⟨hd, rfl⟩ := hd
  exact (h en p e s m args below meth c T locs r X K hz hF hR hL).pre (fun _ q => q) fun t k => XT.lshl X.here K.1 rfl (hb K.by hd) rfl k
theorem Wk.lshr {x : Int64} {y : Int32} (hd : InsA md pc (.lshr) 1 pc') (h : Wk l Z M md pc' L (.long (x >>> (y.toInt64 &&& 63)) :: S) w cu su Q) : Wk l Z M md pc L (.int y :: .long x :: S) w cu su Q :=
  fun en p e s m args below meth c T locs r X K hz hF hR hL => by
  obtain ⟨hd, rfl⟩ := hd
  exact (h en p e s m args below meth c T locs r X K hz hF hR hL).pre (fun _ q => q) fun t k => XT.lshr X.here K.1 rfl (hb K.by hd) rfl k
theorem Wk.lushr {x : Int64} {y : Int32} (hd : InsA md pc (.lushr) 1 pc') (h : Wk l Z M md pc' L (.long (XT.ushrL x y) :: S) w cu su Q) : Wk l Z M md pc L (.int y :: .long x :: S) w cu su Q :=
  fun en p e s m args below meth c T locs r X K hz hF hR hL => by
  obtain ⟨hd, rfl⟩ := hd
  exact (h en p e s m args below meth c T locs r X K hz hF hR hL).pre (fun _ q => q) fun t k => XT.lushr X.here K.1 rfl (hb K.by hd) rfl k
theorem Wk.i2l {x : Int32} (hd : InsA md pc (.i2l) 1 pc') (h : Wk l Z M md pc' L (.long x.toInt64 :: S) w cu su Q) : Wk l Z M md pc L (.int x :: S) w cu su Q :=
  fun en p e s m args below meth c T locs r X K hz hF hR hL => by
  obtain ⟨hd, rfl⟩ := hd
  exact (h en p e s m args below meth c T locs r X K hz hF hR hL).pre (fun _ q => q) fun t k => XT.i2l X.here K.1 rfl (hb K.by hd) rfl k
theorem Wk.l2i {x : Int64} (hd : InsA md pc (.l2i) 1 pc') (h : Wk l Z M md pc' L (.int x.toInt32 :: S) w cu su Q) : Wk l Z M md pc L (.long x :: S) w cu su Q :=
  fun en p e s m args below meth c T locs r X K hz hF hR hL => by
  obtain ⟨hd, rfl⟩ := hd
  exact (h en p e s m args below meth c T locs r X K hz hF hR hL).pre (fun _ q => q) fun t k => XT.l2i X.here K.1 rfl (hb K.by hd) rfl k
theorem Wk.lcmp {x y : Int64} (hd : InsA md pc (.lcmp) 1 pc') (h : Wk l Z M md pc' L (.int (XT.cmpL x y) :: S) w cu su Q) : Wk l Z M md pc L (.long y :: .long x :: S) w cu su Q :=
  fun en p e s m args below meth c T locs r X K hz hF hR hL => by
  obtain ⟨hd, rfl⟩ := hd
  exact (h en p e s m args below meth c T locs r X K hz hF hR hL).pre (fun _ q => q) fun t k => XT.lcmp X.here K.1 rfl (hb K.by hd) rfl k
theorem Wk.dup {v : Value} (hd : InsA md pc (.dup) 1 pc') (hv : v.category = 1) (h : Wk l Z M md pc' L (v :: v :: S) w cu su Q) : Wk l Z M md pc L (v :: S) w cu su Q :=
  fun en p e s m args below meth c T locs r X K hz hF hR hL => by
  obtain ⟨hd, rfl⟩ := hd
  exact (h en p e s m args below meth c T locs r X K hz hF hR hL).pre (fun _ q => q) fun t k => XS.dup X.here K.1 rfl (hb K.by hd) rfl (by rw [rv_cat]; exact hv) k
theorem Wk.pop {v : Value} (hd : InsA md pc (.pop) 1 pc') (hv : v.category = 1) (h : Wk l Z M md pc' L (S) w cu su Q) : Wk l Z M md pc L (v :: S) w cu su Q :=
  fun en p e s m args below meth c T locs r X K hz hF hR hL => by
  obtain ⟨hd, rfl⟩ := hd
  exact (h en p e s m args below meth c T locs r X K hz hF hR hL).pre (fun _ q => q) fun t k => XT.pop X.here K.1 rfl (hb K.by hd) rfl (by rw [rv_cat]; exact hv) k
theorem Wk.dup2 {v u : Value} (hd : InsA md pc (.dup2) 1 pc') (hv : v.category = 1) (hu : u.category = 1) (h : Wk l Z M md pc' L (v :: u :: v :: u :: S) w cu su Q) : Wk l Z M md pc L (v :: u :: S) w cu su Q :=
  fun en p e s m args below meth c T locs r X K hz hF hR hL => by
  obtain ⟨hd, rfl⟩ := hd
  exact (h en p e s m args below meth c T locs r X K hz hF hR hL).pre (fun _ q => q) fun t k => XT.dup2 X.here K.1 rfl (hb K.by hd) rfl (by rw [rv_cat]; exact hv) (by rw [rv_cat]; exact hu) k
theorem Wk.dupX1 {v u : Value} (hd : InsA md pc (.dup_x1) 1 pc') (hv : v.category = 1) (hu : u.category = 1) (h : Wk l Z M md pc' L (v :: u :: v :: S) w cu su Q) : Wk l Z M md pc L (v :: u :: S) w cu su Q :=
  fun en p e s m args below meth c T locs r X K hz hF hR hL => by
  obtain ⟨hd, rfl⟩ := hd
  exact (h en p e s m args below meth c T locs r X K hz hF hR hL).pre (fun _ q => q) fun t k => XT.dupX1 X.here K.1 rfl (hb K.by hd) rfl (by rw [rv_cat]; exact hv) (by rw [rv_cat]; exact hu) k
theorem Wk.istoreN {k : Fin 4} {x : Int32} (hd : InsA md pc (.istore_n k) 1 pc') (ho : C1 L[k.val]?) (hl : L.set k.val (.val (.int x)) = L') (h : Wk l Z M md pc' L' S w cu su Q) : Wk l Z M md pc L (.int x :: S) w cu su Q :=
  fun en p e s m args below meth c T locs r X K hz hF hR hL => by
  obtain ⟨hd, rfl⟩ := hd
  obtain ⟨r', e1, hL2⟩ := hL.st1 (v := .int x) ho rfl
  subst hl
  exact (h en p e s m args below meth c T locs r' X K hz hF hR hL2).pre (fun _ q => q) fun t k => XS.istoreN X.here K.1 rfl (hb K.by hd) rfl e1 k
theorem Wk.istore {k : Nat} {x : Int32} (hd : InsA md pc (.istore k) 2 pc') (ho : C1 L[k]?) (hl : L.set k (.val (.int x)) = L') (h : Wk l Z M md pc' L' S w cu su Q) : Wk l Z M md pc L (.int x :: S) w cu su Q :=
  fun en p e s m args below meth c T locs r X K hz hF hR hL => by
  obtain ⟨hd, rfl⟩ := hd
  obtain ⟨r', e1, hL2⟩ := hL.st1 (v := .int x) ho rfl
  subst hl
  exact (h en p e s m args below meth c T locs r' X K hz hF hR hL2).pre (fun _ q => q) fun t k => XS.istore X.here K.1 rfl (hb K.by hd) rfl e1 k
theorem Wk.astoreN {k : Fin 4} {x : Nat} (hd : InsA md pc (.astore_n k) 1 pc') (ho : C1 L[k.val]?) (hl : L.set k.val (.val (.ref x)) = L') (h : Wk l Z M md pc' L' S w cu su Q) : Wk l Z M md pc L (.ref x :: S) w cu su Q :=
  fun en p e s m args below meth c T locs r X K hz hF hR hL => by
  obtain ⟨hd, rfl⟩ := hd
  obtain ⟨r', e1, hL2⟩ := hL.st1 (v := .ref x) ho rfl
  subst hl
  exact (h en p e s m args below meth c T locs r' X K hz hF hR hL2).pre (fun _ q => q) fun t k => XS.astoreN X.here K.1 rfl (hb K.by hd) rfl rfl e1 k
theorem Wk.astore {k : Nat} {x : Nat} (hd : InsA md pc (.astore k) 2 pc') (ho : C1 L[k]?) (hl : L.set k (.val (.ref x)) = L') (h : Wk l Z M md pc' L' S w cu su Q) : Wk l Z M md pc L (.ref x :: S) w cu su Q :=
  fun en p e s m args below meth c T locs r X K hz hF hR hL => by
  obtain ⟨hd, rfl⟩ := hd
  obtain ⟨r', e1, hL2⟩ := hL.st1 (v := .ref x) ho rfl
  subst hl
  exact (h en p e s m args below meth c T locs r' X K hz hF hR hL2).pre (fun _ q => q) fun t k => XS.astore X.here K.1 rfl (hb K.by hd) rfl rfl e1 k
theorem Wk.lstoreN {k : Fin 4} {x : Int64} (hd : InsA md pc (.lstore_n k) 1 pc') (ho : C1 L[k.val]?) (ho2 : C1 L[k.val + 1]?) (hl : (L.set k.val (.val (.long x))).set (k.val + 1) .second = L') (h : Wk l Z M md pc' L' S w cu su Q) : Wk l Z M md pc L (.long x :: S) w cu su Q :=
  fun en p e s m args below meth c T locs r X K hz hF hR hL => by
  obtain ⟨hd, rfl⟩ := hd
  obtain ⟨r', e1, hL2⟩ := hL.st2 (v := .long x) ho ho2 rfl
  subst hl
  exact (h en p e s m args below meth c T locs r' X K hz hF hR hL2).pre (fun _ q => q) fun t k => XT.lstoreN X.here K.1 rfl (hb K.by hd) rfl e1 k
theorem Wk.lstore {k : Nat} {x : Int64} (hd : InsA md pc (.lstore k) 2 pc') (ho : C1 L[k]?) (ho2 : C1 L[k + 1]?) (hl : (L.set k (.val (.long x))).set (k + 1) .second = L') (h : Wk l Z M md pc' L' S w cu su Q) : Wk l Z M md pc L (.long x :: S) w cu su Q :=
  fun en p e s m args below meth c T locs r X K hz hF hR hL => by
  obtain ⟨hd, rfl⟩ := hd
  obtain ⟨r', e1, hL2⟩ := hL.st2 (v := .long x) ho ho2 rfl
  subst hl
  exact (h en p e s m args below meth c T locs r' X K hz hF hR hL2).pre (fun _ q => q) fun t k => XT.lstore X.here K.1 rfl (hb K.by hd) rfl e1 k
theorem Wk.iinc {k : Nat} {cst : Int} {x z : Int32} (hd : InsA md pc (.iinc k cst) 3 pc') (hv : L[k]? = some (.val (.int x))) (hz' : x + Int32.ofInt cst = z) (hl : L.set k (.val (.int z)) = L') (h : Wk l Z M md pc' L' S w cu su Q) : Wk l Z M md pc L S w cu su Q :=
  fun en p e s m args below meth c T locs r X K hz hF hR hL => by
  obtain ⟨hd, rfl⟩ := hd
  obtain ⟨r', e1, hL2⟩ := hL.st1 (i := k) (v := .int z) (Or.inr ⟨_, hv, rfl⟩) rfl
  subst hl hz'
  exact (h en p e s m args below meth c T locs r' X K hz hF hR hL2).pre (fun _ q => q) fun t k => XS.iinc X.here K.1 rfl (hb K.by hd) (hL.get hv) e1 k
theorem Wk.goto {o : Int} {pt : Nat} (hd : InsB md pc (.goto o) 3 pc' o pt) (h : Wk l Z M md pt L S w cu su Q) : Wk l Z M md pc L S w cu su Q :=
  fun en p e s m args below meth c T locs r X K hz hF hR hL => by
  obtain ⟨hd, rfl, h3, h4⟩ := hd
  exact (h en p e s m args below meth c T locs r X K hz hF hR hL).pre (fun _ q => q) fun t k => XS.goto X.here K.1 rfl rfl (hb K.by hd) h3 h4 k
theorem Wk.icmp_lt {x y : Int32} {o : Int} {pt : Nat} (hd : InsB md pc (.if_icmp .lt o) 3 pc' o pt) (h1 : x < y → Wk l Z M md pt L S w cu su Q) (h2 : ¬ x < y → Wk l Z M md pc' L S w cu su Q) : Wk l Z M md pc L (.int y :: .int x :: S) w cu su Q :=
  fun en p e s m args below meth c T locs r X K hz hF hR hL => by
  obtain ⟨hd, rfl, h3, h4⟩ := hd
  by_cases q : x < y
  · exact (h1 q en p e s m args below meth c T locs r X K hz hF hR hL).pre (fun _ q => q) fun t k => XS.icmpYes X.here K.1 rfl rfl (hb K.by hd) rfl (tlt q).1 h3 h4 k
  · exact (h2 q en p e s m args below meth c T locs r X K hz hF hR hL).pre (fun _ q => q) fun t k => XS.icmpNo X.here K.1 rfl (hb K.by hd) rfl (flt q).1 k
theorem Wk.if_lt {x : Int32} {o : Int} {pt : Nat} (hd : InsB md pc (.ifCond .lt o) 3 pc' o pt) (h1 : x < 0 → Wk l Z M md pt L S w cu su Q) (h2 : ¬ x < 0 → Wk l Z M md pc' L S w cu su Q) : Wk l Z M md pc L (.int x :: S) w cu su Q :=
  fun en p e s m args below meth c T locs r X K hz hF hR hL => by
  obtain ⟨hd, rfl, h3, h4⟩ := hd
  by_cases q : x < 0
  · exact (h1 q en p e s m args below meth c T locs r X K hz hF hR hL).pre (fun _ q => q) fun t k => XS.ifYes X.here K.1 rfl rfl (hb K.by hd) rfl ((if0 _ _).trans (tlt q).1) h3 h4 k
  · exact (h2 q en p e s m args below meth c T locs r X K hz hF hR hL).pre (fun _ q => q) fun t k => XS.ifNo X.here K.1 rfl (hb K.by hd) rfl ((if0 _ _).trans (flt q).1) k
theorem Wk.icmp_ge {x y : Int32} {o : Int} {pt : Nat} (hd : InsB md pc (.if_icmp .ge o) 3 pc' o pt) (h1 : ¬ x < y → Wk l Z M md pt L S w cu su Q) (h2 : x < y → Wk l Z M md pc' L S w cu su Q) : Wk l Z M md pc L (.int y :: .int x :: S) w cu su Q :=
  fun en p e s m args below meth c T locs r X K hz hF hR hL => by
  obtain ⟨hd, rfl, h3, h4⟩ := hd
  by_cases q : x < y
  · exact (h2 q en p e s m args below meth c T locs r X K hz hF hR hL).pre (fun _ q => q) fun t k => XS.icmpNo X.here K.1 rfl (hb K.by hd) rfl (tlt q).2.1 k
  · exact (h1 q en p e s m args below meth c T locs r X K hz hF hR hL).pre (fun _ q => q) fun t k => XS.icmpYes X.here K.1 rfl rfl (hb K.by hd) rfl (flt q).2.1 h3 h4 k
theorem Wk.if_ge {x : Int32} {o : Int} {pt : Nat} (hd : InsB md pc (.ifCond .ge o) 3 pc' o pt) (h1 : ¬ x < 0 → Wk l Z M md pt L S w cu su Q) (h2 : x < 0 → Wk l Z M md pc' L S w cu su Q) : Wk l Z M md pc L (.int x :: S) w cu su Q :=
  fun en p e s m args below meth c T locs r X K hz hF hR hL => by
  obtain ⟨hd, rfl, h3, h4⟩ := hd
  by_cases q : x < 0
  · exact (h2 q en p e s m args below meth c T locs r X K hz hF hR hL).pre (fun _ q => q) fun t k => XS.ifNo X.here K.1 rfl (hb K.by hd) rfl ((if0 _ _).trans (tlt q).2.1) k
  · exact (h1 q en p e s m args below meth c T locs r X K hz hF hR hL).pre (fun _ q => q) fun t k => XS.ifYes X.here K.1 rfl rfl (hb K.by hd) rfl ((if0 _ _).trans (flt q).2.1) h3 h4 k
theorem Wk.icmp_gt {x y : Int32} {o : Int} {pt : Nat} (hd : InsB md pc (.if_icmp .gt o) 3 pc' o pt) (h1 : y < x → Wk l Z M md pt L S w cu su Q) (h2 : ¬ y < x → Wk l Z M md pc' L S w cu su Q) : Wk l Z M md pc L (.int y :: .int x :: S) w cu su Q :=
  fun en p e s m args below meth c T locs r X K hz hF hR hL => by
  obtain ⟨hd, rfl, h3, h4⟩ := hd
  by_cases q : y < x
  · exact (h1 q en p e s m args below meth c T locs r X K hz hF hR hL).pre (fun _ q => q) fun t k => XS.icmpYes X.here K.1 rfl rfl (hb K.by hd) rfl (tlt q).2.2.1 h3 h4 k
  · exact (h2 q en p e s m args below meth c T locs r X K hz hF hR hL).pre (fun _ q => q) fun t k => XS.icmpNo X.here K.1 rfl (hb K.by hd) rfl (flt q).2.2.1 k
theorem Wk.if_gt {x : Int32} {o : Int} {pt : Nat} (hd : InsB md pc (.ifCond .gt o) 3 pc' o pt) (h1 : 0 < x → Wk l Z M md pt L S w cu su Q) (h2 : ¬ 0 < x → Wk l Z M md pc' L S w cu su Q) : Wk l Z M md pc L (.int x :: S) w cu su Q :=
  fun en p e s m args below meth c T locs r X K hz hF hR hL => by
  obtain ⟨hd, rfl, h3, h4⟩ := hd
  by_cases q : 0 < x
  · exact (h1 q en p e s m args below meth c T locs r X K hz hF hR hL).pre (fun _ q => q) fun t k => XS.ifYes X.here K.1 rfl rfl (hb K.by hd) rfl ((if0 _ _).trans (tlt q).2.2.1) h3 h4 k
  · exact (h2 q en p e s m args below meth c T locs r X K hz hF hR hL).pre (fun _ q => q) fun t k => XS.ifNo X.here K.1 rfl (hb K.by hd) rfl ((if0 _ _).trans (flt q).2.2.1) k
theorem Wk.icmp_le {x y : Int32} {o : Int} {pt : Nat} (hd : InsB md pc (.if_icmp .le o) 3 pc' o pt) (h1 : ¬ y < x → Wk l Z M md pt L S w cu su Q) (h2 : y < x → Wk l Z M md pc' L S w cu su Q) : Wk l Z M md pc L (.int y :: .int x :: S) w cu su Q :=
  fun en p e s m args below meth c T locs r X K hz hF hR hL => by
  obtain ⟨hd, rfl, h3, h4⟩ := hd
  by_cases q : y < x
  · exact (h2 q en p e s m args below meth c T locs r X K hz hF hR hL).pre (fun _ q => q) fun t k => XS.icmpNo X.here K.1 rfl (hb K.by hd) rfl (tlt q).2.2.2 k
  · exact (h1 q en p e s m args below meth c T locs r X K hz hF hR hL).pre (fun _ q => q) fun t k => XS.icmpYes X.here K.1 rfl rfl (hb K.by hd) rfl (flt q).2.2.2 h3 h4 k
theorem Wk.if_le {x : Int32} {o : Int} {pt : Nat} (hd : InsB md pc (.ifCond .le o) 3 pc' o pt) (h1 : ¬ 0 < x → Wk l Z M md pt L S w cu su Q) (h2 : 0 < x → Wk l Z M md pc' L S w cu su Q) : Wk l Z M md pc L (.int x :: S) w cu su Q :=
  fun en p e s m args below meth c T locs r X K hz hF hR hL => by
  obtain ⟨hd, rfl, h3, h4⟩ := hd
  by_cases q : 0 < x
  · exact (h2 q en p e s m args below meth c T locs r X K hz hF hR hL).pre (fun _ q => q) fun t k => XS.ifNo X.here K.1 rfl (hb K.by hd) rfl ((if0 _ _).trans (tlt q).2.2.2) k
  · exact (h1 q en p e s m args below meth c T locs r X K hz hF hR hL).pre (fun _ q => q) fun t k => XS.ifYes X.here K.1 rfl rfl (hb K.by hd) rfl ((if0 _ _).trans (flt q).2.2.2) h3 h4 k
theorem Wk.icmp_eq {x y : Int32} {o : Int} {pt : Nat} (hd : InsB md pc (.if_icmp .eq o) 3 pc' o pt) (h1 : x = y → Wk l Z M md pt L S w cu su Q) (h2 : ¬ x = y → Wk l Z M md pc' L S w cu su Q) : Wk l Z M md pc L (.int y :: .int x :: S) w cu su Q :=
  fun en p e s m args below meth c T locs r X K hz hF hR hL => by
  obtain ⟨hd, rfl, h3, h4⟩ := hd
  by_cases q : x = y
  · exact (h1 q en p e s m args below meth c T locs r X K hz hF hR hL).pre (fun _ q => q) fun t k => XS.icmpYes X.here K.1 rfl rfl (hb K.by hd) rfl (teq q).1 h3 h4 k
  · exact (h2 q en p e s m args below meth c T locs r X K hz hF hR hL).pre (fun _ q => q) fun t k => XS.icmpNo X.here K.1 rfl (hb K.by hd) rfl (feq q).1 k
theorem Wk.if_eq {x : Int32} {o : Int} {pt : Nat} (hd : InsB md pc (.ifCond .eq o) 3 pc' o pt) (h1 : x = 0 → Wk l Z M md pt L S w cu su Q) (h2 : ¬ x = 0 → Wk l Z M md pc' L S w cu su Q) : Wk l Z M md pc L (.int x :: S) w cu su Q :=
  fun en p e s m args below meth c T locs r X K hz hF hR hL => by
  obtain ⟨hd, rfl, h3, h4⟩ := hd
  by_cases q : x = 0
  · exact (h1 q en p e s m args below meth c T locs r X K hz hF hR hL).pre (fun _ q => q) fun t k => XS.ifYes X.here K.1 rfl rfl (hb K.by hd) rfl ((if0 _ _).trans (teq q).1) h3 h4 k
  · exact (h2 q en p e s m args below meth c T locs r X K hz hF hR hL).pre (fun _ q => q) fun t k => XS.ifNo X.here K.1 rfl (hb K.by hd) rfl ((if0 _ _).trans (feq q).1) k
theorem Wk.icmp_ne {x y : Int32} {o : Int} {pt : Nat} (hd : InsB md pc (.if_icmp .ne o) 3 pc' o pt) (h1 : ¬ x = y → Wk l Z M md pt L S w cu su Q) (h2 : x = y → Wk l Z M md pc' L S w cu su Q) : Wk l Z M md pc L (.int y :: .int x :: S) w cu su Q :=
  fun en p e s m args below meth c T locs r X K hz hF hR hL => by
  obtain ⟨hd, rfl, h3, h4⟩ := hd
  by_cases q : x = y
  · exact (h2 q en p e s m args below meth c T locs r X K hz hF hR hL).pre (fun _ q => q) fun t k => XS.icmpNo X.here K.1 rfl (hb K.by hd) rfl (teq q).2 k
  · exact (h1 q en p e s m args below meth c T locs r X K hz hF hR hL).pre (fun _ q => q) fun t k => XS.icmpYes X.here K.1 rfl rfl (hb K.by hd) rfl (feq q).2 h3 h4 k
theorem Wk.if_ne {x : Int32} {o : Int} {pt : Nat} (hd : InsB md pc (.ifCond .ne o) 3 pc' o pt) (h1 : ¬ x = 0 → Wk l Z M md pt L S w cu su Q) (h2 : x = 0 → Wk l Z M md pc' L S w cu su Q) : Wk l Z M md pc L (.int x :: S) w cu su Q :=
  fun en p e s m args below meth c T locs r X K hz hF hR hL => by
  obtain ⟨hd, rfl, h3, h4⟩ := hd
  by_cases q : x = 0
  · exact (h2 q en p e s m args below meth c T locs r X K hz hF hR hL).pre (fun _ q => q) fun t k => XS.ifNo X.here K.1 rfl (hb K.by hd) rfl ((if0 _ _).trans (teq q).2) k
  · exact (h1 q en p e s m args below meth c T locs r X K hz hF hR hL).pre (fun _ q => q) fun t k => XS.ifYes X.here K.1 rfl rfl (hb K.by hd) rfl ((if0 _ _).trans (feq q).2) h3 h4 k
theorem Wk.tswIn {dflt low high o : Int} {offs : Array Int} {len pt : Nat} {x z : Int32} (hd : InsB md pc (.tableswitch dflt low high offs) len pc' o pt) (hx : x = z) (hin : ¬ (z.toInt < low ∨ z.toInt > high)) (hoff : offs[(z.toInt - low).toNat]? = some o) (h : Wk l Z M md pt L S w cu su Q) : Wk l Z M md pc L (.int x :: S) w cu su Q :=
  fun en p e s m args below meth c T locs r X K hz hF hR hL => by
  obtain ⟨hd, rfl, h3, h4⟩ := hd
  subst hx
  exact (h en p e s m args below meth c T locs r X K hz hF hR hL).pre (fun _ q => q) fun t k => XS.tswIn X.here K.1 rfl rfl (hb K.by hd) rfl hin hoff h3 h4 k
theorem Wk.tswOut {dflt low high : Int} {offs : Array Int} {len pt : Nat} {x : Int32} (hd : InsB md pc (.tableswitch dflt low high offs) len pc' dflt pt) (hout : x.toInt < low ∨ x.toInt > high) (h : Wk l Z M md pt L S w cu su Q) : Wk l Z M md pc L (.int x :: S) w cu su Q :=
  fun en p e s m args below meth c T locs r X K hz hF hR hL => by
  obtain ⟨hd, rfl, h3, h4⟩ := hd
  exact (h en p e s m args below meth c T locs r X K hz hF hR hL).pre (fun _ q => q) fun t k => XS.tswOut X.here K.1 rfl rfl (hb K.by hd) rfl hout h3 h4 k
theorem Wk.ldc {idx : Nat} {z : Int32} {a0 : Array Value} (hd : InsA md pc (.ldc idx) 2 pc') (wd : (Cond.constant M.own idx z).before a0 Z = true) (h : Wk l Z M md pc' L (.int z :: S) w cu su Q) : Wk l Z M md pc L S w cu su Q :=
  fun en p e s m args below meth c T locs r X K hz hF hR hL => by
  obtain ⟨hd, rfl⟩ := hd
  have hc : (Cond.constant M.own idx z).before args s = true := mvT K.2.1 wd
  exact (h en p e s m args below meth c T locs r X K hz hF hR hL).pre (fun _ q => q) fun t k => X.ldcInt K.1 K.2.2.1 hc (g := mkF m pc r (S.map (rv (M.rho en)))) rfl (hb K.by hd) t k
theorem Wk.ldcw {idx : Nat} {z : Int32} {a0 : Array Value} (hd : InsA md pc (.ldc_w idx) 3 pc') (wd : (Cond.constant M.own idx z).before a0 Z = true) (h : Wk l Z M md pc' L (.int z :: S) w cu su Q) : Wk l Z M md pc L S w cu su Q :=
  fun en p e s m args below meth c T locs r X K hz hF hR hL => by
  obtain ⟨hd, rfl⟩ := hd
  have hc : (Cond.constant M.own idx z).before args s = true := mvT K.2.1 wd
  exact (h en p e s m args below meth c T locs r X K hz hF hR hL).pre (fun _ q => q) fun t k => X.ldcwInt K.1 K.2.2.1 hc (g := mkF m pc r (S.map (rv (M.rho en)))) rfl (hb K.by hd) t k
theorem Wk.ldc2 {idx : Nat} {z : Int64} {a0 : Array Value} (hd : InsA md pc (.ldc2_w idx) 3 pc') (wd : (Cond.constantLong M.own idx z).before a0 Z = true) (h : Wk l Z M md pc' L (.long z :: S) w cu su Q) : Wk l Z M md pc L S w cu su Q :=
  fun en p e s m args below meth c T locs r X K hz hF hR hL => by
  obtain ⟨hd, rfl⟩ := hd
  have hc : (Cond.constantLong M.own idx z).before args s = true := mvT K.2.1 wd
  exact (h en p e s m args below meth c T locs r X K hz hF hR hL).pre (fun _ q => q) fun t k => X.ldc2Long K.1 K.2.2.1 hc (g := mkF m pc r (S.map (rv (M.rho en)))) rfl (hb K.by hd) t k
/-! returns -/
theorem Wk.ireturn {x : Int32} (hM : ∀ en h, M.frm en h h) (hret : rtOf md = some .int) (hd : InsA md pc .ireturn 1 pc') (hc : cu = exOf md) (hc2 : exOf md ≤ (rmOf md).cells) (hs : su ≤ (rmOf md).slots) (hq : Q (some (.int x)) w) : Wk l Z M md pc L (.int x :: S) w cu su Q :=
  fun en p e s m args below meth c T locs r X K hz hF hR hL => by
  subst hc
  have hr := K.2.2.2.2.1.trans hret
  exact ⟨T, locs, su, _, w, X, hc2, hs, hz, hF, hR, hM _ _, fun q => (by rw [hr] at q; cases q), fun ρ y e => (by cases e; rfl), hq, fun fs hf => retI X K.1 hr (hb K.by hd.1) hf⟩
theorem Wk.zreturn {x y : Int32} (hM : ∀ en h, M.frm en h h) (hret : rtOf md = some .boolean) (hd : InsA md pc .ireturn 1 pc') (hc : cu = exOf md) (hc2 : exOf md ≤ (rmOf md).cells) (hs : su ≤ (rmOf md).slots) (hy : nar .boolean x = y) (hq : Q (some (.int y)) w) : Wk l Z M md pc L (.int x :: S) w cu su Q :=
  fun en p e s m args below meth c T locs r X K hz hF hR hL => by
  subst hc hy
  have hr := K.2.2.2.2.1.trans hret
  exact ⟨T, locs, su, _, w, X, hc2, hs, hz, hF, hR, hM _ _, fun q => (by rw [hr] at q; cases q), fun ρ y e => (by cases e; rfl), hq, fun fs hf => retN X K.1 (t := .boolean) hr (by simp) (hb K.by hd.1) hf⟩
theorem Wk.lreturn {x : Int64} (hM : ∀ en h, M.frm en h h) (hret : rtOf md = some .long) (hd : InsA md pc .lreturn 1 pc') (hc : cu = exOf md) (hc2 : exOf md ≤ (rmOf md).cells) (hs : su ≤ (rmOf md).slots) (hq : Q (some (.long x)) w) : Wk l Z M md pc L [.long x] w cu su Q :=
  fun en p e s m args below meth c T locs r X K hz hF hR hL => by
  subst hc
  have hr := K.2.2.2.2.1.trans hret
  exact ⟨T, locs, su, _, w, X, hc2, hs, hz, hF, hR, hM _ _, fun q => (by rw [hr] at q; cases q), fun ρ y e => (by cases e; rfl), hq, fun fs hf => X.lreturnOut K.1 hr (hb K.by hd.1) hf⟩
theorem Wk.ret (hM : ∀ en h, M.frm en h h) (hret : rtOf md = none) (hd : InsA md pc .return_ 1 pc') (hc : cu = exOf md) (hc2 : exOf md ≤ (rmOf md).cells) (hs : su ≤ (rmOf md).slots) (hq : Q none w) : Wk l Z M md pc L [] w cu su Q :=
  fun en p e s m args below meth c T locs r X K hz hF hR hL => by
  subst hc
  have hr := K.2.2.2.2.1.trans hret
  exact ⟨T, locs, su, none, w, X, hc2, hs, hz, hF, hR, hM _ _, fun _ => rfl, fun ρ y e => (by cases e), hq, fun fs hf => X.returnOut K.1 hr (hb K.by hd.1) hf⟩
/-! a walk from the entry is a contract -/
theorem Wk.met (h : Wk l Z M md 0 L [] w 0 0 Q) (hp : plainName (nmOf md).cls = true) (ho : M.own = (nmOf md).cls) {en : E} {h0 : Heap} (hR : M.rel en w h0) (as : List Value) (hL : (argsToLocals as.toArray (mxOf md)).toList = L) (hw : wfL L = true) (ws : List Jvm.Cond) :
    MetFree l (nmOf md) (head1 (Jvm.Cond.code (nmOf md) (byOf md) (mxOf md) (rtOf md) :: ws) (rmOf md)) (fun a U => a = (as.map (rv (M.rho en))).toArray ∧ Z.Warmed39 U.vm ∧ U.heap = h0) (fun _ _ _ _ _ => True)
      (fun _ U o U' => ∃ v Lc, o = .returned v ∧ (∃ w', Q v w' ∧ M.rel en w' U'.heap ∧ M.frm en h0 U'.heap ∧ Fr (M.lo en) Lc ∧ U'.heap.size = h0.size + exOf md ∧ ∀ ρ x, v = some x → rv ρ x = x) ∧ FrameEnd U o U' Lc (rmOf md).cells (rmOf md).slots) := by
  refine MetFree.of_bodySF (plainFor_of_name hp) hisR ?_
  intro p e s m args below meth c s₁ Bd hml0 hP hK
  obtain ⟨rfl, hZ, hh⟩ := hP
  have hown : s.vm.findClass (nmOf md).cls = some m.cls := findClass_of_methodNamed Bd.named
  have hnm := (name_of_methodNamed Bd.named Bd.method).1
  have X0 : Stand p l e (rmOf md) s m (as.map (rv (M.rho en))).toArray below meth c s₁ [] 0 0 := Stand.of_body Bd
  have e0 : s₁.heap = s.heap := by rw [Bd.state]; rfl
  subst hh
  obtain ⟨T', locs', su', v, w', a1, a2, a3, a4, a5, a6, a7, a8, a9, a10, a11⟩ := h en p e s m _ below meth c s₁ [] _ X0 ⟨Bd.exec, hZ, by rw [ho]; exact hown, hnm, Bd.returns, BodyLoose.notSynchronized Bd, Bd.bytes, hml0⟩ (by rw [e0]; rfl) (Fr.nil _) (by rw [e0]; exact hR) (SR.entry (M.rho en) as (mxOf md) hL hw)
  obtain ⟨fs, hr, hrun, hended, hW, hsame⟩ := a1.leave (v := v) a8 (BodyLoose.notSynchronized Bd)
  rw [e0] at a7
  exact ⟨_, _, a11 fs hr, hrun, hended, v, locs', rfl, ⟨w', a10, a6, a7, a5, a4, a9⟩, ⟨_, rfl⟩, hW, hsame.mono a2 a3⟩
end Steps
end Jvm.Own

namespace Jvm.Own
open Jvm Jvm.ClassFile Sem Op Lib Jvm.Free Jvm.Stand Jvm.LawKit Jvm.RoadKit
/-! ## 3. One object of the project's class, with its arrays behind it -/
/-- how many arrays are made; the ints; the longs; the arrays of ints (and booleans); of longs -/
abbrev WO : Type := Nat × (Nat → Int32) × (Nat → Int64) × (Nat → Int32 → Int32) × (Nat → Int32 → Int64)
/-- the class; its fields of ints and booleans (number, name, descriptor); of longs; of arrays, in the order in which they are made -/
abbrev CD : Type := String × List (Nat × String × String) × List (Nat × String) × List (Nat × String × String × FieldType × Int32)
def ups {κ α : Type} [DecidableEq κ] (f : κ → α) (i : κ) (x : α) : κ → α := fun k => if k = i then x else f k
theorem ups_at {κ α : Type} [DecidableEq κ] (f : κ → α) (i : κ) (x : α) : ups f i x i = x := by simp [ups]
theorem ups_ne {κ α : Type} [DecidableEq κ] (f : κ → α) {i k : κ} (x : α) (h : k ≠ i) : ups f i x k = f k := by simp [ups, h]
def el : FieldType → Int32 → Int64 → Value
  | .long, _, j => .long j
  | _, i, _ => .int i
theorem el_int {ty : FieldType} (h : ty ≠ .long) (i : Int32) (j : Int64) : el ty i j = .int i := by cases ty <;> first | rfl | exact absurd rfl h
def AtA (Z : State) (h : Heap) (b : Addr) (ty : FieldType) (n : Int32) (f : Int32 → Int32) (g : Int32 → Int64) : Prop :=
  ∃ cl, Arr Z h b cl ty ∧ cl.slots.size = n.toNatClampNeg ∧ ∀ x : Int32, ¬ x < 0 → x < n → cl.slots[x.toNatClampNeg]? = some (el ty (f x) (g x))
def relC (Z : State) (cd : CD) (en : Nat × Nat) (w : WO) (h : Heap) : Prop :=
  en.2 ≤ en.1 ∧ Exa Z h en.1 cd.1 ∧ (∀ t ∈ cd.2.1, Fld Z h en.1 cd.1 t.2.1 t.2.2 (.int (w.2.1 t.1))) ∧ (∀ t ∈ cd.2.2.1, Fld Z h en.1 cd.1 t.2 "J" (.long (w.2.2.1 t.1))) ∧
  (∀ t ∈ cd.2.2.2, (t.1 < w.1 → Fld Z h en.1 cd.1 t.2.1 t.2.2.1 (.ref (en.1 + (t.1 + 1))) ∧ AtA Z h (en.1 + (t.1 + 1)) t.2.2.2.1 t.2.2.2.2 (w.2.2.2.1 t.1) (w.2.2.2.2 t.1)) ∧ (¬ t.1 < w.1 → Fld Z h en.1 cd.1 t.2.1 t.2.2.1 .null)) ∧
  (w.1 < cd.2.2.2.length → h.size = en.1 + 1 + w.1)
def frmC (cd : CD) (en : Nat × Nat) (h h' : Heap) : Prop := h.size ≤ h'.size ∧ ∀ (x : Nat) (c : Cell), h[x]? = some c → (x < en.1 ∨ en.1 + cd.2.2.2.length < x) → h'[x]? = some c
abbrev MoC (Z : State) (cd : CD) : Mode WO (Nat × Nat) := (cd.1, fun en k => en.1 + k, fun en => en.2, relC Z cd, frmC cd)
theorem nn {a b : Nat} (h : a ≠ b) : @Ne Addr a b := h
theorem frmC.refl (cd : CD) (en : Nat × Nat) (h : Heap) : frmC cd en h h := ⟨Nat.le_refl _, fun _ _ q _ => q⟩
theorem frmC.trans {cd : CD} {en : Nat × Nat} {h1 h2 h3 : Heap} (a : frmC cd en h1 h2) (b : frmC cd en h2 h3) : frmC cd en h1 h3 := ⟨Nat.le_trans a.1 b.1, fun x c q r => b.2 x c (a.2 x c q r) r⟩
theorem frmC.wr {cd : CD} {en : Nat × Nat} {h h' : Heap} {b : Nat} {sl : Nat} {v : Value} (W : Wr h h' b sl v) (h1 : en.1 ≤ b) (h2 : b ≤ en.1 + cd.2.2.2.length) : frmC cd en h h' := by
  refine ⟨Nat.le_of_eq W.size.symm, fun x c q r => ?_⟩
  obtain ⟨c', e1, -, -, -, e5, -⟩ := wr_at W q
  rw [← e5 (nn (by omega))]; exact e1
theorem frmC.ext {cd : CD} {en : Nat × Nat} {h h' : Heap} (E : Ext h h') : frmC cd en h h' := ⟨E.1, fun x c q _ => E.2 x c q⟩
def okC (cd : CD) : Prop :=
  (∀ t ∈ cd.2.1, ∀ t' ∈ cd.2.1, (t.1 = t'.1 → t = t') ∧ (t.1 ≠ t'.1 → t.2.1 ≠ t'.2.1)) ∧ (∀ t ∈ cd.2.2.1, ∀ t' ∈ cd.2.2.1, (t.1 = t'.1 → t = t') ∧ (t.1 ≠ t'.1 → t.2 ≠ t'.2)) ∧ (∀ t ∈ cd.2.2.2, ∀ t' ∈ cd.2.2.2, (t.1 = t'.1 → t = t') ∧ (t.1 ≠ t'.1 → t.2.1 ≠ t'.2.1)) ∧
  (∀ t ∈ cd.2.1, ∀ t' ∈ cd.2.2.1, t.2.1 ≠ t'.2) ∧ (∀ t ∈ cd.2.1, ∀ t' ∈ cd.2.2.2, t.2.1 ≠ t'.2.1) ∧ (∀ t ∈ cd.2.2.1, ∀ t' ∈ cd.2.2.2, t.2 ≠ t'.2.1) ∧
  (∀ t ∈ cd.2.1, parseFieldDescriptor t.2.2 = some .int ∨ parseFieldDescriptor t.2.2 = some .boolean) ∧
  (∀ t ∈ cd.2.2.2, parseFieldDescriptor t.2.2.1 = some (.array t.2.2.2.1) ∧ t.1 < cd.2.2.2.length ∧ (t.2.2.2.1 = .int ∨ t.2.2.2.1 = .boolean ∨ t.2.2.2.1 = .long) ∧ ¬ t.2.2.2.2 < 0)
/-- what the words say of the class -/
def CO (Z : State) (a0 : Array Value) (cd : CD) : Prop :=
  (∃ kk, (Cond.instantiable cd.1 kk).before a0 Z = true) ∧ (∀ t ∈ cd.2.1, Laid Z a0 cd.1 cd.1 t.2.1 t.2.2) ∧ (∀ t ∈ cd.2.2.1, Laid Z a0 cd.1 cd.1 t.2 "J") ∧ (∀ t ∈ cd.2.2.2, Laid Z a0 cd.1 cd.1 t.2.1 t.2.2.1) ∧ okC cd
theorem pJ : parseFieldDescriptor "J" = some .long := by decide +kernel
theorem snJ {Z : State} {a0 : Array Value} {C n n' d' : String} {t' : FieldType} (L : Laid Z a0 C C n "J") (L' : Laid Z a0 C C n' d') (hn : n ≠ n') (ht' : parseFieldDescriptor d' = some t') : Jvm.RoadKit.slotOf Z C n "J" ≠ Jvm.RoadKit.slotOf Z C n' d' := by
  have p := pJ
  generalize "J" = q at *
  exact slot_ne L L' hn p ht'
section Rel
variable {Z : State} {a0 : Array Value} {cd : CD} {en : Nat × Nat} {h h' : Heap} {k : Nat} {F : Nat → Int32} {G : Nat → Int64} {A : Nat → Int32 → Int32} {B : Nat → Int32 → Int64}
theorem pI (ok : CO Z a0 cd) {t : Nat × String × String} (ht : t ∈ cd.2.1) : ∃ ty, parseFieldDescriptor t.2.2 = some ty := by
  rcases ok.2.2.2.2.2.2.2.2.2.2.1 t ht with q | q <;> exact ⟨_, q⟩
theorem AtA.other {b b' : Addr} {ty : FieldType} {n : Int32} {f : Int32 → Int32} {g : Int32 → Int64} {sl : Nat} {v : Value} (W : Wr h h' b sl v) (H : AtA Z h b' ty n f g) (hne : b' ≠ b) : AtA Z h' b' ty n f g := by
  obtain ⟨cl, h1, h2, h3⟩ := H
  exact ⟨cl, h1.other W hne, h2, h3⟩
theorem AtA.ext {b' : Addr} {ty : FieldType} {n : Int32} {f : Int32 → Int32} {g : Int32 → Int64} (E : Ext h h') (H : AtA Z h b' ty n f g) : AtA Z h' b' ty n f g := by
  obtain ⟨cl, h1, h2, h3⟩ := H
  exact ⟨cl, h1.ext E, h2, h3⟩
theorem clamp_lt {x n : Int32} (h0 : ¬ x < 0) (h1 : x < n) : x.toNatClampNeg < n.toNatClampNeg := by
  simp only [Int32.lt_iff_toInt_lt, Int32.reduceToInt, Int32.toNatClampNeg] at *
  omega
theorem in_of {x n : Int32} {cl : Cell} (h2 : cl.slots.size = n.toNatClampNeg) (h0 : ¬ x < 0) (h1 : x < n) : ¬ (x < 0 ∨ cl.slots.size ≤ x.toNatClampNeg) := by
  have := clamp_lt h0 h1
  rintro (q | q)
  · exact h0 q
  · omega
theorem AtA.stI {b : Addr} {ty : FieldType} {n : Int32} {f : Int32 → Int32} {g : Int32 → Int64} {j x : Int32} (hty : ty ≠ .long) (h0 : ¬ j < 0) (h1 : j < n) (W : Wr h h' b j.toNatClampNeg (.int x)) (H : AtA Z h b ty n f g) : AtA Z h' b ty n (ups f j x) g := by
  obtain ⟨cl, g1, g2, g3⟩ := H
  refine ⟨_, g1.same W, by rw [sz_set]; exact g2, fun y y0 y1 => ?_⟩
  by_cases e : y = j
  · rw [get_hit (in_of g2 h0 h1) e, e, ups_at, el_int hty]
  · rw [get_miss h0 y0 e, ups_ne _ _ e]; exact g3 y y0 y1
theorem AtA.stJ {b : Addr} {n : Int32} {f : Int32 → Int32} {g : Int32 → Int64} {j : Int32} {x : Int64} (h0 : ¬ j < 0) (h1 : j < n) (W : Wr h h' b j.toNatClampNeg (.long x)) (H : AtA Z h b .long n f g) : AtA Z h' b .long n f (ups g j x) := by
  obtain ⟨cl, g1, g2, g3⟩ := H
  refine ⟨_, g1.same W, by rw [sz_set]; exact g2, fun y y0 y1 => ?_⟩
  by_cases e : y = j
  · rw [get_hit (in_of g2 h0 h1) e, e, ups_at]; rfl
  · rw [get_miss h0 y0 e, ups_ne _ _ e]; exact g3 y y0 y1
theorem relC.putI (ok : CO Z a0 cd) {i : Nat} {n d : String} {x : Int32} (hR : relC Z cd en (k, F, G, A, B) h) (ht : (i, n, d) ∈ cd.2.1) (W : Wr h h' en.1 (Jvm.RoadKit.slotOf Z cd.1 n d) (.int x)) : relC Z cd en (k, ups F i x, G, A, B) h' := by
  obtain ⟨r1, r2, r3, r4, r5, r6⟩ := hR
  obtain ⟨-, o2, o3, o4, q1, q2, q3, q4, q5, q6, q7, q8⟩ := ok
  obtain ⟨ty0, p0⟩ : ∃ ty, parseFieldDescriptor d = some ty := by rcases q7 _ ht with q | q <;> exact ⟨_, q⟩
  refine ⟨r1, r2.wr W, fun t m => ?_, fun t m => ?_, fun t m => ⟨fun hk => ?_, fun hk => ?_⟩, fun q => ?_⟩
  · obtain ⟨u1, u2⟩ := q1 _ m _ ht
    by_cases e : t.1 = i
    · have e2 := u1 e
      subst e2
      show Fld Z h' en.1 cd.1 n d (.int (ups F i x i))
      rw [ups_at]
      exact (r3 _ ht).same W
    · show Fld Z h' en.1 cd.1 _ _ (.int (ups F i x t.1))
      rw [ups_ne _ _ e]
      obtain ⟨ty1, p1⟩ : ∃ ty, parseFieldDescriptor t.2.2 = some ty := by rcases q7 _ m with q | q <;> exact ⟨_, q⟩
      have z0 := slot_ne (o2 _ m) (o2 _ ht) (u2 e) p1 p0
      exact (r3 t m).other W (Or.inr z0)
  · have e1 := o3 _ m
    have e2 := o2 _ ht
    have e3 := q4 _ ht _ m
    have e4 := snJ e1 e2 (Ne.symm e3) p0
    have e5 := r4 t m
    exact e5.other W (Or.inr e4)
  · obtain ⟨a1, a2⟩ := (r5 t m).1 hk
    have z0 := slot_ne (o4 _ m) (o2 _ ht) (Ne.symm (q5 _ ht _ m)) (q8 _ m).1 p0
    exact ⟨a1.other W (Or.inr z0), a2.other W (nn (by omega))⟩
  · have z0 := slot_ne (o4 _ m) (o2 _ ht) (Ne.symm (q5 _ ht _ m)) (q8 _ m).1 p0
    exact ((r5 t m).2 hk).other W (Or.inr z0)
  · rw [W.size]; exact r6 q
theorem relC.putJ (ok : CO Z a0 cd) {i : Nat} {n : String} {x : Int64} (hR : relC Z cd en (k, F, G, A, B) h) (ht : (i, n) ∈ cd.2.2.1) (W : Wr h h' en.1 (Jvm.RoadKit.slotOf Z cd.1 n "J") (.long x)) : relC Z cd en (k, F, ups G i x, A, B) h' := by
  obtain ⟨r1, r2, r3, r4, r5, r6⟩ := hR
  obtain ⟨-, o2, o3, o4, q1, q2, q3, q4, q5, q6, q7, q8⟩ := ok
  refine ⟨r1, r2.wr W, fun t m => ?_, fun t m => ?_, fun t m => ⟨fun hk => ?_, fun hk => ?_⟩, fun q => ?_⟩
  · obtain ⟨ty1, p1⟩ : ∃ ty, parseFieldDescriptor t.2.2 = some ty := by rcases q7 _ m with q | q <;> exact ⟨_, q⟩
    have z0 := Ne.symm (snJ (o3 _ ht) (o2 _ m) (Ne.symm (q4 _ m _ ht)) p1)
    exact (r3 t m).other W (Or.inr z0)
  · obtain ⟨u1, u2⟩ := q2 _ m _ ht
    by_cases e : t.1 = i
    · have e2 := u1 e
      subst e2
      show Fld Z h' en.1 cd.1 n "J" (.long (ups G i x i))
      rw [ups_at]
      exact (r4 _ ht).same W
    · show Fld Z h' en.1 cd.1 _ _ (.long (ups G i x t.1))
      rw [ups_ne _ _ e]
      have z0 := snJ (o3 _ m) (o3 _ ht) (u2 e) pJ
      exact (r4 t m).other W (Or.inr z0)
  · obtain ⟨a1, a2⟩ := (r5 t m).1 hk
    have z0 := Ne.symm (snJ (o3 _ ht) (o4 _ m) (q6 _ ht _ m) (q8 _ m).1)
    exact ⟨a1.other W (Or.inr z0), a2.other W (nn (by omega))⟩
  · have z0 := Ne.symm (snJ (o3 _ ht) (o4 _ m) (q6 _ ht _ m) (q8 _ m).1)
    exact ((r5 t m).2 hk).other W (Or.inr z0)
  · rw [W.size]; exact r6 q
theorem relC.stI (ok : CO Z a0 cd) {i : Nat} {n d : String} {ty : FieldType} {len j x : Int32} (hty : ty ≠ .long) (h0 : ¬ j < 0) (h1 : j < len) (hR : relC Z cd en (k, F, G, A, B) h) (ht : (i, n, d, ty, len) ∈ cd.2.2.2) (W : Wr h h' (en.1 + (i + 1)) j.toNatClampNeg (.int x)) : relC Z cd en (k, F, G, ups A i (ups (A i) j x), B) h' := by
  obtain ⟨r1, r2, r3, r4, r5, r6⟩ := hR
  obtain ⟨-, o2, o3, o4, q1, q2, q3, q4, q5, q6, q7, q8⟩ := ok
  refine ⟨r1, r2.wr W, fun t m => (r3 t m).other W (Or.inl (nn (by omega))), fun t m => (r4 t m).other W (Or.inl (nn (by omega))), fun t m => ⟨fun hk => ?_, fun hk => ((r5 t m).2 hk).other W (Or.inl (nn (by omega)))⟩, fun q => by rw [W.size]; exact r6 q⟩
  obtain ⟨a1, a2⟩ := (r5 t m).1 hk
  refine ⟨a1.other W (Or.inl (nn (by omega))), ?_⟩
  obtain ⟨u1, u2⟩ := q3 _ m _ ht
  show AtA Z h' _ _ _ (ups A i (ups (A i) j x) t.1) (B t.1)
  by_cases e : t.1 = i
  · have e2 := u1 e
    subst e2
    rw [ups_at]
    exact a2.stI hty h0 h1 W
  · rw [ups_ne _ _ e]
    exact a2.other W (nn (by omega))
theorem relC.stJ (ok : CO Z a0 cd) {i : Nat} {n d : String} {len j : Int32} {x : Int64} (h0 : ¬ j < 0) (h1 : j < len) (hR : relC Z cd en (k, F, G, A, B) h) (ht : (i, n, d, .long, len) ∈ cd.2.2.2) (W : Wr h h' (en.1 + (i + 1)) j.toNatClampNeg (.long x)) : relC Z cd en (k, F, G, A, ups B i (ups (B i) j x)) h' := by
  obtain ⟨r1, r2, r3, r4, r5, r6⟩ := hR
  obtain ⟨-, o2, o3, o4, q1, q2, q3, q4, q5, q6, q7, q8⟩ := ok
  refine ⟨r1, r2.wr W, fun t m => (r3 t m).other W (Or.inl (nn (by omega))), fun t m => (r4 t m).other W (Or.inl (nn (by omega))), fun t m => ⟨fun hk => ?_, fun hk => ((r5 t m).2 hk).other W (Or.inl (nn (by omega)))⟩, fun q => by rw [W.size]; exact r6 q⟩
  obtain ⟨a1, a2⟩ := (r5 t m).1 hk
  refine ⟨a1.other W (Or.inl (nn (by omega))), ?_⟩
  obtain ⟨u1, u2⟩ := q3 _ m _ ht
  show AtA Z h' _ _ _ (A t.1) (ups B i (ups (B i) j x) t.1)
  by_cases e : t.1 = i
  · have e2 := u1 e
    subst e2
    rw [ups_at]
    exact a2.stJ h0 h1 W
  · rw [ups_ne _ _ e]
    exact a2.other W (nn (by omega))
theorem relC.newA (ok : CO Z a0 cd) {h1 : Heap} {n d : String} {ty : FieldType} {len : Int32} {cA : ClassId} (hR : relC Z cd en (k, F, G, A, B) h) (ht : (k, n, d, ty, len) ∈ cd.2.2.2) (hA : A k = fun _ => 0) (hB : B k = fun _ => 0) (E : Ext h h1) (N : Arr Z h1 h.size (Jvm.RoadKit.newA cA ty len) ty) (W : Wr h1 h' en.1 (Jvm.RoadKit.slotOf Z cd.1 n d) (.ref h.size)) (hz : h'.size = h.size + 1) : relC Z cd en (k + 1, F, G, A, B) h' := by
  obtain ⟨r1, r2, r3, r4, r5, r6⟩ := hR
  obtain ⟨-, o2, o3, o4, q1, q2, q3, q4, q5, q6, q7, q8⟩ := ok
  have hsz : h.size = en.1 + 1 + k := r6 (q8 _ ht).2.1
  refine ⟨r1, (r2.ext E).wr W, fun t m => ?_, fun t m => ?_, fun t m => ⟨fun hk => ?_, fun hk => ?_⟩, fun q => ?_⟩
  · obtain ⟨ty1, p1⟩ : ∃ ty, parseFieldDescriptor t.2.2 = some ty := by rcases q7 _ m with q | q <;> exact ⟨_, q⟩
    have z0 := slot_ne (o2 _ m) (o4 _ ht) (q5 _ m _ ht) p1 (q8 _ ht).1
    exact ((r3 t m).ext E).other W (Or.inr z0)
  · have z0 := snJ (o3 _ m) (o4 _ ht) (q6 _ m _ ht) (q8 _ ht).1
    exact ((r4 t m).ext E).other W (Or.inr z0)
  · obtain ⟨u1, u2⟩ := q3 _ m _ ht
    by_cases e : t.1 = k
    · have e2 := u1 e
      subst e2
      have f0 := ((r5 _ ht).2 (Nat.lt_irrefl k)).ext E
      refine ⟨?_, ?_⟩
      · have := f0.same W
        rw [hsz] at this
        show Fld Z h' en.1 cd.1 n d (.ref (en.1 + (k + 1)))
        rw [show en.1 + (k + 1) = en.1 + 1 + k by omega]
        exact this
      · show AtA Z h' (en.1 + (k + 1)) ty len (A k) (B k)
        rw [hA, hB, show en.1 + (k + 1) = h.size by omega]
        refine AtA.other W ⟨_, N, sz_new _ _ _, fun x x0 x1 => ?_⟩ (nn (by omega))
        rw [get_new (in_of (cl := Jvm.RoadKit.newA cA ty len) (sz_new _ _ _) x0 x1 |> fun q => by rwa [sz_new] at q)]
        have o := (q8 _ ht).2.2.1
        rcases o with o | o | o <;> (have o' : ty = _ := o; subst o'; rfl)
    · obtain ⟨a1, a2⟩ := (r5 t m).1 (by show t.1 < k; have : t.1 < k + 1 := hk; omega)
      have z0 := slot_ne (o4 _ m) (o4 _ ht) (u2 e) (q8 _ m).1 (q8 _ ht).1
      exact ⟨(a1.ext E).other W (Or.inr z0), (a2.ext E).other W (nn (by omega))⟩
  · obtain ⟨u1, u2⟩ := q3 _ m _ ht
    have hk' : ¬ t.1 < k + 1 := hk
    have z0 := slot_ne (o4 _ m) (o4 _ ht) (u2 (by show t.1 ≠ k; omega)) (q8 _ m).1 (q8 _ ht).1
    exact (((r5 t m).2 (by show ¬ t.1 < k; omega)).ext E).other W (Or.inr z0)
  · show h'.size = en.1 + 1 + (k + 1)
    omega
end Rel
section StepsC
variable {l : Launch} {Z : State} {a0 : Array Value} {cd : CD} {md : MD} {pc pc' pc1 : Nat} {L L' : List Slot} {S : List Value} {k : Nat} {F : Nat → Int32} {G : Nat → Int64} {A : Nat → Int32 → Int32} {B : Nat → Int32 → Int64} {cu su cu' su' : Nat} {Q : Option Value → WO → Prop} {idx : Nat}
theorem Wk.getI {i : Nat} {n d : String} {x : Int32} (ht : (i, n, d) ∈ cd.2.1) (wl : (Cond.fieldLink cd.1 idx cd.1 n d).before a0 Z = true) (hd : InsA md pc (.getfield idx) 3 pc') (hx : F i = x) (h : Wk l Z (MoC Z cd) md pc' L (.int x :: S) (k, F, G, A, B) cu su Q) : Wk l Z (MoC Z cd) md pc L (.ref 0 :: S) (k, F, G, A, B) cu su Q :=
  fun en p e s m args below meth c T locs r X K hz hF hR hL => by
  obtain ⟨hd, rfl⟩ := hd
  subst hx
  obtain ⟨T1, X1, e1, st⟩ := getF X K.1 K.2.1 K.2.2.1 (host := "") (Or.inl wl) Via.refl rfl (hR.2.2.1 _ ht) (g := mkF m pc r (.ref en.1 :: S.map (rv ((MoC Z cd).rho en)))) rfl rfl (hb K.by hd)
  refine (h en p e s m args below meth c T1 locs r X1 K (by rw [e1]; exact hz) hF (by rw [e1]; exact hR) hL).pre (fun _ q => by rw [e1] at q; exact q) fun t q => st t q
theorem Wk.getJ {i : Nat} {n : String} {x : Int64} (ht : (i, n) ∈ cd.2.2.1) (wl : (Cond.fieldLink cd.1 idx cd.1 n "J").before a0 Z = true) (hd : InsA md pc (.getfield idx) 3 pc') (hx : G i = x) (h : Wk l Z (MoC Z cd) md pc' L (.long x :: S) (k, F, G, A, B) cu su Q) : Wk l Z (MoC Z cd) md pc L (.ref 0 :: S) (k, F, G, A, B) cu su Q :=
  fun en p e s m args below meth c T locs r X K hz hF hR hL => by
  obtain ⟨hd, rfl⟩ := hd
  subst hx
  obtain ⟨T1, X1, e1, st⟩ := getF X K.1 K.2.1 K.2.2.1 (host := "") (Or.inl wl) Via.refl rfl (hR.2.2.2.1 _ ht) (g := mkF m pc r (.ref en.1 :: S.map (rv ((MoC Z cd).rho en)))) rfl rfl (hb K.by hd)
  refine (h en p e s m args below meth c T1 locs r X1 K (by rw [e1]; exact hz) hF (by rw [e1]; exact hR) hL).pre (fun _ q => by rw [e1] at q; exact q) fun t q => st t q
theorem Wk.getA {i i' : Nat} {n d : String} {ty : FieldType} {len : Int32} (ht : (i, n, d, ty, len) ∈ cd.2.2.2) (hi : i < k) (hi' : i + 1 = i') (wl : (Cond.fieldLink cd.1 idx cd.1 n d).before a0 Z = true) (hd : InsA md pc (.getfield idx) 3 pc') (h : Wk l Z (MoC Z cd) md pc' L (.ref i' :: S) (k, F, G, A, B) cu su Q) : Wk l Z (MoC Z cd) md pc L (.ref 0 :: S) (k, F, G, A, B) cu su Q :=
  fun en p e s m args below meth c T locs r X K hz hF hR hL => by
  obtain ⟨hd, rfl⟩ := hd
  subst hi'
  obtain ⟨T1, X1, e1, st⟩ := getF X K.1 K.2.1 K.2.2.1 (host := "") (Or.inl wl) Via.refl rfl ((hR.2.2.2.2.1 _ ht).1 hi).1 (g := mkF m pc r (.ref en.1 :: S.map (rv ((MoC Z cd).rho en)))) rfl rfl (hb K.by hd)
  refine (h en p e s m args below meth c T1 locs r X1 K (by rw [e1]; exact hz) hF (by rw [e1]; exact hR) hL).pre (fun _ q => by rw [e1] at q; exact q) fun t q => st t q
theorem Wk.putI (ok : CO Z a0 cd) {i : Nat} {n : String} {x : Int32} (ht : (i, n, "I") ∈ cd.2.1) (wl : (Cond.fieldLink cd.1 idx cd.1 n "I").before a0 Z = true) (wy : (Cond.lays cd.1 cd.1 n "I").before a0 Z = true ∨ ((Cond.laysFinal cd.1 cd.1 n "I").before a0 Z = true ∧ (nmOf md).name = "<init>")) (hd : InsA md pc (.putfield idx) 3 pc') (h : Wk l Z (MoC Z cd) md pc' L S (k, ups F i x, G, A, B) cu su Q) : Wk l Z (MoC Z cd) md pc L (.int x :: .ref 0 :: S) (k, F, G, A, B) cu su Q :=
  fun en p e s m args below meth c T locs r X K hz hF hR hL => by
  obtain ⟨hd, rfl⟩ := hd
  obtain ⟨kk, wi⟩ := ok.1
  obtain ⟨T1, h1, X1, e1, W1, st⟩ := putF X K.1 K.2.1 K.2.2.1 (host := "") (Or.inl wl) Via.refl rfl (hR.2.2.1 _ ht) hR.2.1 (wy.imp id fun q => ⟨q.1, rfl, K.2.2.2.1.trans q.2⟩) wi (ty := .int) (v := .int x) (by decide +kernel) rfl rfl (g := mkF m pc r (.int x :: .ref en.1 :: S.map (rv ((MoC Z cd).rho en)))) rfl rfl (hb K.by hd)
  subst e1
  exact (h en p e s m args below meth c T1 _ r X1 K (by rw [W1.size]; exact hz) (Fr.snoc X1 hF hR.1) (relC.putI ok hR ht W1) hL).pre (fun _ q => (frmC.wr W1 (Nat.le_refl _) (Nat.le_add_right _ _)).trans q) fun t q => st t q
theorem Wk.putZ (ok : CO Z a0 cd) {i : Nat} {n : String} {x y : Int32} (hy : nar .boolean x = y) (ht : (i, n, "Z") ∈ cd.2.1) (wl : (Cond.fieldLink cd.1 idx cd.1 n "Z").before a0 Z = true) (wy : (Cond.lays cd.1 cd.1 n "Z").before a0 Z = true ∨ ((Cond.laysFinal cd.1 cd.1 n "Z").before a0 Z = true ∧ (nmOf md).name = "<init>")) (hd : InsA md pc (.putfield idx) 3 pc') (h : Wk l Z (MoC Z cd) md pc' L S (k, ups F i y, G, A, B) cu su Q) : Wk l Z (MoC Z cd) md pc L (.int x :: .ref 0 :: S) (k, F, G, A, B) cu su Q :=
  fun en p e s m args below meth c T locs r X K hz hF hR hL => by
  obtain ⟨hd, rfl⟩ := hd
  subst hy
  obtain ⟨kk, wi⟩ := ok.1
  obtain ⟨T1, h1, X1, e1, W1, st⟩ := putFN X K.1 K.2.1 K.2.2.1 wl Via.refl rfl (hR.2.2.1 _ ht) hR.2.1 (wy.imp id fun q => ⟨q.1, rfl, K.2.2.2.1.trans q.2⟩) wi (ty := .boolean) (v := .int x) (v' := .int (nar .boolean x)) (by decide +kernel) rfl (fits_nar_bool x) (g := mkF m pc r (.int x :: .ref en.1 :: S.map (rv ((MoC Z cd).rho en)))) rfl rfl (hb K.by hd)
  subst e1
  exact (h en p e s m args below meth c T1 _ r X1 K (by rw [W1.size]; exact hz) (Fr.snoc X1 hF hR.1) (relC.putI ok hR ht W1) hL).pre (fun _ q => (frmC.wr W1 (Nat.le_refl _) (Nat.le_add_right _ _)).trans q) fun t q => st t q
theorem Wk.putJ (ok : CO Z a0 cd) {i : Nat} {n : String} {x : Int64} (ht : (i, n) ∈ cd.2.2.1) (wl : (Cond.fieldLink cd.1 idx cd.1 n "J").before a0 Z = true) (wy : (Cond.lays cd.1 cd.1 n "J").before a0 Z = true ∨ ((Cond.laysFinal cd.1 cd.1 n "J").before a0 Z = true ∧ (nmOf md).name = "<init>")) (hd : InsA md pc (.putfield idx) 3 pc') (h : Wk l Z (MoC Z cd) md pc' L S (k, F, ups G i x, A, B) cu su Q) : Wk l Z (MoC Z cd) md pc L (.long x :: .ref 0 :: S) (k, F, G, A, B) cu su Q :=
  fun en p e s m args below meth c T locs r X K hz hF hR hL => by
  obtain ⟨hd, rfl⟩ := hd
  obtain ⟨kk, wi⟩ := ok.1
  obtain ⟨T1, h1, X1, e1, W1, st⟩ := putF X K.1 K.2.1 K.2.2.1 (host := "") (Or.inl wl) Via.refl rfl (hR.2.2.2.1 _ ht) hR.2.1 (wy.imp id fun q => ⟨q.1, rfl, K.2.2.2.1.trans q.2⟩) wi (ty := .long) (v := .long x) (by decide +kernel) rfl rfl (g := mkF m pc r (.long x :: .ref en.1 :: S.map (rv ((MoC Z cd).rho en)))) rfl rfl (hb K.by hd)
  subst e1
  exact (h en p e s m args below meth c T1 _ r X1 K (by rw [W1.size]; exact hz) (Fr.snoc X1 hF hR.1) (relC.putJ ok hR ht W1) hL).pre (fun _ q => (frmC.wr W1 (Nat.le_refl _) (Nat.le_add_right _ _)).trans q) fun t q => st t q
/-- an array is made and laid into its field at once -/
theorem Wk.newA (ok : CO Z a0 cd) {aty : ArrayType} {len : Int32} {n d : String} {ty : FieldType} {k' : Nat} (hty : newarray.typeOf aty = ty) (wa : (Cond.arrayClass (newarray.typeOf aty)).before a0 Z = true) (ht : (k, n, d, ty, len) ∈ cd.2.2.2) (wl : (Cond.fieldLink cd.1 idx cd.1 n d).before a0 Z = true)
    (wy : (Cond.lays cd.1 cd.1 n d).before a0 Z = true ∨ ((Cond.laysFinal cd.1 cd.1 n d).before a0 Z = true ∧ (nmOf md).name = "<init>")) (hd : InsA md pc (.newarray aty) 2 pc1) (hd2 : InsA md pc1 (.putfield idx) 3 pc') (hA : A k = fun _ => 0) (hB : B k = fun _ => 0) (hk : k + 1 = k') (hcu : cu + 1 = cu') (hsu : su + len.toNatClampNeg = su')
    (hcap : len.toNatClampNeg * 8 ≤ 536870912) (hc : cu' ≤ (rmOf md).cells) (hs : su' ≤ (rmOf md).slots) (h : Wk l Z (MoC Z cd) md pc' L S (k', F, G, A, B) cu' su' Q) : Wk l Z (MoC Z cd) md pc L (.int len :: .ref 0 :: S) (k, F, G, A, B) cu su Q :=
  fun en p e s m args below meth c T locs r X K hz hF hR hL => by
  obtain ⟨hd, rfl⟩ := hd
  obtain ⟨hd2, rfl⟩ := hd2
  subst hk hcu hsu hty
  obtain ⟨kk, wi⟩ := ok.1
  have p8 := ok.2.2.2.2.2.2.2.2.2.2.2 _ ht
  obtain ⟨T1, h1, cA, X1, e1, E1, N1, st1⟩ := newP X K.1 K.2.1 wa rfl (g := mkF m pc r (.int len :: .ref en.1 :: S.map (rv ((MoC Z cd).rho en)))) rfl (hb K.by hd) rfl p8.2.2.2 (cap := len.toNatClampNeg) (Nat.le_refl _) hcap hc hs
  subst e1
  obtain ⟨T2, h2, X2, e2, W2, st2⟩ := putF X1 K.1 K.2.1 K.2.2.1 (host := "") (Or.inl wl) Via.refl rfl (((hR.2.2.2.2.1 _ ht).2 (Nat.lt_irrefl k)).ext E1) (hR.2.1.ext E1) (wy.imp id fun q => ⟨q.1, rfl, K.2.2.2.1.trans q.2⟩) wi (v := .ref T.heap.size) p8.1 rfl rfl (g := mkF m (pc + 2) r (.ref T.heap.size :: .ref en.1 :: S.map (rv ((MoC Z cd).rho en)))) rfl rfl (hb K.by hd2)
  subst e2
  have z1 := X1.heapSize
  have z2 : (T.heap.size : Nat) < T1.heap.size := N1.lt
  have z3 := W2.size
  exact (h en p e s m args below meth c T2 _ r X2 K (by omega) (Fr.snoc X2 hF hR.1) (relC.newA ok hR ht hA hB E1 N1 W2 (by omega)) hL).pre (fun _ q => ((frmC.ext E1).trans (frmC.wr W2 (Nat.le_refl _) (Nat.le_add_right _ _))).trans q) fun t q => st1 t (st2 t q)
theorem relC.arr {en : Nat × Nat} {h : Heap} {i : Nat} {n d : String} {ty : FieldType} {len : Int32} (hR : relC Z cd en (k, F, G, A, B) h) (ht : (i, n, d, ty, len) ∈ cd.2.2.2) (hi : i < k) : AtA Z h (en.1 + (i + 1)) ty len (A i) (B i) := ((hR.2.2.2.2.1 _ ht).1 hi).2
theorem Wk.iaload {i i' : Nat} {n d : String} {len x : Int32} {y : Int32} (ht : (i, n, d, .int, len) ∈ cd.2.2.2) (hi : i < k) (hi' : i + 1 = i') (h0 : ¬ x < 0) (h1 : x < len) (hd : InsA md pc .iaload 1 pc') (hy : A i x = y) (h : Wk l Z (MoC Z cd) md pc' L (.int y :: S) (k, F, G, A, B) cu su Q) : Wk l Z (MoC Z cd) md pc L (.int x :: .ref i' :: S) (k, F, G, A, B) cu su Q :=
  fun en p e s m args below meth c T locs r X K hz hF hR hL => by
  obtain ⟨hd, rfl⟩ := hd
  subst hi' hy
  obtain ⟨cl, g1, g2, g3⟩ := relC.arr hR ht hi
  exact (h en p e s m args below meth c T locs r X K hz hF hR hL).pre (fun _ q => q) fun t q => X.iaload K.1 (j := x) (v := .int (A i x)) g1.1 (State.isArrayOf_alike K.2.1.alike g1.2.1) g1.2.2 (in_of g2 h0 h1) (g3 x h0 h1) (g := mkF m pc r (.int x :: .ref (en.1 + (i + 1)) :: S.map (rv ((MoC Z cd).rho en)))) rfl rfl (hb K.by hd) _ q
theorem Wk.baload {i i' : Nat} {n d : String} {len x : Int32} {y : Int32} (ht : (i, n, d, .boolean, len) ∈ cd.2.2.2) (hi : i < k) (hi' : i + 1 = i') (h0 : ¬ x < 0) (h1 : x < len) (hd : InsA md pc .baload 1 pc') (hy : A i x = y) (h : Wk l Z (MoC Z cd) md pc' L (.int y :: S) (k, F, G, A, B) cu su Q) : Wk l Z (MoC Z cd) md pc L (.int x :: .ref i' :: S) (k, F, G, A, B) cu su Q :=
  fun en p e s m args below meth c T locs r X K hz hF hR hL => by
  obtain ⟨hd, rfl⟩ := hd
  subst hi' hy
  obtain ⟨cl, g1, g2, g3⟩ := relC.arr hR ht hi
  exact (h en p e s m args below meth c T locs r X K hz hF hR hL).pre (fun _ q => q) fun t q => X.baloadBooleans K.1 (j := x) (v := .int (A i x)) g1.1 (State.isArrayOf_alike K.2.1.alike g1.2.1) g1.2.2 (in_of g2 h0 h1) (g3 x h0 h1) (g := mkF m pc r (.int x :: .ref (en.1 + (i + 1)) :: S.map (rv ((MoC Z cd).rho en)))) rfl rfl (hb K.by hd) _ q
theorem Wk.laload {i i' : Nat} {n d : String} {len x : Int32} {y : Int64} (ht : (i, n, d, .long, len) ∈ cd.2.2.2) (hi : i < k) (hi' : i + 1 = i') (h0 : ¬ x < 0) (h1 : x < len) (hd : InsA md pc .laload 1 pc') (hy : B i x = y) (h : Wk l Z (MoC Z cd) md pc' L (.long y :: S) (k, F, G, A, B) cu su Q) : Wk l Z (MoC Z cd) md pc L (.int x :: .ref i' :: S) (k, F, G, A, B) cu su Q :=
  fun en p e s m args below meth c T locs r X K hz hF hR hL => by
  obtain ⟨hd, rfl⟩ := hd
  subst hi' hy
  obtain ⟨cl, g1, g2, g3⟩ := relC.arr hR ht hi
  exact (h en p e s m args below meth c T locs r X K hz hF hR hL).pre (fun _ q => q) fun t q => X.laload K.1 (j := x) (v := .long (B i x)) g1.1 (State.isArrayOf_alike K.2.1.alike g1.2.1) g1.2.2 (in_of g2 h0 h1) (g3 x h0 h1) (g := mkF m pc r (.int x :: .ref (en.1 + (i + 1)) :: S.map (rv ((MoC Z cd).rho en)))) rfl rfl (hb K.by hd) _ q
theorem Wk.iastore (ok : CO Z a0 cd) {f : Int32 → Int32} {i i' : Nat} {n d : String} {len x v : Int32} (ht : (i, n, d, .int, len) ∈ cd.2.2.2) (hf : A i = f) (hi : i < k) (hi' : i + 1 = i') (h0 : ¬ x < 0) (h1 : x < len) (hd : InsA md pc .iastore 1 pc') (h : Wk l Z (MoC Z cd) md pc' L S (k, F, G, ups A i (ups f x v), B) cu su Q) : Wk l Z (MoC Z cd) md pc L (.int v :: .int x :: .ref i' :: S) (k, F, G, A, B) cu su Q :=
  fun en p e s m args below meth c T locs r X K hz hF hR hL => by
  obtain ⟨hd, rfl⟩ := hd
  subst hi' hf
  obtain ⟨cl, g1, g2, g3⟩ := relC.arr hR ht hi
  obtain ⟨T1, e1', X1, e1, W1, st⟩ := stI X K.1 K.2.1 rfl g1 (in_of g2 h0 h1) (g := mkF m pc r (.int v :: .int x :: .ref (en.1 + (i + 1)) :: S.map (rv ((MoC Z cd).rho en)))) rfl rfl (hb K.by hd)
  subst e1
  have p8 := (ok.2.2.2.2.2.2.2.2.2.2.2 _ ht).2.1
  exact (h en p e s m args below meth c T1 _ r X1 K (by rw [W1.size]; exact hz) (Fr.snoc X1 hF (Nat.le_trans hR.1 (Nat.le_add_right _ _))) (relC.stI ok (by decide) h0 h1 hR ht W1) hL).pre (fun _ q => (frmC.wr W1 (Nat.le_add_right _ _) (Nat.add_le_add_left (show i + 1 ≤ cd.2.2.2.length from p8) _)).trans q) fun t q => st t q
theorem Wk.bastore (ok : CO Z a0 cd) {f : Int32 → Int32} {i i' : Nat} {n d : String} {len x v v' : Int32} (hv : nar .boolean v = v') (ht : (i, n, d, .boolean, len) ∈ cd.2.2.2) (hf : A i = f) (hi : i < k) (hi' : i + 1 = i') (h0 : ¬ x < 0) (h1 : x < len) (hd : InsA md pc .bastore 1 pc') (h : Wk l Z (MoC Z cd) md pc' L S (k, F, G, ups A i (ups f x v'), B) cu su Q) : Wk l Z (MoC Z cd) md pc L (.int v :: .int x :: .ref i' :: S) (k, F, G, A, B) cu su Q :=
  fun en p e s m args below meth c T locs r X K hz hF hR hL => by
  obtain ⟨hd, rfl⟩ := hd
  subst hi' hv hf
  obtain ⟨cl, g1, g2, g3⟩ := relC.arr hR ht hi
  obtain ⟨T1, e1', X1, e1, W1, st⟩ := stZ X K.1 K.2.1 rfl g1 (in_of g2 h0 h1) (g := mkF m pc r (.int v :: .int x :: .ref (en.1 + (i + 1)) :: S.map (rv ((MoC Z cd).rho en)))) rfl rfl (hb K.by hd)
  subst e1
  have p8 := (ok.2.2.2.2.2.2.2.2.2.2.2 _ ht).2.1
  exact (h en p e s m args below meth c T1 _ r X1 K (by rw [W1.size]; exact hz) (Fr.snoc X1 hF (Nat.le_trans hR.1 (Nat.le_add_right _ _))) (relC.stI ok (by decide) h0 h1 hR ht W1) hL).pre (fun _ q => (frmC.wr W1 (Nat.le_add_right _ _) (Nat.add_le_add_left (show i + 1 ≤ cd.2.2.2.length from p8) _)).trans q) fun t q => st t q
theorem Wk.lastore (ok : CO Z a0 cd) {f : Int32 → Int64} {i i' : Nat} {n d : String} {len x : Int32} {v : Int64} (ht : (i, n, d, .long, len) ∈ cd.2.2.2) (hf : B i = f) (hi : i < k) (hi' : i + 1 = i') (h0 : ¬ x < 0) (h1 : x < len) (hd : InsA md pc .lastore 1 pc') (h : Wk l Z (MoC Z cd) md pc' L S (k, F, G, A, ups B i (ups f x v)) cu su Q) : Wk l Z (MoC Z cd) md pc L (.long v :: .int x :: .ref i' :: S) (k, F, G, A, B) cu su Q :=
  fun en p e s m args below meth c T locs r X K hz hF hR hL => by
  obtain ⟨hd, rfl⟩ := hd
  subst hi' hf
  obtain ⟨cl, g1, g2, g3⟩ := relC.arr hR ht hi
  obtain ⟨T1, e1', X1, e1, W1, st⟩ := stJ X K.1 K.2.1 rfl g1 (in_of g2 h0 h1) (g := mkF m pc r (.long v :: .int x :: .ref (en.1 + (i + 1)) :: S.map (rv ((MoC Z cd).rho en)))) rfl rfl (hb K.by hd)
  subst e1
  have p8 := (ok.2.2.2.2.2.2.2.2.2.2.2 _ ht).2.1
  exact (h en p e s m args below meth c T1 _ r X1 K (by rw [W1.size]; exact hz) (Fr.snoc X1 hF (Nat.le_trans hR.1 (Nat.le_add_right _ _))) (relC.stJ ok h0 h1 hR ht W1) hL).pre (fun _ q => (frmC.wr W1 (Nat.le_add_right _ _) (Nat.add_le_add_left (show i + 1 ≤ cd.2.2.2.length from p8) _)).trans q) fun t q => st t q
/-- Object.<init> -/
theorem Wk.initO {μ E : Type} {M : Mode μ E} {w : μ} {Q : Option Value → μ → Prop} {v : Nat} (w1 : (Cond.methodLink M.own idx Lib.objectInit).before a0 Z = true) (w2 : (Cond.instanceMethod Lib.objectInit).before a0 Z = true) (w3 : (Cond.code Lib.objectInit ⟨#[0xb1]⟩ 1 none).before a0 Z = true) (hd : InsA md pc (.invokespecial idx) 3 pc') (hl : L.length = mxOf md) (hf : 1 ≤ (rmOf md).frames) (hW : (S.map fun v => v.category).sum + 12 ≤ (rmOf md).locals)
    (h : Wk l Z M md pc' L S w cu su Q) : Wk l Z M md pc L (.ref v :: S) w cu su Q :=
  fun en p e s m args below meth c T locs r X K hz hF hR hL => by
  obtain ⟨hd, rfl⟩ := hd
  have cs : ∀ S : List Value, ((S.map (rv (M.rho en))).map fun v => v.category).sum = (S.map fun v => v.category).sum := fun S => by rw [List.map_map]; congr 1; exact List.map_congr_left fun v _ => rv_cat _ v
  obtain ⟨T1, X1, e1, st⟩ := Jvm.RoadKit.initO X K.1 K.2.1 K.2.2.1 w1 w2 w3 rfl (g := mkF m pc r (.ref (M.rho en v) :: S.map (rv (M.rho en)))) rfl (by show r.size = _; rw [hL.1, hl]; exact K.2.2.2.2.2.2.2.symm) rfl (hb K.by hd) hf (W := (S.map fun v => v.category).sum) (by show 2 * 0 + _ ≤ _; rw [cs]; omega) hW
  exact (h en p e s m args below meth c T1 locs r X1 K (by rw [e1]; exact hz) hF (by rw [e1]; exact hR) hL).pre (fun _ q => by rw [e1] at q; exact q) fun t q => st t q
end StepsC
end Jvm.Own

namespace Jvm.Own
open Jvm Jvm.ClassFile Sem Op Lib Jvm.Free Jvm.Stand Jvm.LawKit Jvm.RoadKit
/-! ## 4. Calls -/
def noRef : List Value → Bool
  | [] => true
  | .ref _ :: _ => false
  | _ :: t => noRef t
theorem noRef.map : (as : List Value) → noRef as = true → ∀ ρ, as.map (rv ρ) = as
  | [], _, _ => rfl
  | .ref _ :: _, h, _ => by cases h
  | .int _ :: t, h, ρ => by rw [List.map_cons, noRef.map t h ρ]; rfl
  | .long _ :: t, h, ρ => by rw [List.map_cons, noRef.map t h ρ]; rfl
  | .float _ :: t, h, ρ => by rw [List.map_cons, noRef.map t h ρ]; rfl
  | .double _ :: t, h, ρ => by rw [List.map_cons, noRef.map t h ρ]; rfl
  | .null :: t, h, ρ => by rw [List.map_cons, noRef.map t h ρ]; rfl
  | .retAddr _ :: t, h, ρ => by rw [List.map_cons, noRef.map t h ρ]; rfl
/-- what the words say of a callee: an instance method -/
def CalV (Z : State) (a0 : Array Value) (md : MD) (n : Nat) : Prop :=
  plainName (nmOf md).cls = true ∧ ((nmOf md).cls ≠ "java/lang/invoke/MethodHandle" ∧ (nmOf md).cls ≠ "java/lang/invoke/VarHandle") ∧ (∀ sig, parseMethodDescriptor (nmOf md).desc = some sig → n = sig.parameters.length) ∧
  (Cond.instanceMethod (nmOf md)).before a0 Z = true ∧ (Cond.code (nmOf md) (byOf md) (mxOf md) (rtOf md)).before a0 Z = true ∧ (Cond.initialized (nmOf md).cls).before a0 Z = true ∧
  (((Cond.declares (nmOf md)).before a0 Z = true ∧ (Cond.selects (nmOf md).cls (nmOf md) (nmOf md)).before a0 Z = true) ∨ ((Cond.privateMethod (nmOf md)).before a0 Z = true ∧ ∃ kk, (Cond.instantiable (nmOf md).cls kk).before a0 Z = true))
/-- a constructor -/
def CalI (Z : State) (a0 : Array Value) (md : MD) (n : Nat) : Prop :=
  plainName (nmOf md).cls = true ∧ ((nmOf md).cls ≠ "java/lang/invoke/MethodHandle" ∧ (nmOf md).cls ≠ "java/lang/invoke/VarHandle") ∧ (∀ sig, parseMethodDescriptor (nmOf md).desc = some sig → n = sig.parameters.length) ∧
  (Cond.instanceMethod (nmOf md)).before a0 Z = true ∧ (Cond.code (nmOf md) (byOf md) (mxOf md) (rtOf md)).before a0 Z = true ∧ (Cond.initialized (nmOf md).cls).before a0 Z = true ∧ (nmOf md).name = "<init>" ∧ rtOf md = none
/-- a static method -/
def CalS (Z : State) (a0 : Array Value) (md : MD) (n : Nat) : Prop :=
  plainName (nmOf md).cls = true ∧ ((nmOf md).cls ≠ "java/lang/invoke/MethodHandle" ∧ (nmOf md).cls ≠ "java/lang/invoke/VarHandle") ∧ (∀ sig, parseMethodDescriptor (nmOf md).desc = some sig → n = sig.parameters.length) ∧
  (Cond.static (nmOf md)).before a0 Z = true ∧ (Cond.code (nmOf md) (byOf md) (mxOf md) (rtOf md)).before a0 Z = true ∧ (Cond.initialized (nmOf md).cls).before a0 Z = true
/-- the figures of a call: the operands under it weigh wt -/
def Fits (md md' : MD) (wt cu su cu' su' : Nat) : Prop :=
  (rmOf md').frames + 1 ≤ (rmOf md).frames ∧ wt + (mxOf md' + 11) + (rmOf md').locals ≤ (rmOf md).locals ∧ cu + (rmOf md').cells = cu' ∧ su + (rmOf md').slots = su' ∧ cu' ≤ (rmOf md).cells ∧ su' ≤ (rmOf md).slots ∧ exOf md' = (rmOf md').cells
instance (md md' : MD) (wt cu su cu' su' : Nat) : Decidable (Fits md md' wt cu su cu' su') := by unfold Fits; infer_instance
section Core
variable {μ E : Type} {l : Launch} {Z : State} {a0 : Array Value} {M' : Mode μ E} {md md' : MD} {own : String} {p : Program} {e : Env} {s : State} {m : MethodId} {args : Array Value} {below : List Frame} {meth : Method} {c : Code} {T : State} {locs : List Loc} {cu su cu' su' wt pc idx : Nat} {as : List Value} {L' : List Slot} {w : μ} {Q' : Option Value → μ → Prop} {en : E} {a : Addr} {r : Array Slot} {rest : List Value}
theorem coreV (X : Stand p l e (rmOf md) s m args below meth c T locs cu su) (K : Kn Z own md p s m meth c) (hd : decode (byOf md) pc = .ok (.invokevirtual idx, 3)) (wl : (Cond.methodLink own idx (nmOf md')).before a0 Z = true) (cv : CalV Z a0 md' as.length) (hcal : Wk l Z M' md' 0 L' [] w 0 0 Q') (ho : M'.own = (nmOf md').cls) (hR : M'.rel en w T.heap) (hE : Exa Z T.heap a (nmOf md').cls) (ha : M'.rho en 0 = a)
    (hL : (argsToLocals (.ref 0 :: as).toArray (mxOf md')).toList = L') (hw : wfL L' = true) (ft : Fits md md' wt cu su cu' su') (hr : r.size = mxOf md) (hrest : (rest.map fun v => v.category).sum ≤ wt) :
    ∃ v T1 Lc w1, Stand p l e (rmOf md) s m args below meth c T1 (locs ++ Lc) cu' su' ∧ Q' v w1 ∧ M'.rel en w1 T1.heap ∧ M'.frm en T.heap T1.heap ∧ Fr (M'.lo en) Lc ∧ T1.heap.size = T.heap.size + exOf md' ∧ (∀ ρ x, v = some x → rv ρ x = x) ∧
      ∀ t, Steps p.tables e below (T1.setTop (mkF m (pc + 3) r (v.toList ++ rest))) t → Steps p.tables e below (T.setTop (mkF m pc r ((as.map (rv (M'.rho en))).reverse ++ .ref a :: rest))) t := by
  obtain ⟨v1, v2, v3, v4, v5, v6, v7⟩ := cv
  obtain ⟨f1, f2, f3, f4, f5, f6, f7⟩ := ft
  subst f3 f4 ha
  obtain ⟨hx, hZ, hown, -, -, -, hby, hml⟩ := K
  have bk := backOf (s := s) (args := args) (p := p) (e := e) (below := below) (len := 3) (W := wt) (R := rmOf md) (Q := fun v hh Lc => ∃ w', Q' v w' ∧ M'.rel en w' hh ∧ M'.frm en T.heap hh ∧ Fr (M'.lo en) Lc ∧ hh.size = T.heap.size + exOf md' ∧ ∀ ρ x, v = some x → rv ρ x = x) (hcal.met v1 ho hR (.ref 0 :: as) hL hw []) hZ v5 v6 f1 f2
  have hlen : ∀ sig, parseMethodDescriptor (nmOf md').desc = some sig → (as.map (rv (M'.rho en))).length = sig.parameters.length := fun sig q => by rw [List.length_map]; exact v3 sig q
  rcases v7 with ⟨d1, d2⟩ | ⟨d1, kk, d2⟩
  · obtain ⟨cq, kq, qa, qb, qc⟩ := isOf (T := T) hZ rfl hE
    obtain ⟨v, _, ⟨T1, L1, k1, n1⟩, -, X1, ⟨Lc, hQ, l1, y1, z1⟩, st⟩ := X.virtualBack hx (y := nmOf md') (z := nmOf md') hown (mvT hZ wl) (mvT hZ d1) (notFace_of_selects (args := #[]) (mvT hZ d2)) (mvT hZ d2) (mvT hZ v4) v2 bk qa qc (g := mkF m pc r ((as.map (rv (M'.rho en))).reverse ++ .ref (M'.rho en 0) :: rest)) rfl (hr.trans hml.symm) (Steps.refl _) (argsL := as.map (rv (M'.rho en))) (rest := rest) hlen rfl (by show 2 * 0 + _ ≤ _; omega) (hb hby hd) (fun _ _ => ⟨rfl, rfl, f5, f6⟩)
    dsimp only [Pt.U, Pt.locs, Pt.cells, Pt.slots] at X1 l1 y1 z1 st hQ
    subst l1 y1 z1
    obtain ⟨w1, q1, q2, q3, q4, q5, q6⟩ := hQ
    exact ⟨v, T1, Lc, w1, X1, q1, q2, q3, q4, q5, q6, fun t q => st.trans q⟩
  · obtain ⟨cc, kc, i1, i2, i3, i4, -⟩ := Cond.instantiable_spec (mvT (s := s) (args := #[]) hZ d2)
    have hni : kc.isInterface = false := by cases hq : kc.isInterface <;> simp [hq] at i4 ⊢
    have pv : s.PrivateAt (nmOf md') := Cond.privateMethod_at (mvP hZ d1 (args := #[]))
    have sel : (Cond.selects (nmOf md').cls (nmOf md') (nmOf md')).before args s = true := selects_self_of_private i1 i2 hni pv (mvT hZ v4) v2
    obtain ⟨cq, q7, q7'⟩ := hE.cell
    obtain ⟨v, _, ⟨T1, L1, k1, n1⟩, -, X1, ⟨Lc, hQ, l1, y1, z1⟩, st⟩ := X.privateBack hx (y := nmOf md') hown (mvT hZ wl) (mvT hZ v4) sel pv (mvT hZ v5) v2 bk (g := mkF m pc r ((as.map (rv (M'.rho en))).reverse ++ .ref (M'.rho en 0) :: rest)) rfl (hr.trans hml.symm) (Steps.refl _) (a := M'.rho en 0) q7 q7' (argsL := as.map (rv (M'.rho en))) (rest := rest) hlen rfl (by show 2 * 0 + _ ≤ _; omega) (hb hby hd) (fun _ _ => ⟨rfl, rfl, f5, f6⟩)
    dsimp only [Pt.U, Pt.locs, Pt.cells, Pt.slots] at X1 l1 y1 z1 st hQ
    subst l1 y1 z1
    obtain ⟨w1, q1, q2, q3, q4, q5, q6⟩ := hQ
    exact ⟨v, T1, Lc, w1, X1, q1, q2, q3, q4, q5, q6, fun t q => st.trans q⟩
theorem coreI (X : Stand p l e (rmOf md) s m args below meth c T locs cu su) (K : Kn Z own md p s m meth c) (hd : decode (byOf md) pc = .ok (.invokespecial idx, 3)) (wl : (Cond.methodLink own idx (nmOf md')).before a0 Z = true) (cv : CalI Z a0 md' as.length) (hcal : Wk l Z M' md' 0 L' [] w 0 0 Q') (ho : M'.own = (nmOf md').cls) (hR : M'.rel en w T.heap) (ha : M'.rho en 0 = a)
    (hL : (argsToLocals (.ref 0 :: as).toArray (mxOf md')).toList = L') (hw : wfL L' = true) (ft : Fits md md' wt cu su cu' su') (hr : r.size = mxOf md) (hrest : (rest.map fun v => v.category).sum ≤ wt) :
    ∃ v T1 Lc w1, Stand p l e (rmOf md) s m args below meth c T1 (locs ++ Lc) cu' su' ∧ Q' v w1 ∧ M'.rel en w1 T1.heap ∧ M'.frm en T.heap T1.heap ∧ Fr (M'.lo en) Lc ∧ T1.heap.size = T.heap.size + exOf md' ∧ (∀ ρ x, v = some x → rv ρ x = x) ∧
      ∀ t, Steps p.tables e below (T1.setTop (mkF m (pc + 3) r (v.toList ++ rest))) t → Steps p.tables e below (T.setTop (mkF m pc r ((as.map (rv (M'.rho en))).reverse ++ .ref a :: rest))) t := by
  obtain ⟨v1, v2, v3, v4, v5, v6, v7, v8⟩ := cv
  obtain ⟨f1, f2, f3, f4, f5, f6, f7⟩ := ft
  subst f3 f4 ha
  obtain ⟨hx, hZ, hown, -, -, -, hby, hml⟩ := K
  have bk := backOf (s := s) (args := args) (p := p) (e := e) (below := below) (len := 3) (W := wt) (R := rmOf md) (Q := fun v hh Lc => ∃ w', Q' v w' ∧ M'.rel en w' hh ∧ M'.frm en T.heap hh ∧ Fr (M'.lo en) Lc ∧ hh.size = T.heap.size + exOf md' ∧ ∀ ρ x, v = some x → rv ρ x = x) (hcal.met v1 ho hR (.ref 0 :: as) hL hw []) hZ v5 v6 f1 f2
  have hlen : ∀ sig, parseMethodDescriptor (nmOf md').desc = some sig → (as.map (rv (M'.rho en))).length = sig.parameters.length := fun sig q => by rw [List.length_map]; exact v3 sig q
  rw [v8] at v5
  obtain ⟨v, _, ⟨T1, L1, k1, n1⟩, -, X1, ⟨Lc, hQ, l1, y1, z1⟩, st⟩ := X.specialBack hx (y := nmOf md') v7 hown (mvT hZ wl) (mvT hZ v4) (mvT hZ v5) v2 bk (g := mkF m pc r ((as.map (rv (M'.rho en))).reverse ++ .ref (M'.rho en 0) :: rest)) rfl (hr.trans hml.symm) (Steps.refl _) (a := M'.rho en 0) (argsL := as.map (rv (M'.rho en))) (rest := rest) hlen rfl (by show 2 * 0 + _ ≤ _; omega) (hb hby hd) (fun _ _ => ⟨rfl, rfl, f5, f6⟩)
  dsimp only [Pt.U, Pt.locs, Pt.cells, Pt.slots] at X1 l1 y1 z1 st hQ
  subst l1 y1 z1
  obtain ⟨w1, q1, q2, q3, q4, q5, q6⟩ := hQ
  exact ⟨v, T1, Lc, w1, X1, q1, q2, q3, q4, q5, q6, fun t q => st.trans q⟩
theorem coreS (X : Stand p l e (rmOf md) s m args below meth c T locs cu su) (K : Kn Z own md p s m meth c) (hd : decode (byOf md) pc = .ok (.invokestatic idx, 3)) (wl : (Cond.methodLink own idx (nmOf md')).before a0 Z = true) (cv : CalS Z a0 md' as.length) (hcal : Wk l Z M' md' 0 L' [] w 0 0 Q') (ho : M'.own = (nmOf md').cls) (hR : M'.rel en w T.heap)
    (hL : (argsToLocals as.toArray (mxOf md')).toList = L') (hw : wfL L' = true) (ft : Fits md md' wt cu su cu' su') (hr : r.size = mxOf md) (hrest : (rest.map fun v => v.category).sum ≤ wt) :
    ∃ v T1 Lc w1, Stand p l e (rmOf md) s m args below meth c T1 (locs ++ Lc) cu' su' ∧ Q' v w1 ∧ M'.rel en w1 T1.heap ∧ M'.frm en T.heap T1.heap ∧ Fr (M'.lo en) Lc ∧ T1.heap.size = T.heap.size + exOf md' ∧ (∀ ρ x, v = some x → rv ρ x = x) ∧
      ∀ t, Steps p.tables e below (T1.setTop (mkF m (pc + 3) r (v.toList ++ rest))) t → Steps p.tables e below (T.setTop (mkF m pc r ((as.map (rv (M'.rho en))).reverse ++ rest))) t := by
  obtain ⟨v1, v2, v3, v4, v5, v6⟩ := cv
  obtain ⟨f1, f2, f3, f4, f5, f6, f7⟩ := ft
  subst f3 f4
  obtain ⟨hx, hZ, hown, -, -, -, hby, hml⟩ := K
  have bk := backOf (s := s) (args := args) (p := p) (e := e) (below := below) (len := 3) (W := wt) (R := rmOf md) (Q := fun v hh Lc => ∃ w', Q' v w' ∧ M'.rel en w' hh ∧ M'.frm en T.heap hh ∧ Fr (M'.lo en) Lc ∧ hh.size = T.heap.size + exOf md' ∧ ∀ ρ x, v = some x → rv ρ x = x) (hcal.met v1 ho hR as hL hw []) hZ v5 v6 f1 f2
  have hlen : ∀ sig, parseMethodDescriptor (nmOf md').desc = some sig → (as.map (rv (M'.rho en))).length = sig.parameters.length := fun sig q => by rw [List.length_map]; exact v3 sig q
  obtain ⟨v, _, ⟨T1, L1, k1, n1⟩, -, X1, ⟨Lc, hQ, l1, y1, z1⟩, st⟩ := Jvm.LawKit.callS X hx (y := nmOf md') hown (mvT hZ wl) (mvT hZ v4) (mvT hZ v6) (mvT hZ v5) v2 bk (g := mkF m pc r ((as.map (rv (M'.rho en))).reverse ++ rest)) rfl (hr.trans hml.symm) (argsL := as.map (rv (M'.rho en))) (rest := rest) hlen rfl (by show 2 * 0 + _ ≤ _; omega) (hb hby hd) (fun _ _ => ⟨rfl, rfl, f5, f6⟩)
  dsimp only [Pt.U, Pt.locs, Pt.cells, Pt.slots] at X1 l1 y1 z1 st hQ
  subst l1 y1 z1
  obtain ⟨w1, q1, q2, q3, q4, q5, q6⟩ := hQ
  exact ⟨v, T1, Lc, w1, X1, q1, q2, q3, q4, q5, q6, fun t q => st t q⟩
end Core
theorem cat_map (ρ : Nat → Addr) (S : List Value) : ((S.map (rv ρ)).map fun v => v.category).sum = (S.map fun v => v.category).sum := by
  rw [List.map_map]; congr 1; exact List.map_congr_left fun v _ => rv_cat _ v
theorem res_map {ρ : Nat → Addr} {v : Option Value} (h : ∀ ρ x, v = some x → rv ρ x = x) (S : List Value) : (v.toList ++ S).map (rv ρ) = v.toList ++ S.map (rv ρ) := by
  cases v with
  | none => rfl
  | some x => simp [h ρ x rfl]
section CallsC
variable {l : Launch} {Z : State} {a0 : Array Value} {cd : CD} {md md' : MD} {pc pc' wt idx : Nat} {L L' : List Slot} {S stk as : List Value} {w : WO} {cu su cu' su' : Nat} {Q Q' : Option Value → WO → Prop}
/-- a method of the same object -/
theorem Wk.callC (as : List Value) (S : List Value) (hs : stk = as.reverse ++ .ref 0 :: S) (wl : (Cond.methodLink cd.1 idx (nmOf md')).before a0 Z = true) (cv : CalV Z a0 md' as.length) (hc : (nmOf md').cls = cd.1) (nr : noRef as = true) (hcal : Wk l Z (MoC Z cd) md' 0 L' [] w 0 0 Q') (hL' : (argsToLocals (.ref 0 :: as).toArray (mxOf md')).toList = L') (hw : wfL L' = true) (hl : L.length = mxOf md)
    (hwt : (S.map fun v => v.category).sum = wt) (ft : Fits md md' wt cu su cu' su') (hd : InsA md pc (.invokevirtual idx) 3 pc') (h : ∀ v w', Q' v w' → Wk l Z (MoC Z cd) md pc' L (v.toList ++ S) w' cu' su' Q) : Wk l Z (MoC Z cd) md pc L stk w cu su Q :=
  fun en p e s m args below meth c T locs r X K hz hF hR hL => by
  obtain ⟨hd, rfl⟩ := hd
  subst hs
  obtain ⟨v, T1, Lc, w1, X1, q1, q2, q3, q4, q5, q6, st⟩ := coreV (M' := MoC Z cd) (en := en) (r := r) (rest := S.map (rv ((MoC Z cd).rho en))) X K hd wl cv hcal hc.symm hR (by rw [hc]; exact hR.2.1) rfl hL' hw ft (hL.1.trans hl) (by rw [cat_map]; omega)
  have f7 := ft.2.2.1
  have f8 := ft.2.2.2.2.2.2
  have em : (as.reverse ++ .ref 0 :: S).map (rv ((MoC Z cd).rho en)) = (as.map (rv ((MoC Z cd).rho en))).reverse ++ .ref ((MoC Z cd).rho en 0) :: S.map (rv ((MoC Z cd).rho en)) := by rw [List.map_append, List.map_reverse]; rfl
  have D := h v w1 q1 en p e s m args below meth c T1 _ r X1 K (by omega) (hF.app q4) q2 hL
  rw [res_map q6] at D
  rw [em]
  exact D.pre (fun _ q => frmC.trans q3 q) st
end CallsC
section CallsS
variable {μ E : Type} {l : Launch} {Z : State} {a0 : Array Value} {M : Mode μ E} {md md' : MD} {pc pc' wt idx : Nat} {L L' : List Slot} {S stk as : List Value} {w : μ} {cu su cu' su' : Nat} {Q Q' : Option Value → μ → Prop}
/-- a static method, in the same mode -/
theorem Wk.callS (hM : ∀ en h1 h2 h3, M.frm en h1 h2 → M.frm en h2 h3 → M.frm en h1 h3) (as : List Value) (S : List Value) (hs : stk = as.reverse ++ S) (wl : (Cond.methodLink M.own idx (nmOf md')).before a0 Z = true) (cv : CalS Z a0 md' as.length) (hc : (nmOf md').cls = M.own) (hcal : Wk l Z M md' 0 L' [] w 0 0 Q') (hL' : (argsToLocals as.toArray (mxOf md')).toList = L') (hw : wfL L' = true) (hl : L.length = mxOf md)
    (hwt : (S.map fun v => v.category).sum = wt) (ft : Fits md md' wt cu su cu' su') (hd : InsA md pc (.invokestatic idx) 3 pc') (h : ∀ v w', Q' v w' → Wk l Z M md pc' L (v.toList ++ S) w' cu' su' Q) : Wk l Z M md pc L stk w cu su Q :=
  fun en p e s m args below meth c T locs r X K hz hF hR hL => by
  obtain ⟨hd, rfl⟩ := hd
  subst hs
  obtain ⟨v, T1, Lc, w1, X1, q1, q2, q3, q4, q5, q6, st⟩ := coreS (M' := M) (en := en) (r := r) (rest := S.map (rv (M.rho en))) X K hd wl cv hcal hc.symm hR hL' hw ft (hL.1.trans hl) (by rw [cat_map]; omega)
  have f7 := ft.2.2.1
  have f8 := ft.2.2.2.2.2.2
  have em : (as.reverse ++ S).map (rv (M.rho en)) = (as.map (rv (M.rho en))).reverse ++ S.map (rv (M.rho en)) := by rw [List.map_append, List.map_reverse]
  have D := h v w1 q1 en p e s m args below meth c T1 _ r X1 K (by omega) (hF.app q4) q2 hL
  rw [res_map q6] at D
  rw [em]
  exact D.pre (fun _ q => hM _ _ _ _ q3 q) st
end CallsS
/-! ## 5. The law's own level: a script of ints (or none) and some objects, made one behind the other -/
abbrev WL : Type := Int32 × (Int32 → Int32) × List WO
def w0 : WO := (0, fun _ => 0, fun _ => 0, fun _ _ => 0, fun _ _ => 0)
def rhoL (cd : CD) (en : Nat × Nat) : Nat → Addr
  | 0 => en.2
  | i + 1 => en.1 + i * (cd.2.2.2.length + 1)
def relL (Z : State) (cd : CD) (sc : Bool) (en : Nat × Nat) (w : WL) (h : Heap) : Prop :=
  (sc = true → en.2 < en.1 ∧ ¬ w.1 < 0 ∧ AtA Z h en.2 .int w.1 w.2.1 (fun _ => 0)) ∧ (∀ i x, w.2.2[i]? = some x → relC Z cd (en.1 + i * (cd.2.2.2.length + 1), en.1) x h) ∧ h.size = en.1 + (w.2.2.map fun x => x.1 + 1).sum
abbrev MoL (Z : State) (cd : CD) (own : String) (sc : Bool) : Mode WL (Nat × Nat) := (own, rhoL cd, fun en => en.1, relL Z cd sc, fun _ _ _ => True)
def allK (n : Nat) : List WO → Prop
  | [] => True
  | x :: t => x.1 = n ∧ allK n t
theorem allK.get {n : Nat} : (ws : List WO) → allK n ws → ∀ (i : Nat) (x : WO), ws[i]? = some x → x.1 = n
  | [], _, i, x, h => by simp at h
  | y :: t, h, i, x, e => by
    cases i with
    | zero => simp at e; rw [← e]; exact h.1
    | succ i => exact allK.get t h.2 i x (by simpa using e)
theorem allK.sum {n : Nat} : {ws : List WO} → allK n ws → (ws.map fun x => x.1 + 1).sum = ws.length * (n + 1)
  | [], _ => by simp
  | y :: t, h => by rw [List.map_cons, List.sum_cons, allK.sum (ws := t) h.2, h.1, List.length_cons, Nat.add_mul]; omega
theorem sum_set : (ws : List WO) → (i : Nat) → (x y : WO) → ws[i]? = some x → ((ws.set i y).map fun x => x.1 + 1).sum + x.1 = (ws.map fun x => x.1 + 1).sum + y.1
  | [], i, x, y, h => by simp at h
  | z :: t, 0, x, y, h => by simp at h; subst h; simp; omega
  | z :: t, i + 1, x, y, h => by have := sum_set t i x y (by simpa using h); simp only [List.set_cons_succ, List.map_cons, List.sum_cons]; omega
section Keep
variable {Z : State} {cd : CD} {en : Nat × Nat} {h h' : Heap} {w : WO}
theorem Fld.cells {a : Addr} {C n d : String} {v : Value} (H : Fld Z h a C n d v) (q : ∀ c, h[a]? = some c → h'[a]? = some c) : Fld Z h' a C n d v := by
  obtain ⟨cell, cf, k, i, f, h1, r⟩ := H; exact ⟨cell, cf, k, i, f, q _ h1, r⟩
theorem Exa.cells {a : Addr} {C : String} (H : Exa Z h a C) (q : ∀ c, h[a]? = some c → h'[a]? = some c) : Exa Z h' a C := by
  obtain ⟨cell, k, h1, r⟩ := H; exact ⟨cell, k, q _ h1, r⟩
theorem AtA.cells {b : Addr} {ty : FieldType} {n : Int32} {f : Int32 → Int32} {g : Int32 → Int64} (H : AtA Z h b ty n f g) (q : ∀ c, h[b]? = some c → h'[b]? = some c) : AtA Z h' b ty n f g := by
  obtain ⟨cl, h1, r⟩ := H; exact ⟨cl, ⟨q _ h1.1, h1.2⟩, r⟩
theorem relC.cells (okA : ∀ t ∈ cd.2.2.2, t.1 < cd.2.2.2.length) (hR : relC Z cd en w h) (hk : w.1 = cd.2.2.2.length) (q : ∀ x c, en.1 ≤ x → x ≤ en.1 + cd.2.2.2.length → h[x]? = some c → h'[x]? = some c) : relC Z cd en w h' := by
  obtain ⟨r1, r2, r3, r4, r5, r6⟩ := hR
  have q0 := fun c => q en.1 c (Nat.le_refl _) (Nat.le_add_right _ _)
  refine ⟨r1, Exa.cells r2 q0, fun t m => Fld.cells (r3 t m) q0, fun t m => Fld.cells (r4 t m) q0, fun t m => ⟨fun k => ⟨Fld.cells ((r5 t m).1 k).1 q0, AtA.cells ((r5 t m).1 k).2 fun c => q _ c (Nat.le_add_right _ _) (by have := okA t m; omega)⟩, fun k => Fld.cells ((r5 t m).2 k) q0⟩, fun k => absurd k (by omega)⟩
end Keep
theorem apart {N i j n x : Nat} (hne : j ≠ i) (h1 : n + j * (N + 1) ≤ x) (h2 : x ≤ n + j * (N + 1) + N) : x < n + i * (N + 1) ∨ n + i * (N + 1) + N < x := by
  rcases Nat.lt_or_gt_of_ne hne with q | q
  · left
    have := Nat.mul_le_mul_right (N + 1) (show j + 1 ≤ i from q)
    rw [Nat.add_mul] at this
    omega
  · right
    have := Nat.mul_le_mul_right (N + 1) (show i + 1 ≤ j from q)
    rw [Nat.add_mul] at this
    omega
/-- one object's walk, seen from the law's level -/
theorem relL.step {Z : State} {cd : CD} {sc : Bool} {en : Nat × Nat} {sl : Int32} {sv : Int32 → Int32} {ws : List WO} {h h' : Heap} {i : Nat} {x y : WO} (okA : ∀ t ∈ cd.2.2.2, t.1 < cd.2.2.2.length) (hR : relL Z cd sc en (sl, sv, ws) h) (hi : ws[i]? = some x) (hoth : ∀ j z, ws[j]? = some z → j ≠ i → z.1 = cd.2.2.2.length)
    (hy : relC Z cd (en.1 + i * (cd.2.2.2.length + 1), en.1) y h') (hf : frmC cd (en.1 + i * (cd.2.2.2.length + 1), en.1) h h') (hz : h'.size + x.1 = h.size + y.1) : relL Z cd sc en (sl, sv, ws.set i y) h' := by
  obtain ⟨r1, r2, r3⟩ := hR
  refine ⟨fun q => ?_, fun j z hj => ?_, ?_⟩
  · obtain ⟨a1, a2, a3⟩ := r1 q
    refine ⟨a1, a2, AtA.cells a3 fun c hc => hf.2 _ c hc (Or.inl ?_)⟩
    show en.2 < en.1 + i * (cd.2.2.2.length + 1)
    omega
  · have hj' : (ws.set i y)[j]? = some z := hj
    rw [List.getElem?_set] at hj'
    by_cases e : i = j
    · subst e
      have : i < ws.length := (List.getElem?_eq_some_iff.mp hi).1
      simp [this] at hj'
      subst hj'
      exact hy
    · rw [if_neg e] at hj'
      exact relC.cells okA (r2 j z hj') (hoth j z hj' (Ne.symm e)) fun a c h1 h2 hc => hf.2 a c hc (apart (Ne.symm e) h1 h2)
  · have s1 := sum_set ws i x y hi
    have s2 : h.size = en.1 + (ws.map fun x => x.1 + 1).sum := r3
    show h'.size = en.1 + ((ws.set i y).map fun x => x.1 + 1).sum
    omega
section StepsL
variable {l : Launch} {Z : State} {a0 : Array Value} {cd : CD} {own : String} {sc : Bool} {md md' : MD} {pc pc' wt idx : Nat} {L L' : List Slot} {S stk as : List Value} {sl : Int32} {sv : Int32 → Int32} {ws ws' : List WO} {cu su cu' su' : Nat} {Q : Option Value → WL → Prop} {Q' : Option Value → WO → Prop}
theorem Wk.lenL (hd : InsA md pc .arraylength 1 pc') (h : Wk l Z (MoL Z cd own true) md pc' L (.int sl :: S) (sl, sv, ws) cu su Q) : Wk l Z (MoL Z cd own true) md pc L (.ref 0 :: S) (sl, sv, ws) cu su Q :=
  fun en p e s m args below meth c T locs r X K hz hF hR hL => by
  obtain ⟨hd, rfl⟩ := hd
  obtain ⟨a1, a2, cl, g1, g2, g3⟩ := hR.1 rfl
  have e1 : cl.slots.size.toInt32 = sl := by rw [g2]; exact (back32 a2).1
  refine (h en p e s m args below meth c T locs r X K hz hF hR hL).pre (fun _ q => q) fun t q => X.arraylength K.1 g1.1 (State.isArrayOf_alike K.2.1.alike g1.2.1) (g := mkF m pc r (.ref en.2 :: S.map (rv (rhoL cd en)))) rfl rfl (hb K.by hd) _ (by rw [e1]; exact q)
theorem Wk.ialoadL {x : Int32} (h0 : ¬ x < 0) (h1 : x < sl) (hd : InsA md pc .iaload 1 pc') (h : Wk l Z (MoL Z cd own true) md pc' L (.int (sv x) :: S) (sl, sv, ws) cu su Q) : Wk l Z (MoL Z cd own true) md pc L (.int x :: .ref 0 :: S) (sl, sv, ws) cu su Q :=
  fun en p e s m args below meth c T locs r X K hz hF hR hL => by
  obtain ⟨hd, rfl⟩ := hd
  obtain ⟨a1, a2, cl, g1, g2, g3⟩ := hR.1 rfl
  exact (h en p e s m args below meth c T locs r X K hz hF hR hL).pre (fun _ q => q) fun t q => X.iaload K.1 (j := x) (v := .int (sv x)) g1.1 (State.isArrayOf_alike K.2.1.alike g1.2.1) g1.2.2 (in_of g2 h0 h1) (g3 x h0 h1) (g := mkF m pc r (.int x :: .ref en.2 :: S.map (rv (rhoL cd en)))) rfl rfl (hb K.by hd) _ q
theorem Wk.newL (ok : CO Z a0 cd) {kk i' : Nat} (wc : (Cond.classLink own idx cd.1).before a0 Z = true) (wi : (Cond.instantiable cd.1 kk).before a0 Z = true) (wz : (Cond.initialized cd.1).before a0 Z = true) (hd : InsA md pc (.new idx) 3 pc') (hall : allK cd.2.2.2.length ws) (hi : ws.length + 1 = i') (hws : ws ++ [w0] = ws') (hcu : cu + 1 = cu') (hsu : su + kk = su') (hc : cu' ≤ (rmOf md).cells) (hs : su' ≤ (rmOf md).slots)
    (h : Wk l Z (MoL Z cd own sc) md pc' L (.ref i' :: S) (sl, sv, ws') cu' su' Q) : Wk l Z (MoL Z cd own sc) md pc L S (sl, sv, ws) cu su Q :=
  fun en p e s m args below meth c T locs r X K hz hF hR hL => by
  obtain ⟨hd, rfl⟩ := hd
  subst hi hws hcu hsu
  obtain ⟨T1, h1, X1, e1, E1, A1, D1, -, st⟩ := newO X K.1 K.2.1 K.2.2.1 wc wi wz rfl (g := mkF m pc r (S.map (rv (rhoL cd en)))) rfl (hb K.by hd) hc hs
  subst e1
  obtain ⟨r1, r2, r3⟩ := hR
  have r3' : T.heap.size = en.1 + (ws.map fun x => x.1 + 1).sum := r3
  have sm := hall.sum
  have z1 := X1.heapSize
  have z2 : (T.heap.size : Nat) < T1.heap.size := A1.lt
  have ea : T.heap.size = en.1 + ws.length * (cd.2.2.2.length + 1) := by rw [r3', sm]
  have okp := ok.2.2.2.2
  obtain ⟨q1, q2, q3, q4, q5, q6, q7, q8⟩ := okp
  have rel1 : relL Z cd sc en (sl, sv, ws ++ [w0]) T1.heap := by
    refine ⟨fun q => ⟨(r1 q).1, (r1 q).2.1, (r1 q).2.2.ext E1⟩, fun j z hj => ?_, ?_⟩
    · have hj' : (ws ++ [w0])[j]? = some z := hj
      by_cases e : j < ws.length
      · rw [List.getElem?_append_left e] at hj'
        exact relC.cells (fun t m => (q8 t m).2.1) (r2 j z hj') (allK.get _ hall _ _ hj') fun a c _ _ hc => E1.2 a c hc
      · have e2 : j = ws.length := by
          have := (List.getElem?_eq_some_iff.mp hj').1
          simp at this; omega
        subst e2
        simp at hj'
        subst hj'
        rw [← ea]
        refine ⟨by show en.1 ≤ T.heap.size; omega, A1, fun t m => ?_, fun t m => ?_, fun t m => ⟨fun k => absurd k (Nat.not_lt_zero _), fun _ => ?_⟩, fun _ => by show T1.heap.size = T.heap.size + 1 + 0; omega⟩
        · rcases q7 t m with q | q
          · exact D1 (ok.2.1 t m) q
          · exact D1 (ok.2.1 t m) q
        · exact D1 (ok.2.2.1 t m) pJ
        · exact D1 (ok.2.2.2.1 t m) (q8 t m).1
    · show T1.heap.size = en.1 + ((ws ++ [w0]).map fun x => x.1 + 1).sum
      rw [List.map_append, List.sum_append]
      show T1.heap.size = en.1 + ((ws.map fun x => x.1 + 1).sum + 1)
      omega
  refine (h en p e s m args below meth c T1 locs r X1 K (by omega) hF rel1 hL).pre (fun _ _ => trivial) fun t q => st t ?_
  rw [ea]
  exact q
theorem Wk.callLC (ok : CO Z a0 cd) (as : List Value) (i : Nat) (S : List Value) {i' : Nat} {x : WO} (hi' : i + 1 = i') (hs : stk = as.reverse ++ .ref i' :: S) (hx : ws[i]? = some x) (hoth : allK cd.2.2.2.length (ws.eraseIdx i)) (wl : (Cond.methodLink own idx (nmOf md')).before a0 Z = true) (cv : CalV Z a0 md' as.length) (hc : (nmOf md').cls = cd.1) (nr : noRef as = true) (hcal : Wk l Z (MoC Z cd) md' 0 L' [] x 0 0 Q') (hL' : (argsToLocals (.ref 0 :: as).toArray (mxOf md')).toList = L') (hw : wfL L' = true) (hl : L.length = mxOf md)
    (hwt : (S.map fun v => v.category).sum = wt) (ft : Fits md md' wt cu su cu' su') (hd : InsA md pc (.invokevirtual idx) 3 pc') (hk : ∀ v y, Q' v y → y.1 = x.1 + exOf md') (h : ∀ v y, Q' v y → Wk l Z (MoL Z cd own sc) md pc' L (v.toList ++ S) (sl, sv, ws.set i y) cu' su' Q) : Wk l Z (MoL Z cd own sc) md pc L stk (sl, sv, ws) cu su Q :=
  fun en p e s m args below meth c T locs r X K hz hF hR hL => by
  obtain ⟨hd, rfl⟩ := hd
  subst hs hi'
  have rx := hR.2.1 i x hx
  obtain ⟨v, T1, Lc, w1, X1, p1, p2, p3, p4, p5, p6, st⟩ := coreV (M' := MoC Z cd) (en := (en.1 + i * (cd.2.2.2.length + 1), en.1)) (r := r) (rest := S.map (rv (rhoL cd en))) X K hd wl cv hcal hc.symm rx (by rw [hc]; exact rx.2.1) rfl hL' hw ft (hL.1.trans hl) (by rw [cat_map]; omega)
  have f7 := ft.2.2.1
  have f8 := ft.2.2.2.2.2.2
  have em : (as.reverse ++ .ref (i + 1) :: S).map (rv (rhoL cd en)) = (as.map (rv ((MoC Z cd).rho (en.1 + i * (cd.2.2.2.length + 1), en.1)))).reverse ++ .ref ((MoC Z cd).rho (en.1 + i * (cd.2.2.2.length + 1), en.1) 0) :: S.map (rv (rhoL cd en)) := by
    rw [List.map_append, List.map_reverse, noRef.map as nr, noRef.map as nr]; rfl
  have oth : ∀ j z, ws[j]? = some z → j ≠ i → z.1 = cd.2.2.2.length := by
    intro j z hj hne
    by_cases e : j < i
    · exact allK.get _ hoth j z (by rw [List.getElem?_eraseIdx]; simp [e, hj])
    · refine allK.get _ hoth (j - 1) z ?_
      rw [List.getElem?_eraseIdx, if_neg (by omega), show j - 1 + 1 = j by omega]; exact hj
  have hkk := hk v w1 p1
  have okA : ∀ t ∈ cd.2.2.2, t.1 < cd.2.2.2.length := fun t m => (ok.2.2.2.2.2.2.2.2.2.2.2 t m).2.1
  have D := h v w1 p1 en p e s m args below meth c T1 _ r X1 K (by omega) (hF.app p4) (relL.step okA hR hx oth p2 p3 (by omega)) hL
  rw [res_map p6] at D
  show Done _ _ _ _ _ _ _ _ _ _ _ _ _ _ (mkF m pc r ((as.reverse ++ .ref (i + 1) :: S).map (rv (rhoL cd en))))
  rw [em]
  exact D.pre (fun _ _ => trivial) st
theorem Wk.ctorL (ok : CO Z a0 cd) (as : List Value) (i : Nat) (S : List Value) {i' : Nat} {x : WO} (hi' : i + 1 = i') (hs : stk = as.reverse ++ .ref i' :: S) (hx : ws[i]? = some x) (hoth : allK cd.2.2.2.length (ws.eraseIdx i)) (wl : (Cond.methodLink own idx (nmOf md')).before a0 Z = true) (cv : CalI Z a0 md' as.length) (hc : (nmOf md').cls = cd.1) (nr : noRef as = true) (hcal : Wk l Z (MoC Z cd) md' 0 L' [] x 0 0 Q') (hL' : (argsToLocals (.ref 0 :: as).toArray (mxOf md')).toList = L') (hw : wfL L' = true) (hl : L.length = mxOf md)
    (hwt : (S.map fun v => v.category).sum = wt) (ft : Fits md md' wt cu su cu' su') (hd : InsA md pc (.invokespecial idx) 3 pc') (hk : ∀ v y, Q' v y → y.1 = x.1 + exOf md') (h : ∀ v y, Q' v y → Wk l Z (MoL Z cd own sc) md pc' L (v.toList ++ S) (sl, sv, ws.set i y) cu' su' Q) : Wk l Z (MoL Z cd own sc) md pc L stk (sl, sv, ws) cu su Q :=
  fun en p e s m args below meth c T locs r X K hz hF hR hL => by
  obtain ⟨hd, rfl⟩ := hd
  subst hs hi'
  have rx := hR.2.1 i x hx
  obtain ⟨v, T1, Lc, w1, X1, p1, p2, p3, p4, p5, p6, st⟩ := coreI (M' := MoC Z cd) (en := (en.1 + i * (cd.2.2.2.length + 1), en.1)) (r := r) (rest := S.map (rv (rhoL cd en))) X K hd wl cv hcal hc.symm rx rfl hL' hw ft (hL.1.trans hl) (by rw [cat_map]; omega)
  have f7 := ft.2.2.1
  have f8 := ft.2.2.2.2.2.2
  have em : (as.reverse ++ .ref (i + 1) :: S).map (rv (rhoL cd en)) = (as.map (rv ((MoC Z cd).rho (en.1 + i * (cd.2.2.2.length + 1), en.1)))).reverse ++ .ref ((MoC Z cd).rho (en.1 + i * (cd.2.2.2.length + 1), en.1) 0) :: S.map (rv (rhoL cd en)) := by
    rw [List.map_append, List.map_reverse, noRef.map as nr, noRef.map as nr]; rfl
  have oth : ∀ j z, ws[j]? = some z → j ≠ i → z.1 = cd.2.2.2.length := by
    intro j z hj hne
    by_cases e : j < i
    · exact allK.get _ hoth j z (by rw [List.getElem?_eraseIdx]; simp [e, hj])
    · refine allK.get _ hoth (j - 1) z ?_
      rw [List.getElem?_eraseIdx, if_neg (by omega), show j - 1 + 1 = j by omega]; exact hj
  have hkk := hk v w1 p1
  have okA : ∀ t ∈ cd.2.2.2, t.1 < cd.2.2.2.length := fun t m => (ok.2.2.2.2.2.2.2.2.2.2.2 t m).2.1
  have D := h v w1 p1 en p e s m args below meth c T1 _ r X1 K (by omega) (hF.app p4) (relL.step okA hR hx oth p2 p3 (by omega)) hL
  rw [res_map p6] at D
  show Done _ _ _ _ _ _ _ _ _ _ _ _ _ _ (mkF m pc r ((as.reverse ++ .ref (i + 1) :: S).map (rv (rhoL cd en))))
  rw [em]
  exact D.pre (fun _ _ => trivial) st
end StepsL
end Jvm.Own

namespace Jvm.Own
open Jvm Jvm.ClassFile Sem Op Lib Jvm.Free Jvm.Stand Jvm.LawKit Jvm.RoadKit
/-- the class's list of fields, looked at -/
def okB (cd : CD) : Bool :=
  cd.2.1.all (fun (t : Nat × String × String) => cd.2.1.all fun t' => if t.1 = t'.1 then decide (t = t') else t.2.1 != t'.2.1) && cd.2.2.1.all (fun (t : Nat × String) => cd.2.2.1.all fun t' => if t.1 = t'.1 then decide (t = t') else t.2 != t'.2) && cd.2.2.2.all (fun (t : Nat × String × String × FieldType × Int32) => cd.2.2.2.all fun t' => if t.1 = t'.1 then decide (t = t') else t.2.1 != t'.2.1) &&
  cd.2.1.all (fun (t : Nat × String × String) => cd.2.2.1.all fun (t' : Nat × String) => t.2.1 != t'.2) && cd.2.1.all (fun (t : Nat × String × String) => cd.2.2.2.all fun (t' : Nat × String × String × FieldType × Int32) => t.2.1 != t'.2.1) && cd.2.2.1.all (fun (t : Nat × String) => cd.2.2.2.all fun (t' : Nat × String × String × FieldType × Int32) => t.2 != t'.2.1) &&
  cd.2.1.all (fun (t : Nat × String × String) => decide (parseFieldDescriptor t.2.2 = some .int) || decide (parseFieldDescriptor t.2.2 = some .boolean)) &&
  cd.2.2.2.all (fun (t : Nat × String × String × FieldType × Int32) => decide (parseFieldDescriptor t.2.2.1 = some (.array t.2.2.2.1)) && decide (t.1 < cd.2.2.2.length) && (decide (t.2.2.2.1 = .int) || decide (t.2.2.2.1 = .boolean) || decide (t.2.2.2.1 = .long)) && !decide (t.2.2.2.2 < 0))
theorem pair_of {α : Type} {L : List α} {f : α → Nat} {g : α → String} [DecidableEq α] (h : L.all (fun t => L.all fun t' => if f t = f t' then decide (t = t') else g t != g t') = true) : ∀ t ∈ L, ∀ t' ∈ L, (f t = f t' → t = t') ∧ (f t ≠ f t' → g t ≠ g t') := by
  intro t m t' m'
  have q := List.all_eq_true.mp (List.all_eq_true.mp h t m) t' m'
  constructor
  · intro e; rw [if_pos e] at q; exact of_decide_eq_true q
  · intro e; rw [if_neg e] at q; simpa using q
theorem apart_of {α β : Type} {L : List α} {L' : List β} {g : α → String} {g' : β → String} (h : L.all (fun t => L'.all fun t' => g t != g' t') = true) : ∀ t ∈ L, ∀ t' ∈ L', g t ≠ g' t' := by
  intro t m t' m'
  have q := List.all_eq_true.mp (List.all_eq_true.mp h t m) t' m'
  simpa using q
theorem okC.of {cd : CD} (h : okB cd = true) : okC cd := by
  unfold okB at h
  simp only [Bool.and_eq_true] at h
  obtain ⟨⟨⟨⟨⟨⟨⟨h1, h2⟩, h3⟩, h4⟩, h5⟩, h6⟩, h7⟩, h8⟩ := h
  refine ⟨pair_of (L := cd.2.1) (f := fun (t : Nat × String × String) => t.1) (g := fun (t : Nat × String × String) => t.2.1) h1, pair_of (L := cd.2.2.1) (f := fun (t : Nat × String) => t.1) (g := fun (t : Nat × String) => t.2) h2, pair_of (L := cd.2.2.2) (f := fun (t : Nat × String × String × FieldType × Int32) => t.1) (g := fun (t : Nat × String × String × FieldType × Int32) => t.2.1) h3, apart_of (L := cd.2.1) (L' := cd.2.2.1) (g := fun (t : Nat × String × String) => t.2.1) (g' := fun (t : Nat × String) => t.2) h4, apart_of (L := cd.2.1) (L' := cd.2.2.2) (g := fun (t : Nat × String × String) => t.2.1) (g' := fun (t : Nat × String × String × FieldType × Int32) => t.2.1) h5, apart_of (L := cd.2.2.1) (L' := cd.2.2.2) (g := fun (t : Nat × String) => t.2) (g' := fun (t : Nat × String × String × FieldType × Int32) => t.2.1) h6, fun t m => ?_, fun t m => ?_⟩
  · have q := List.all_eq_true.mp h7 t m
    simpa using q
  · have q := List.all_eq_true.mp h8 t m
    simp only [Bool.and_eq_true, Bool.or_eq_true, decide_eq_true_eq, Bool.not_eq_true', decide_eq_false_iff_not] at q
    exact ⟨q.1.1.1, q.1.1.2, by rcases q.1.2 with (a | a) | a <;> simp [a], q.2⟩
theorem nar1 : nar .boolean 1 = 1 := by decide
theorem nar0 : nar .boolean 0 = 0 := by decide
theorem nar_nar (x : Int32) : nar .boolean (nar .boolean x) = nar .boolean x := by
  show (x &&& 1) &&& 1 = x &&& 1
  rw [Int32.and_assoc]; rfl
theorem ne_toInt {x n : Int32} (q : ¬ x = n) : x.toInt ≠ n.toInt := fun h => q (Int32.toInt_inj.mp h)
/-! ## 6. The same calls where the callee's answer is known as a term -/
section FunC
variable {l : Launch} {Z : State} {a0 : Array Value} {cd : CD} {md md' : MD} {pc pc' wt idx : Nat} {L L' : List Slot} {S stk as : List Value} {w w1 : WO} {cu su cu' su' : Nat} {Q : Option Value → WO → Prop} {x : Value}
theorem Wk.callF (as : List Value) (S : List Value) (wl : (Cond.methodLink cd.1 idx (nmOf md')).before a0 Z = true) (cv : CalV Z a0 md' as.length) (hd : InsA md pc (.invokevirtual idx) 3 pc') (hcal : Wk l Z (MoC Z cd) md' 0 L' [] w 0 0 (fun v w' => v = some x ∧ w' = w1)) (ft : Fits md md' wt cu su cu' su') (hs : stk = as.reverse ++ .ref 0 :: S) (hc : (nmOf md').cls = cd.1) (nr : noRef as = true) (hL' : (argsToLocals (.ref 0 :: as).toArray (mxOf md')).toList = L') (hw : wfL L' = true) (hl : L.length = mxOf md)
    (hwt : (S.map fun v => v.category).sum = wt) (h : Wk l Z (MoC Z cd) md pc' L (x :: S) w1 cu' su' Q) : Wk l Z (MoC Z cd) md pc L stk w cu su Q :=
  Wk.callC as S hs wl cv hc nr hcal hL' hw hl hwt ft hd fun v w' q => by obtain ⟨rfl, rfl⟩ := q; exact h
theorem Wk.callU (as : List Value) (S : List Value) (wl : (Cond.methodLink cd.1 idx (nmOf md')).before a0 Z = true) (cv : CalV Z a0 md' as.length) (hd : InsA md pc (.invokevirtual idx) 3 pc') (hcal : Wk l Z (MoC Z cd) md' 0 L' [] w 0 0 (fun v w' => v = none ∧ w' = w1)) (ft : Fits md md' wt cu su cu' su') (hs : stk = as.reverse ++ .ref 0 :: S) (hc : (nmOf md').cls = cd.1) (nr : noRef as = true) (hL' : (argsToLocals (.ref 0 :: as).toArray (mxOf md')).toList = L') (hw : wfL L' = true) (hl : L.length = mxOf md)
    (hwt : (S.map fun v => v.category).sum = wt) (h : Wk l Z (MoC Z cd) md pc' L S w1 cu' su' Q) : Wk l Z (MoC Z cd) md pc L stk w cu su Q :=
  Wk.callC as S hs wl cv hc nr hcal hL' hw hl hwt ft hd fun v w' q => by obtain ⟨rfl, rfl⟩ := q; exact h
end FunC
section FunS
variable {μ E : Type} {l : Launch} {Z : State} {a0 : Array Value} {M : Mode μ E} {md md' : MD} {pc pc' wt idx : Nat} {L L' : List Slot} {S stk as : List Value} {w w1 : μ} {cu su cu' su' : Nat} {Q : Option Value → μ → Prop} {x : Value}
theorem Wk.callSF (hM : ∀ en h1 h2 h3, M.frm en h1 h2 → M.frm en h2 h3 → M.frm en h1 h3) (as : List Value) (S : List Value) (wl : (Cond.methodLink M.own idx (nmOf md')).before a0 Z = true) (cv : CalS Z a0 md' as.length) (hd : InsA md pc (.invokestatic idx) 3 pc') (hcal : Wk l Z M md' 0 L' [] w 0 0 (fun v w' => v = some x ∧ w' = w1)) (ft : Fits md md' wt cu su cu' su') (hs : stk = as.reverse ++ S) (hc : (nmOf md').cls = M.own) (hL' : (argsToLocals as.toArray (mxOf md')).toList = L') (hw : wfL L' = true) (hl : L.length = mxOf md)
    (hwt : (S.map fun v => v.category).sum = wt) (h : Wk l Z M md pc' L (x :: S) w1 cu' su' Q) : Wk l Z M md pc L stk w cu su Q :=
  Wk.callS hM as S hs wl cv hc hcal hL' hw hl hwt ft hd fun v w' q => by obtain ⟨rfl, rfl⟩ := q; exact h
theorem Wk.callSU (hM : ∀ en h1 h2 h3, M.frm en h1 h2 → M.frm en h2 h3 → M.frm en h1 h3) (as : List Value) (S : List Value) (wl : (Cond.methodLink M.own idx (nmOf md')).before a0 Z = true) (cv : CalS Z a0 md' as.length) (hd : InsA md pc (.invokestatic idx) 3 pc') (hcal : Wk l Z M md' 0 L' [] w 0 0 (fun v w' => v = none ∧ w' = w1)) (ft : Fits md md' wt cu su cu' su') (hs : stk = as.reverse ++ S) (hc : (nmOf md').cls = M.own) (hL' : (argsToLocals as.toArray (mxOf md')).toList = L') (hw : wfL L' = true) (hl : L.length = mxOf md)
    (hwt : (S.map fun v => v.category).sum = wt) (h : Wk l Z M md pc' L S w1 cu' su' Q) : Wk l Z M md pc L stk w cu su Q :=
  Wk.callS hM as S hs wl cv hc hcal hL' hw hl hwt ft hd fun v w' q => by obtain ⟨rfl, rfl⟩ := q; exact h
end FunS
section FunL
variable {l : Launch} {Z : State} {a0 : Array Value} {cd : CD} {own : String} {sc : Bool} {md md' : MD} {pc pc' wt idx : Nat} {L L' : List Slot} {S stk as : List Value} {sl : Int32} {sv : Int32 → Int32} {ws ws' : List WO} {cu su cu' su' : Nat} {Q : Option Value → WL → Prop} {v : Value} {y : WO}
theorem Wk.callLF (ok : CO Z a0 cd) (as : List Value) (i : Nat) (S : List Value) {i' : Nat} {x : WO} (wl : (Cond.methodLink own idx (nmOf md')).before a0 Z = true) (cv : CalV Z a0 md' as.length) (hd : InsA md pc (.invokevirtual idx) 3 pc') (hcal : Wk l Z (MoC Z cd) md' 0 L' [] x 0 0 (fun v' w' => v' = some v ∧ w' = y)) (ft : Fits md md' wt cu su cu' su') (hoth : allK cd.2.2.2.length (ws.eraseIdx i)) (hi' : i + 1 = i') (hs : stk = as.reverse ++ .ref i' :: S) (hx : ws[i]? = some x) (hc : (nmOf md').cls = cd.1) (nr : noRef as = true) (hL' : (argsToLocals (.ref 0 :: as).toArray (mxOf md')).toList = L') (hw : wfL L' = true) (hl : L.length = mxOf md)
    (hwt : (S.map fun v => v.category).sum = wt) (hk : y.1 = x.1 + exOf md') (hws : ws.set i y = ws') (h : Wk l Z (MoL Z cd own sc) md pc' L (v :: S) (sl, sv, ws') cu' su' Q) : Wk l Z (MoL Z cd own sc) md pc L stk (sl, sv, ws) cu su Q :=
  Wk.callLC ok as i S hi' hs hx hoth wl cv hc nr hcal hL' hw hl hwt ft hd (fun v' y' q => by obtain ⟨rfl, rfl⟩ := q; exact hk) fun v' y' q => by obtain ⟨rfl, rfl⟩ := q; subst hws; exact h
theorem Wk.callLU (ok : CO Z a0 cd) (as : List Value) (i : Nat) (S : List Value) {i' : Nat} {x : WO} (wl : (Cond.methodLink own idx (nmOf md')).before a0 Z = true) (cv : CalV Z a0 md' as.length) (hd : InsA md pc (.invokevirtual idx) 3 pc') (hcal : Wk l Z (MoC Z cd) md' 0 L' [] x 0 0 (fun v' w' => v' = none ∧ w' = y)) (ft : Fits md md' wt cu su cu' su') (hoth : allK cd.2.2.2.length (ws.eraseIdx i)) (hi' : i + 1 = i') (hs : stk = as.reverse ++ .ref i' :: S) (hx : ws[i]? = some x) (hc : (nmOf md').cls = cd.1) (nr : noRef as = true) (hL' : (argsToLocals (.ref 0 :: as).toArray (mxOf md')).toList = L') (hw : wfL L' = true) (hl : L.length = mxOf md)
    (hwt : (S.map fun v => v.category).sum = wt) (hk : y.1 = x.1 + exOf md') (hws : ws.set i y = ws') (h : Wk l Z (MoL Z cd own sc) md pc' L S (sl, sv, ws') cu' su' Q) : Wk l Z (MoL Z cd own sc) md pc L stk (sl, sv, ws) cu su Q :=
  Wk.callLC ok as i S hi' hs hx hoth wl cv hc nr hcal hL' hw hl hwt ft hd (fun v' y' q => by obtain ⟨rfl, rfl⟩ := q; exact hk) fun v' y' q => by obtain ⟨rfl, rfl⟩ := q; subst hws; exact h
theorem Wk.ctorLU (ok : CO Z a0 cd) (as : List Value) (i : Nat) (S : List Value) {i' : Nat} {x : WO} (wl : (Cond.methodLink own idx (nmOf md')).before a0 Z = true) (cv : CalI Z a0 md' as.length) (hd : InsA md pc (.invokespecial idx) 3 pc') (hcal : Wk l Z (MoC Z cd) md' 0 L' [] x 0 0 (fun v' w' => v' = none ∧ w' = y)) (ft : Fits md md' wt cu su cu' su') (hoth : allK cd.2.2.2.length (ws.eraseIdx i)) (hi' : i + 1 = i') (hs : stk = as.reverse ++ .ref i' :: S) (hx : ws[i]? = some x) (hc : (nmOf md').cls = cd.1) (nr : noRef as = true) (hL' : (argsToLocals (.ref 0 :: as).toArray (mxOf md')).toList = L') (hw : wfL L' = true) (hl : L.length = mxOf md)
    (hwt : (S.map fun v => v.category).sum = wt) (hk : y.1 = x.1 + exOf md') (hws : ws.set i y = ws') (h : Wk l Z (MoL Z cd own sc) md pc' L S (sl, sv, ws') cu' su' Q) : Wk l Z (MoL Z cd own sc) md pc L stk (sl, sv, ws) cu su Q :=
  Wk.ctorL ok as i S hi' hs hx hoth wl cv hc nr hcal hL' hw hl hwt ft hd (fun v' y' q => by obtain ⟨rfl, rfl⟩ := q; exact hk) fun v' y' q => by obtain ⟨rfl, rfl⟩ := q; subst hws; exact h
end FunL
end Jvm.Own

namespace Jvm.Own
open Jvm
/-! ## 7. Plain helpers -/
theorem lt_i {x y : Int32} : x < y ↔ x.toInt < y.toInt := Int32.lt_iff_toInt_lt
theorem add_toInt {x y : Int32} (h1 : -2147483648 ≤ x.toInt + y.toInt) (h2 : x.toInt + y.toInt < 2147483648) : (x + y).toInt = x.toInt + y.toInt := by
  rw [Int32.toInt_add]
  exact Int.bmod_eq_of_le (by omega) (by omega)
theorem sub_toInt {x y : Int32} (h1 : -2147483648 ≤ x.toInt - y.toInt) (h2 : x.toInt - y.toInt < 2147483648) : (x - y).toInt = x.toInt - y.toInt := by
  rw [Int32.toInt_sub]
  exact Int.bmod_eq_of_le (by omega) (by omega)
theorem succ_toInt {i n : Int32} (h : i < n) : (i + 1).toInt = i.toInt + 1 := by
  have h1 := lt_i.mp h
  have h2 := Int32.toInt_lt n
  have h3 := Int32.le_toInt i
  exact add_toInt (x := i) (y := 1) (by show -2147483648 ≤ i.toInt + 1; omega) (by show i.toInt + 1 < 2147483648; omega)
/-- a loop that counts up to n: backwards from its end -/
theorem loopUp {n : Int32} {P : Int32 → Prop} (hend : P n) (hstep : ∀ i, ¬ i < 0 → i < n → P (i + 1) → P i) : ∀ i, ¬ i < 0 → ¬ n < i → P i := by
  have key : ∀ (k : Nat) (i : Int32), ¬ i < 0 → ¬ n < i → (n.toInt - i.toInt).toNat = k → P i := by
    intro k
    induction k with
    | zero =>
      intro i h0 h1 hk
      have e : i = n := by
        rw [lt_i] at h1
        exact Int32.toInt_inj.mp (by omega)
      subst e; exact hend
    | succ k ih =>
      intro i h0 h1 hk
      rw [lt_i] at h1
      have hlt : i < n := lt_i.mpr (by omega)
      have hs := succ_toInt hlt
      have h0' : ¬ i.toInt < 0 := fun q => h0 (lt_i.mpr q)
      refine hstep i h0 hlt (ih (i + 1) ?_ ?_ ?_)
      · rw [lt_i, hs]; show ¬ i.toInt + 1 < 0; omega
      · rw [lt_i, hs]; omega
      · rw [hs]; omega
  exact fun i h0 h1 => key _ i h0 h1 rfl
/-- the first n places hold c -/
def fill {α : Type} (f : Int32 → α) (n : Int32) (c : α) : Int32 → α := fun x => if ¬ x < 0 ∧ x < n then c else f x
theorem fill_zero {α : Type} (f : Int32 → α) (c : α) : fill f 0 c = f := by
  funext x; exact if_neg fun q => q.1 q.2
theorem fill_succ {α : Type} (f : Int32 → α) (c : α) {i n : Int32} (h0 : ¬ i < 0) (h : i < n) : ups (fill f i c) i c = fill f (i + 1) c := by
  funext x
  have hs := succ_toInt h
  have h0' : ¬ i.toInt < 0 := fun q => h0 (lt_i.mpr q)
  unfold ups fill
  by_cases e : x = i
  · rw [if_pos e, if_pos]
    subst e
    exact ⟨h0, lt_i.mpr (by omega)⟩
  · rw [if_neg e]
    have e' : x.toInt ≠ i.toInt := fun q => e (Int32.toInt_inj.mp q)
    by_cases q : ¬ x < 0 ∧ x < i
    · rw [if_pos q, if_pos ⟨q.1, lt_i.mpr (by have := lt_i.mp q.2; omega)⟩]
    · rw [if_neg q, if_neg]
      rintro ⟨a, b⟩
      exact q ⟨a, lt_i.mpr (by have := lt_i.mp b; omega)⟩
theorem fill_in {α : Type} (f : Int32 → α) (c : α) {x n : Int32} (h0 : ¬ x < 0) (h : x < n) : fill f n c x = c := if_pos ⟨h0, h⟩
theorem ups_self {κ α : Type} [DecidableEq κ] (f : κ → α) (i : κ) : ups f i (f i) = f := by
  funext k; unfold ups; by_cases e : k = i
  · rw [if_pos e, e]
  · rw [if_neg e]
theorem ups_upd {κ α : Type} [DecidableEq κ] (f : κ → α) (i : κ) (x y : α) : ups (ups f i x) i y = ups f i y := by
  funext k; unfold ups; by_cases e : k = i
  · rw [if_pos e, if_pos e]
  · rw [if_neg e, if_neg e, if_neg e]
theorem ups_comm {κ α : Type} [DecidableEq κ] (f : κ → α) {i j : κ} (x y : α) (h : i ≠ j) : ups (ups f i x) j y = ups (ups f j y) i x := by
  funext k; unfold ups; by_cases e : k = i
  · have : k ≠ j := fun q => h (e.symm.trans q)
    rw [if_neg this, if_pos e, if_pos e]
  · by_cases e2 : k = j
    · rw [if_pos e2, if_neg e, if_pos e2]
    · rw [if_neg e2, if_neg e, if_neg e, if_neg e2]
end Jvm.Own

namespace Jvm.Own
open Jvm Jvm.Free
/-! ## 8. Bits -/
theorem toNat_toInt (x : Int32) : (x.toBitVec.toNat : Int) = x.toInt % 4294967296 := by
  have h1 : x.toInt = x.toBitVec.toInt := rfl
  rw [h1, BitVec.toInt_eq_toNat_bmod]
  have h2 := x.toBitVec.isLt
  have h3 := Int.bmod_emod (x := (x.toBitVec.toNat : Int)) (m := 2 ^ 32)
  have h4 : ((2 ^ 32 : Nat) : Int) = 4294967296 := rfl
  rw [h4] at h3
  rw [h3]; omega
theorem and_mask (x m : Int32) (k : Nat) (hk : k < 31) (hm : m.toBitVec.toNat = 2 ^ k - 1) : (x &&& m).toInt = x.toInt % ((2 ^ k : Nat) : Int) := by
  have h1 : (x &&& m).toInt = (x.toBitVec &&& m.toBitVec).toInt := rfl
  have h2 : (x.toBitVec &&& m.toBitVec).toNat = x.toBitVec.toNat % 2 ^ k := by rw [BitVec.toNat_and, hm, Nat.and_two_pow_sub_one_eq_mod]
  have h3 : (2 ^ k : Nat) ≤ 2 ^ 30 := Nat.pow_le_pow_right (by decide) (by omega)
  have h4 : x.toBitVec.toNat % 2 ^ k < 2 ^ k := Nat.mod_lt _ (Nat.two_pow_pos k)
  have h5 : (2 ^ k : Nat) ∣ 4294967296 := ⟨2 ^ (32 - k), by rw [← Nat.pow_add]; have : k + (32 - k) = 32 := by omega
                                                            rw [this]⟩
  rw [h1, BitVec.toInt_eq_toNat_of_lt (by rw [h2]; omega), h2, Int.natCast_emod, toNat_toInt]
  exact Int.emod_emod_of_dvd _ (Int.natCast_dvd_natCast.mpr h5)
theorem sar_toInt (x y : Int32) (k : Nat) (hy : y.toBitVec.smod 32#32 = BitVec.ofNat 32 k) (hk : k < 32) : (x >>> y).toInt = x.toInt / ((2 ^ k : Nat) : Int) := by
  have h1 : (x >>> y).toInt = (x.toBitVec.sshiftRight' (y.toBitVec.smod 32#32)).toInt := rfl
  rw [h1, hy, BitVec.sshiftRight_eq', BitVec.toInt_sshiftRight, BitVec.toNat_ofNat, Nat.mod_eq_of_lt (by omega), Int.shiftRight_eq_div_pow]
  rfl
theorem ushr_pos (x y : Int32) (k : Nat) (hy : (y &&& 31).toBitVec.toNat = k) (hx : ¬ x < 0) : (XT.ushr x y).toInt = x.toInt / ((2 ^ k : Nat) : Int) := by
  have hx' : 0 ≤ x.toInt := by rw [lt_i] at hx; have z : (0 : Int32).toInt = 0 := rfl; omega
  have h0 : (x.toBitVec.toNat : Int) = x.toInt := by rw [toNat_toInt]; have := Int32.toInt_lt x; omega
  have hy' : k < 32 := by
    rw [← hy]
    have : (y &&& 31).toBitVec.toNat = y.toBitVec.toNat % 2 ^ 5 := by
      show (y.toBitVec &&& 31#32).toNat = _
      rw [BitVec.toNat_and]; exact Nat.and_two_pow_sub_one_eq_mod _ 5
    omega
  have h1 : (XT.ushr x y).toBitVec = x.toBitVec >>> k := by
    show x.toBitVec >>> ((y &&& 31).toBitVec % 32#32) = _
    rw [BitVec.ushiftRight_eq', BitVec.toNat_umod, hy]
    show x.toBitVec >>> (k % 32) = _
    rw [Nat.mod_eq_of_lt hy']
  have h2 : (x.toBitVec >>> k).toNat = x.toBitVec.toNat / 2 ^ k := by rw [BitVec.toNat_ushiftRight, Nat.shiftRight_eq_div_pow]
  have h3 : (XT.ushr x y).toInt = (x.toBitVec >>> k).toInt := by rw [← h1]; rfl
  have h4 : x.toBitVec.toNat / 2 ^ k ≤ x.toBitVec.toNat := Nat.div_le_self _ _
  rw [h3, BitVec.toInt_eq_toNat_of_lt (by rw [h2]; have := Int32.toInt_lt x; omega), h2, Int.natCast_ediv, h0]
end Jvm.Own
namespace Jvm.Pilot.@@N@@
open Jvm Jvm.ClassFile Sem Op Lib Jvm.Free Jvm.Stand Jvm.LawKit Jvm.RoadKit Bundle Jvm.Own Jvm.Pilot.@@N@@.Jvm.D
def OK (Z : State) (a0 : Array Value) : Prop := ∀ d ∈ tables_1, d.before a0 Z = true
theorem OK.w {Z : State} {a0 : Array Value} (H : OK Z a0) (i : Nat) {d : Jvm.Cond} (h : tables_1[i]? = some d) : d.before a0 Z = true := H _ (List.mem_of_getElem? h)
abbrev cdC : CD := ("ContextProfiler", [(0, "capacity", "I"), (1, "period", "I"), (2, "maxDepth", "I"), (3, "status", "I"), (4, "codeSize", "I"), (5, "pc", "I"), (6, "sp", "I"), (7, "depth", "I"), (8, "executed", "I"), (9, "overflow", "I"), (10, "sampledOverflow", "I"), (11, "qLen", "I"), (12, "iCount", "I"), (13, "sCount", "I")], [], [(0, "ops", "[I", .int, 64), (1, "args", "[I", .int, 64), (2, "entries", "[I", .int, 8), (3, "stack", "[I", .int, 16), (4, "frameFunc", "[I", .int, 16), (5, "frameRet", "[I", .int, 16), (6, "frameNode", "[I", .int, 16), (7, "iParent", "[I", .int, 32), (8, "iFunc", "[I", .int, 32), (9, "iSelf", "[I", .int, 32), (10, "iIncl", "[I", .int, 32), (11, "iLost", "[I", .int, 32), (12, "sParent", "[I", .int, 32), (13, "sFunc", "[I", .int, 32), (14, "sSelf", "[I", .int, 32), (15, "query", "[I", .int, 16)])
theorem okcC : okC cdC := okC.of (by decide +kernel)
theorem mI_capacity : (0, "capacity", "I") ∈ cdC.2.1 := List.mem_of_getElem? (i := 0) rfl
theorem mI_period : (1, "period", "I") ∈ cdC.2.1 := List.mem_of_getElem? (i := 1) rfl
theorem mI_maxDepth : (2, "maxDepth", "I") ∈ cdC.2.1 := List.mem_of_getElem? (i := 2) rfl
theorem mI_status : (3, "status", "I") ∈ cdC.2.1 := List.mem_of_getElem? (i := 3) rfl
theorem mI_codeSize : (4, "codeSize", "I") ∈ cdC.2.1 := List.mem_of_getElem? (i := 4) rfl
theorem mI_pc : (5, "pc", "I") ∈ cdC.2.1 := List.mem_of_getElem? (i := 5) rfl
theorem mI_sp : (6, "sp", "I") ∈ cdC.2.1 := List.mem_of_getElem? (i := 6) rfl
theorem mI_depth : (7, "depth", "I") ∈ cdC.2.1 := List.mem_of_getElem? (i := 7) rfl
theorem mI_executed : (8, "executed", "I") ∈ cdC.2.1 := List.mem_of_getElem? (i := 8) rfl
theorem mI_overflow : (9, "overflow", "I") ∈ cdC.2.1 := List.mem_of_getElem? (i := 9) rfl
theorem mI_sampledOverflow : (10, "sampledOverflow", "I") ∈ cdC.2.1 := List.mem_of_getElem? (i := 10) rfl
theorem mI_qLen : (11, "qLen", "I") ∈ cdC.2.1 := List.mem_of_getElem? (i := 11) rfl
theorem mI_iCount : (12, "iCount", "I") ∈ cdC.2.1 := List.mem_of_getElem? (i := 12) rfl
theorem mI_sCount : (13, "sCount", "I") ∈ cdC.2.1 := List.mem_of_getElem? (i := 13) rfl
theorem mA_ops : (0, "ops", "[I", FieldType.int, (64 : Int32)) ∈ cdC.2.2.2 := List.mem_of_getElem? (i := 0) rfl
theorem mA_args : (1, "args", "[I", FieldType.int, (64 : Int32)) ∈ cdC.2.2.2 := List.mem_of_getElem? (i := 1) rfl
theorem mA_entries : (2, "entries", "[I", FieldType.int, (8 : Int32)) ∈ cdC.2.2.2 := List.mem_of_getElem? (i := 2) rfl
theorem mA_stack : (3, "stack", "[I", FieldType.int, (16 : Int32)) ∈ cdC.2.2.2 := List.mem_of_getElem? (i := 3) rfl
theorem mA_frameFunc : (4, "frameFunc", "[I", FieldType.int, (16 : Int32)) ∈ cdC.2.2.2 := List.mem_of_getElem? (i := 4) rfl
theorem mA_frameRet : (5, "frameRet", "[I", FieldType.int, (16 : Int32)) ∈ cdC.2.2.2 := List.mem_of_getElem? (i := 5) rfl
theorem mA_frameNode : (6, "frameNode", "[I", FieldType.int, (16 : Int32)) ∈ cdC.2.2.2 := List.mem_of_getElem? (i := 6) rfl
theorem mA_iParent : (7, "iParent", "[I", FieldType.int, (32 : Int32)) ∈ cdC.2.2.2 := List.mem_of_getElem? (i := 7) rfl
theorem mA_iFunc : (8, "iFunc", "[I", FieldType.int, (32 : Int32)) ∈ cdC.2.2.2 := List.mem_of_getElem? (i := 8) rfl
theorem mA_iSelf : (9, "iSelf", "[I", FieldType.int, (32 : Int32)) ∈ cdC.2.2.2 := List.mem_of_getElem? (i := 9) rfl
theorem mA_iIncl : (10, "iIncl", "[I", FieldType.int, (32 : Int32)) ∈ cdC.2.2.2 := List.mem_of_getElem? (i := 10) rfl
theorem mA_iLost : (11, "iLost", "[I", FieldType.int, (32 : Int32)) ∈ cdC.2.2.2 := List.mem_of_getElem? (i := 11) rfl
theorem mA_sParent : (12, "sParent", "[I", FieldType.int, (32 : Int32)) ∈ cdC.2.2.2 := List.mem_of_getElem? (i := 12) rfl
theorem mA_sFunc : (13, "sFunc", "[I", FieldType.int, (32 : Int32)) ∈ cdC.2.2.2 := List.mem_of_getElem? (i := 13) rfl
theorem mA_sSelf : (14, "sSelf", "[I", FieldType.int, (32 : Int32)) ∈ cdC.2.2.2 := List.mem_of_getElem? (i := 14) rfl
theorem mA_query : (15, "query", "[I", FieldType.int, (16 : Int32)) ∈ cdC.2.2.2 := List.mem_of_getElem? (i := 15) rfl
theorem wf_ops {Z : State} {a0 : Array Value} (H : OK Z a0) : (Cond.fieldLink "ContextProfiler" 7 "ContextProfiler" "ops" "[I").before a0 Z = true := H.w 10 rfl
theorem wf_args {Z : State} {a0 : Array Value} (H : OK Z a0) : (Cond.fieldLink "ContextProfiler" 13 "ContextProfiler" "args" "[I").before a0 Z = true := H.w 12 rfl
theorem wf_entries {Z : State} {a0 : Array Value} (H : OK Z a0) : (Cond.fieldLink "ContextProfiler" 16 "ContextProfiler" "entries" "[I").before a0 Z = true := H.w 14 rfl
theorem wf_stack {Z : State} {a0 : Array Value} (H : OK Z a0) : (Cond.fieldLink "ContextProfiler" 19 "ContextProfiler" "stack" "[I").before a0 Z = true := H.w 16 rfl
theorem wf_frameFunc {Z : State} {a0 : Array Value} (H : OK Z a0) : (Cond.fieldLink "ContextProfiler" 22 "ContextProfiler" "frameFunc" "[I").before a0 Z = true := H.w 18 rfl
theorem wf_frameRet {Z : State} {a0 : Array Value} (H : OK Z a0) : (Cond.fieldLink "ContextProfiler" 25 "ContextProfiler" "frameRet" "[I").before a0 Z = true := H.w 20 rfl
theorem wf_frameNode {Z : State} {a0 : Array Value} (H : OK Z a0) : (Cond.fieldLink "ContextProfiler" 28 "ContextProfiler" "frameNode" "[I").before a0 Z = true := H.w 22 rfl
theorem wf_iParent {Z : State} {a0 : Array Value} (H : OK Z a0) : (Cond.fieldLink "ContextProfiler" 31 "ContextProfiler" "iParent" "[I").before a0 Z = true := H.w 24 rfl
theorem wf_iFunc {Z : State} {a0 : Array Value} (H : OK Z a0) : (Cond.fieldLink "ContextProfiler" 34 "ContextProfiler" "iFunc" "[I").before a0 Z = true := H.w 26 rfl
theorem wf_iSelf {Z : State} {a0 : Array Value} (H : OK Z a0) : (Cond.fieldLink "ContextProfiler" 37 "ContextProfiler" "iSelf" "[I").before a0 Z = true := H.w 28 rfl
theorem wf_iIncl {Z : State} {a0 : Array Value} (H : OK Z a0) : (Cond.fieldLink "ContextProfiler" 40 "ContextProfiler" "iIncl" "[I").before a0 Z = true := H.w 30 rfl
theorem wf_iLost {Z : State} {a0 : Array Value} (H : OK Z a0) : (Cond.fieldLink "ContextProfiler" 43 "ContextProfiler" "iLost" "[I").before a0 Z = true := H.w 32 rfl
theorem wf_sParent {Z : State} {a0 : Array Value} (H : OK Z a0) : (Cond.fieldLink "ContextProfiler" 46 "ContextProfiler" "sParent" "[I").before a0 Z = true := H.w 34 rfl
theorem wf_sFunc {Z : State} {a0 : Array Value} (H : OK Z a0) : (Cond.fieldLink "ContextProfiler" 49 "ContextProfiler" "sFunc" "[I").before a0 Z = true := H.w 36 rfl
theorem wf_sSelf {Z : State} {a0 : Array Value} (H : OK Z a0) : (Cond.fieldLink "ContextProfiler" 52 "ContextProfiler" "sSelf" "[I").before a0 Z = true := H.w 38 rfl
theorem wf_query {Z : State} {a0 : Array Value} (H : OK Z a0) : (Cond.fieldLink "ContextProfiler" 55 "ContextProfiler" "query" "[I").before a0 Z = true := H.w 40 rfl
theorem wf_capacity {Z : State} {a0 : Array Value} (H : OK Z a0) : (Cond.fieldLink "ContextProfiler" 62 "ContextProfiler" "capacity" "I").before a0 Z = true := H.w 46 rfl
theorem wf_period {Z : State} {a0 : Array Value} (H : OK Z a0) : (Cond.fieldLink "ContextProfiler" 66 "ContextProfiler" "period" "I").before a0 Z = true := H.w 48 rfl
theorem wf_maxDepth {Z : State} {a0 : Array Value} (H : OK Z a0) : (Cond.fieldLink "ContextProfiler" 69 "ContextProfiler" "maxDepth" "I").before a0 Z = true := H.w 50 rfl
theorem wf_status {Z : State} {a0 : Array Value} (H : OK Z a0) : (Cond.fieldLink "ContextProfiler" 75 "ContextProfiler" "status" "I").before a0 Z = true := H.w 57 rfl
theorem wf_codeSize {Z : State} {a0 : Array Value} (H : OK Z a0) : (Cond.fieldLink "ContextProfiler" 78 "ContextProfiler" "codeSize" "I").before a0 Z = true := H.w 59 rfl
theorem wf_pc {Z : State} {a0 : Array Value} (H : OK Z a0) : (Cond.fieldLink "ContextProfiler" 81 "ContextProfiler" "pc" "I").before a0 Z = true := H.w 61 rfl
theorem wf_sp {Z : State} {a0 : Array Value} (H : OK Z a0) : (Cond.fieldLink "ContextProfiler" 84 "ContextProfiler" "sp" "I").before a0 Z = true := H.w 63 rfl
theorem wf_depth {Z : State} {a0 : Array Value} (H : OK Z a0) : (Cond.fieldLink "ContextProfiler" 87 "ContextProfiler" "depth" "I").before a0 Z = true := H.w 65 rfl
theorem wf_executed {Z : State} {a0 : Array Value} (H : OK Z a0) : (Cond.fieldLink "ContextProfiler" 90 "ContextProfiler" "executed" "I").before a0 Z = true := H.w 67 rfl
theorem wf_overflow {Z : State} {a0 : Array Value} (H : OK Z a0) : (Cond.fieldLink "ContextProfiler" 93 "ContextProfiler" "overflow" "I").before a0 Z = true := H.w 69 rfl
theorem wf_sampledOverflow {Z : State} {a0 : Array Value} (H : OK Z a0) : (Cond.fieldLink "ContextProfiler" 96 "ContextProfiler" "sampledOverflow" "I").before a0 Z = true := H.w 71 rfl
theorem wf_qLen {Z : State} {a0 : Array Value} (H : OK Z a0) : (Cond.fieldLink "ContextProfiler" 99 "ContextProfiler" "qLen" "I").before a0 Z = true := H.w 73 rfl
theorem wf_iCount {Z : State} {a0 : Array Value} (H : OK Z a0) : (Cond.fieldLink "ContextProfiler" 105 "ContextProfiler" "iCount" "I").before a0 Z = true := H.w 79 rfl
theorem wf_sCount {Z : State} {a0 : Array Value} (H : OK Z a0) : (Cond.fieldLink "ContextProfiler" 108 "ContextProfiler" "sCount" "I").before a0 Z = true := H.w 81 rfl
theorem wy_ops {Z : State} {a0 : Array Value} (H : OK Z a0) : (Cond.lays "ContextProfiler" "ContextProfiler" "ops" "[I").before a0 Z = true := H.w 11 rfl
theorem wy_args {Z : State} {a0 : Array Value} (H : OK Z a0) : (Cond.lays "ContextProfiler" "ContextProfiler" "args" "[I").before a0 Z = true := H.w 13 rfl
theorem wy_entries {Z : State} {a0 : Array Value} (H : OK Z a0) : (Cond.lays "ContextProfiler" "ContextProfiler" "entries" "[I").before a0 Z = true := H.w 15 rfl
theorem wy_stack {Z : State} {a0 : Array Value} (H : OK Z a0) : (Cond.lays "ContextProfiler" "ContextProfiler" "stack" "[I").before a0 Z = true := H.w 17 rfl
theorem wy_frameFunc {Z : State} {a0 : Array Value} (H : OK Z a0) : (Cond.lays "ContextProfiler" "ContextProfiler" "frameFunc" "[I").before a0 Z = true := H.w 19 rfl
theorem wy_frameRet {Z : State} {a0 : Array Value} (H : OK Z a0) : (Cond.lays "ContextProfiler" "ContextProfiler" "frameRet" "[I").before a0 Z = true := H.w 21 rfl
theorem wy_frameNode {Z : State} {a0 : Array Value} (H : OK Z a0) : (Cond.lays "ContextProfiler" "ContextProfiler" "frameNode" "[I").before a0 Z = true := H.w 23 rfl
theorem wy_iParent {Z : State} {a0 : Array Value} (H : OK Z a0) : (Cond.lays "ContextProfiler" "ContextProfiler" "iParent" "[I").before a0 Z = true := H.w 25 rfl
theorem wy_iFunc {Z : State} {a0 : Array Value} (H : OK Z a0) : (Cond.lays "ContextProfiler" "ContextProfiler" "iFunc" "[I").before a0 Z = true := H.w 27 rfl
theorem wy_iSelf {Z : State} {a0 : Array Value} (H : OK Z a0) : (Cond.lays "ContextProfiler" "ContextProfiler" "iSelf" "[I").before a0 Z = true := H.w 29 rfl
theorem wy_iIncl {Z : State} {a0 : Array Value} (H : OK Z a0) : (Cond.lays "ContextProfiler" "ContextProfiler" "iIncl" "[I").before a0 Z = true := H.w 31 rfl
theorem wy_iLost {Z : State} {a0 : Array Value} (H : OK Z a0) : (Cond.lays "ContextProfiler" "ContextProfiler" "iLost" "[I").before a0 Z = true := H.w 33 rfl
theorem wy_sParent {Z : State} {a0 : Array Value} (H : OK Z a0) : (Cond.lays "ContextProfiler" "ContextProfiler" "sParent" "[I").before a0 Z = true := H.w 35 rfl
theorem wy_sFunc {Z : State} {a0 : Array Value} (H : OK Z a0) : (Cond.lays "ContextProfiler" "ContextProfiler" "sFunc" "[I").before a0 Z = true := H.w 37 rfl
theorem wy_sSelf {Z : State} {a0 : Array Value} (H : OK Z a0) : (Cond.lays "ContextProfiler" "ContextProfiler" "sSelf" "[I").before a0 Z = true := H.w 39 rfl
theorem wy_query {Z : State} {a0 : Array Value} (H : OK Z a0) : (Cond.lays "ContextProfiler" "ContextProfiler" "query" "[I").before a0 Z = true := H.w 41 rfl
theorem wy_capacity {Z : State} {a0 : Array Value} (H : OK Z a0) : (Cond.lays "ContextProfiler" "ContextProfiler" "capacity" "I").before a0 Z = true := H.w 47 rfl
theorem wy_period {Z : State} {a0 : Array Value} (H : OK Z a0) : (Cond.lays "ContextProfiler" "ContextProfiler" "period" "I").before a0 Z = true := H.w 49 rfl
theorem wy_maxDepth {Z : State} {a0 : Array Value} (H : OK Z a0) : (Cond.lays "ContextProfiler" "ContextProfiler" "maxDepth" "I").before a0 Z = true := H.w 51 rfl
theorem wy_status {Z : State} {a0 : Array Value} (H : OK Z a0) : (Cond.lays "ContextProfiler" "ContextProfiler" "status" "I").before a0 Z = true := H.w 58 rfl
theorem wy_codeSize {Z : State} {a0 : Array Value} (H : OK Z a0) : (Cond.lays "ContextProfiler" "ContextProfiler" "codeSize" "I").before a0 Z = true := H.w 60 rfl
theorem wy_pc {Z : State} {a0 : Array Value} (H : OK Z a0) : (Cond.lays "ContextProfiler" "ContextProfiler" "pc" "I").before a0 Z = true := H.w 62 rfl
theorem wy_sp {Z : State} {a0 : Array Value} (H : OK Z a0) : (Cond.lays "ContextProfiler" "ContextProfiler" "sp" "I").before a0 Z = true := H.w 64 rfl
theorem wy_depth {Z : State} {a0 : Array Value} (H : OK Z a0) : (Cond.lays "ContextProfiler" "ContextProfiler" "depth" "I").before a0 Z = true := H.w 66 rfl
theorem wy_executed {Z : State} {a0 : Array Value} (H : OK Z a0) : (Cond.lays "ContextProfiler" "ContextProfiler" "executed" "I").before a0 Z = true := H.w 68 rfl
theorem wy_overflow {Z : State} {a0 : Array Value} (H : OK Z a0) : (Cond.lays "ContextProfiler" "ContextProfiler" "overflow" "I").before a0 Z = true := H.w 70 rfl
theorem wy_sampledOverflow {Z : State} {a0 : Array Value} (H : OK Z a0) : (Cond.lays "ContextProfiler" "ContextProfiler" "sampledOverflow" "I").before a0 Z = true := H.w 72 rfl
theorem wy_qLen {Z : State} {a0 : Array Value} (H : OK Z a0) : (Cond.lays "ContextProfiler" "ContextProfiler" "qLen" "I").before a0 Z = true := H.w 74 rfl
theorem wy_iCount {Z : State} {a0 : Array Value} (H : OK Z a0) : (Cond.lays "ContextProfiler" "ContextProfiler" "iCount" "I").before a0 Z = true := H.w 80 rfl
theorem wy_sCount {Z : State} {a0 : Array Value} (H : OK Z a0) : (Cond.lays "ContextProfiler" "ContextProfiler" "sCount" "I").before a0 Z = true := H.w 82 rfl
theorem wa_int {Z : State} {a0 : Array Value} (H : OK Z a0) : (Cond.arrayClass (newarray.typeOf .int)).before a0 Z = true := H.w 9 rfl
theorem wz_C {Z : State} {a0 : Array Value} (H : OK Z a0) : (Cond.initialized "ContextProfiler").before a0 Z = true := H.w 2 rfl
theorem coC {Z : State} {a0 : Array Value} (H : OK Z a0) : CO Z a0 cdC := by
  refine ⟨⟨30, H.w 1 rfl⟩, ?_, ?_, ?_, okcC⟩
  · intro t m; simp only [cdC, List.mem_cons, List.not_mem_nil, or_false] at m
    rcases m with rfl | rfl | rfl | rfl | rfl | rfl | rfl | rfl | rfl | rfl | rfl | rfl | rfl | rfl
    · exact Or.inl (wy_capacity H)
    · exact Or.inl (wy_period H)
    · exact Or.inl (wy_maxDepth H)
    · exact Or.inl (wy_status H)
    · exact Or.inl (wy_codeSize H)
    · exact Or.inl (wy_pc H)
    · exact Or.inl (wy_sp H)
    · exact Or.inl (wy_depth H)
    · exact Or.inl (wy_executed H)
    · exact Or.inl (wy_overflow H)
    · exact Or.inl (wy_sampledOverflow H)
    · exact Or.inl (wy_qLen H)
    · exact Or.inl (wy_iCount H)
    · exact Or.inl (wy_sCount H)
  · intro t m; cases m
  · intro t m; simp only [cdC, List.mem_cons, List.not_mem_nil, or_false] at m
    rcases m with rfl | rfl | rfl | rfl | rfl | rfl | rfl | rfl | rfl | rfl | rfl | rfl | rfl | rfl | rfl | rfl
    · exact Or.inl (wy_ops H)
    · exact Or.inl (wy_args H)
    · exact Or.inl (wy_entries H)
    · exact Or.inl (wy_stack H)
    · exact Or.inl (wy_frameFunc H)
    · exact Or.inl (wy_frameRet H)
    · exact Or.inl (wy_frameNode H)
    · exact Or.inl (wy_iParent H)
    · exact Or.inl (wy_iFunc H)
    · exact Or.inl (wy_iSelf H)
    · exact Or.inl (wy_iIncl H)
    · exact Or.inl (wy_iLost H)
    · exact Or.inl (wy_sParent H)
    · exact Or.inl (wy_sFunc H)
    · exact Or.inl (wy_sSelf H)
    · exact Or.inl (wy_query H)
theorem mrC {Z : State} (en : Nat × Nat) (h : Heap) : (MoC Z cdC).frm en h h := frmC.refl _ _ _
theorem mtC {Z : State} (en : Nat × Nat) (h1 h2 h3 : Heap) (a : (MoC Z cdC).frm en h1 h2) (b : (MoC Z cdC).frm en h2 h3) : (MoC Z cdC).frm en h1 h3 := frmC.trans a b
theorem mrL {Z : State} (en : Nat × Nat) (h : Heap) : (MoL Z cdC "ContextProfilerL2" false).frm en h h := trivial
theorem mtL {Z : State} (en : Nat × Nat) (h1 h2 h3 : Heap) (a : (MoL Z cdC "ContextProfilerL2" false).frm en h1 h2) (b : (MoL Z cdC "ContextProfilerL2" false).frm en h2 h3) : (MoL Z cdC "ContextProfilerL2" false).frm en h1 h3 := trivial
theorem pn_ContextProfiler : plainName "ContextProfiler" = true := by first | (simp [plainName, overriddenIn]; done) | decide +kernel
theorem pn_ContextProfilerL2 : plainName "ContextProfilerL2" = true := by first | (simp [plainName, overriddenIn]; done) | decide +kernel
theorem pd___I : ∀ sig, parseMethodDescriptor "()I" = some sig → 0 = sig.parameters.length := fun sig h => by
  have q : parseMethodDescriptor "()I" = some ⟨[], some .int⟩ := by decide +kernel
  cases q.symm.trans h; rfl
theorem pd___V : ∀ sig, parseMethodDescriptor "()V" = some sig → 0 = sig.parameters.length := fun sig h => by
  have q : parseMethodDescriptor "()V" = some ⟨[], none⟩ := by decide +kernel
  cases q.symm.trans h; rfl
theorem pd__I_I : ∀ sig, parseMethodDescriptor "(I)I" = some sig → 1 = sig.parameters.length := fun sig h => by
  have q : parseMethodDescriptor "(I)I" = some ⟨[.int], some .int⟩ := by decide +kernel
  cases q.symm.trans h; rfl
theorem pd__I_Z : ∀ sig, parseMethodDescriptor "(I)Z" = some sig → 1 = sig.parameters.length := fun sig h => by
  have q : parseMethodDescriptor "(I)Z" = some ⟨[.int], some .boolean⟩ := by decide +kernel
  cases q.symm.trans h; rfl
theorem pd__II_I : ∀ sig, parseMethodDescriptor "(II)I" = some sig → 2 = sig.parameters.length := fun sig h => by
  have q : parseMethodDescriptor "(II)I" = some ⟨[.int, .int], some .int⟩ := by decide +kernel
  cases q.symm.trans h; rfl
theorem pd__III_I : ∀ sig, parseMethodDescriptor "(III)I" = some sig → 3 = sig.parameters.length := fun sig h => by
  have q : parseMethodDescriptor "(III)I" = some ⟨[.int, .int, .int], some .int⟩ := by decide +kernel
  cases q.symm.trans h; rfl
theorem pd__III_V : ∀ sig, parseMethodDescriptor "(III)V" = some sig → 3 = sig.parameters.length := fun sig h => by
  have q : parseMethodDescriptor "(III)V" = some ⟨[.int, .int, .int], none⟩ := by decide +kernel
  cases q.symm.trans h; rfl
theorem pd__IIIII_Z : ∀ sig, parseMethodDescriptor "(IIIII)Z" = some sig → 5 = sig.parameters.length := fun sig h => by
  have q : parseMethodDescriptor "(IIIII)Z" = some ⟨[.int, .int, .int, .int, .int], some .boolean⟩ := by decide +kernel
  cases q.symm.trans h; rfl
abbrev md_init : MD := (⟨"ContextProfiler", "<init>", "(III)V"⟩, prog_1_method_1_code, 4, none, { frames := 2, cells := 16, slots := 472, locals := 26 }, 16)
theorem cv_init {Z : State} {a0 : Array Value} (H : OK Z a0) : CalI Z a0 md_init 3 := ⟨pn_ContextProfiler, by decide, pd__III_V, H.w 4 rfl, H.w 5 rfl, H.w 2 rfl, rfl, rfl⟩
theorem o_init_0 : InsA md_init 0 (.aload_n 0) 1 1 := ⟨by decide +kernel, rfl⟩
theorem o_init_1 : InsA md_init 1 (.invokespecial 1) 3 4 := ⟨by decide +kernel, rfl⟩
theorem o_init_4 : InsA md_init 4 (.aload_n 0) 1 5 := ⟨by decide +kernel, rfl⟩
theorem o_init_5 : InsA md_init 5 (.bipush 64) 2 7 := ⟨by decide +kernel, rfl⟩
theorem o_init_7 : InsA md_init 7 (.newarray .int) 2 9 := ⟨by decide +kernel, rfl⟩
theorem o_init_9 : InsA md_init 9 (.putfield 7) 3 12 := ⟨by decide +kernel, rfl⟩
theorem o_init_12 : InsA md_init 12 (.aload_n 0) 1 13 := ⟨by decide +kernel, rfl⟩
theorem o_init_13 : InsA md_init 13 (.bipush 64) 2 15 := ⟨by decide +kernel, rfl⟩
theorem o_init_15 : InsA md_init 15 (.newarray .int) 2 17 := ⟨by decide +kernel, rfl⟩
theorem o_init_17 : InsA md_init 17 (.putfield 13) 3 20 := ⟨by decide +kernel, rfl⟩
theorem o_init_20 : InsA md_init 20 (.aload_n 0) 1 21 := ⟨by decide +kernel, rfl⟩
theorem o_init_21 : InsA md_init 21 (.bipush 8) 2 23 := ⟨by decide +kernel, rfl⟩
theorem o_init_23 : InsA md_init 23 (.newarray .int) 2 25 := ⟨by decide +kernel, rfl⟩
theorem o_init_25 : InsA md_init 25 (.putfield 16) 3 28 := ⟨by decide +kernel, rfl⟩
theorem o_init_28 : InsA md_init 28 (.aload_n 0) 1 29 := ⟨by decide +kernel, rfl⟩
theorem o_init_29 : InsA md_init 29 (.bipush 16) 2 31 := ⟨by decide +kernel, rfl⟩
theorem o_init_31 : InsA md_init 31 (.newarray .int) 2 33 := ⟨by decide +kernel, rfl⟩
theorem o_init_33 : InsA md_init 33 (.putfield 19) 3 36 := ⟨by decide +kernel, rfl⟩
theorem o_init_36 : InsA md_init 36 (.aload_n 0) 1 37 := ⟨by decide +kernel, rfl⟩
theorem o_init_37 : InsA md_init 37 (.bipush 16) 2 39 := ⟨by decide +kernel, rfl⟩
theorem o_init_39 : InsA md_init 39 (.newarray .int) 2 41 := ⟨by decide +kernel, rfl⟩
theorem o_init_41 : InsA md_init 41 (.putfield 22) 3 44 := ⟨by decide +kernel, rfl⟩
theorem o_init_44 : InsA md_init 44 (.aload_n 0) 1 45 := ⟨by decide +kernel, rfl⟩
theorem o_init_45 : InsA md_init 45 (.bipush 16) 2 47 := ⟨by decide +kernel, rfl⟩
theorem o_init_47 : InsA md_init 47 (.newarray .int) 2 49 := ⟨by decide +kernel, rfl⟩
theorem o_init_49 : InsA md_init 49 (.putfield 25) 3 52 := ⟨by decide +kernel, rfl⟩
theorem o_init_52 : InsA md_init 52 (.aload_n 0) 1 53 := ⟨by decide +kernel, rfl⟩
theorem o_init_53 : InsA md_init 53 (.bipush 16) 2 55 := ⟨by decide +kernel, rfl⟩
theorem o_init_55 : InsA md_init 55 (.newarray .int) 2 57 := ⟨by decide +kernel, rfl⟩
theorem o_init_57 : InsA md_init 57 (.putfield 28) 3 60 := ⟨by decide +kernel, rfl⟩
theorem o_init_60 : InsA md_init 60 (.aload_n 0) 1 61 := ⟨by decide +kernel, rfl⟩
theorem o_init_61 : InsA md_init 61 (.bipush 32) 2 63 := ⟨by decide +kernel, rfl⟩
theorem o_init_63 : InsA md_init 63 (.newarray .int) 2 65 := ⟨by decide +kernel, rfl⟩
theorem o_init_65 : InsA md_init 65 (.putfield 31) 3 68 := ⟨by decide +kernel, rfl⟩
theorem o_init_68 : InsA md_init 68 (.aload_n 0) 1 69 := ⟨by decide +kernel, rfl⟩
theorem o_init_69 : InsA md_init 69 (.bipush 32) 2 71 := ⟨by decide +kernel, rfl⟩
theorem o_init_71 : InsA md_init 71 (.newarray .int) 2 73 := ⟨by decide +kernel, rfl⟩
theorem o_init_73 : InsA md_init 73 (.putfield 34) 3 76 := ⟨by decide +kernel, rfl⟩
theorem o_init_76 : InsA md_init 76 (.aload_n 0) 1 77 := ⟨by decide +kernel, rfl⟩
theorem o_init_77 : InsA md_init 77 (.bipush 32) 2 79 := ⟨by decide +kernel, rfl⟩
theorem o_init_79 : InsA md_init 79 (.newarray .int) 2 81 := ⟨by decide +kernel, rfl⟩
theorem o_init_81 : InsA md_init 81 (.putfield 37) 3 84 := ⟨by decide +kernel, rfl⟩
theorem o_init_84 : InsA md_init 84 (.aload_n 0) 1 85 := ⟨by decide +kernel, rfl⟩
theorem o_init_85 : InsA md_init 85 (.bipush 32) 2 87 := ⟨by decide +kernel, rfl⟩
theorem o_init_87 : InsA md_init 87 (.newarray .int) 2 89 := ⟨by decide +kernel, rfl⟩
theorem o_init_89 : InsA md_init 89 (.putfield 40) 3 92 := ⟨by decide +kernel, rfl⟩
theorem o_init_92 : InsA md_init 92 (.aload_n 0) 1 93 := ⟨by decide +kernel, rfl⟩
theorem o_init_93 : InsA md_init 93 (.bipush 32) 2 95 := ⟨by decide +kernel, rfl⟩
theorem o_init_95 : InsA md_init 95 (.newarray .int) 2 97 := ⟨by decide +kernel, rfl⟩
theorem o_init_97 : InsA md_init 97 (.putfield 43) 3 100 := ⟨by decide +kernel, rfl⟩
theorem o_init_100 : InsA md_init 100 (.aload_n 0) 1 101 := ⟨by decide +kernel, rfl⟩
theorem o_init_101 : InsA md_init 101 (.bipush 32) 2 103 := ⟨by decide +kernel, rfl⟩
theorem o_init_103 : InsA md_init 103 (.newarray .int) 2 105 := ⟨by decide +kernel, rfl⟩
theorem o_init_105 : InsA md_init 105 (.putfield 46) 3 108 := ⟨by decide +kernel, rfl⟩
theorem o_init_108 : InsA md_init 108 (.aload_n 0) 1 109 := ⟨by decide +kernel, rfl⟩
theorem o_init_109 : InsA md_init 109 (.bipush 32) 2 111 := ⟨by decide +kernel, rfl⟩
theorem o_init_111 : InsA md_init 111 (.newarray .int) 2 113 := ⟨by decide +kernel, rfl⟩
theorem o_init_113 : InsA md_init 113 (.putfield 49) 3 116 := ⟨by decide +kernel, rfl⟩
theorem o_init_116 : InsA md_init 116 (.aload_n 0) 1 117 := ⟨by decide +kernel, rfl⟩
theorem o_init_117 : InsA md_init 117 (.bipush 32) 2 119 := ⟨by decide +kernel, rfl⟩
theorem o_init_119 : InsA md_init 119 (.newarray .int) 2 121 := ⟨by decide +kernel, rfl⟩
theorem o_init_121 : InsA md_init 121 (.putfield 52) 3 124 := ⟨by decide +kernel, rfl⟩
theorem o_init_124 : InsA md_init 124 (.aload_n 0) 1 125 := ⟨by decide +kernel, rfl⟩
theorem o_init_125 : InsA md_init 125 (.bipush 16) 2 127 := ⟨by decide +kernel, rfl⟩
theorem o_init_127 : InsA md_init 127 (.newarray .int) 2 129 := ⟨by decide +kernel, rfl⟩
theorem o_init_129 : InsA md_init 129 (.putfield 55) 3 132 := ⟨by decide +kernel, rfl⟩
theorem o_init_132 : InsA md_init 132 (.aload_n 0) 1 133 := ⟨by decide +kernel, rfl⟩
theorem o_init_133 : InsA md_init 133 (.aload_n 0) 1 134 := ⟨by decide +kernel, rfl⟩
theorem o_init_134 : InsA md_init 134 (.iload_n 1) 1 135 := ⟨by decide +kernel, rfl⟩
theorem o_init_135 : InsA md_init 135 (.iconst 4) 1 136 := ⟨by decide +kernel, rfl⟩
theorem o_init_136 : InsA md_init 136 (.bipush 32) 2 138 := ⟨by decide +kernel, rfl⟩
theorem o_init_138 : InsA md_init 138 (.invokevirtual 58) 3 141 := ⟨by decide +kernel, rfl⟩
theorem o_init_141 : InsA md_init 141 (.putfield 62) 3 144 := ⟨by decide +kernel, rfl⟩
theorem o_init_144 : InsA md_init 144 (.aload_n 0) 1 145 := ⟨by decide +kernel, rfl⟩
theorem o_init_145 : InsA md_init 145 (.aload_n 0) 1 146 := ⟨by decide +kernel, rfl⟩
theorem o_init_146 : InsA md_init 146 (.iload_n 2) 1 147 := ⟨by decide +kernel, rfl⟩
theorem o_init_147 : InsA md_init 147 (.iconst 1) 1 148 := ⟨by decide +kernel, rfl⟩
theorem o_init_148 : InsA md_init 148 (.bipush 16) 2 150 := ⟨by decide +kernel, rfl⟩
theorem o_init_150 : InsA md_init 150 (.invokevirtual 58) 3 153 := ⟨by decide +kernel, rfl⟩
theorem o_init_153 : InsA md_init 153 (.putfield 66) 3 156 := ⟨by decide +kernel, rfl⟩
theorem o_init_156 : InsA md_init 156 (.aload_n 0) 1 157 := ⟨by decide +kernel, rfl⟩
theorem o_init_157 : InsA md_init 157 (.aload_n 0) 1 158 := ⟨by decide +kernel, rfl⟩
theorem o_init_158 : InsA md_init 158 (.iload_n 3) 1 159 := ⟨by decide +kernel, rfl⟩
theorem o_init_159 : InsA md_init 159 (.iconst 2) 1 160 := ⟨by decide +kernel, rfl⟩
theorem o_init_160 : InsA md_init 160 (.bipush 16) 2 162 := ⟨by decide +kernel, rfl⟩
theorem o_init_162 : InsA md_init 162 (.invokevirtual 58) 3 165 := ⟨by decide +kernel, rfl⟩
theorem o_init_165 : InsA md_init 165 (.putfield 69) 3 168 := ⟨by decide +kernel, rfl⟩
theorem o_init_168 : InsA md_init 168 (.aload_n 0) 1 169 := ⟨by decide +kernel, rfl⟩
theorem o_init_169 : InsA md_init 169 (.invokevirtual 72) 3 172 := ⟨by decide +kernel, rfl⟩
theorem o_init_172 : InsA md_init 172 (.return_) 1 173 := ⟨by decide +kernel, rfl⟩
abbrev md_clamp : MD := (⟨"ContextProfiler", "clamp", "(III)I"⟩, prog_1_method_2_code, 4, some .int, { frames := 0, cells := 0, slots := 0, locals := 0 }, 0)
theorem cv_clamp {Z : State} {a0 : Array Value} (H : OK Z a0) : CalV Z a0 md_clamp 3 := ⟨pn_ContextProfiler, by decide, pd__III_I, H.w 43 rfl, H.w 45 rfl, H.w 2 rfl, Or.inr ⟨H.w 44 rfl, 30, H.w 1 rfl⟩⟩
theorem o_clamp_0 : InsA md_clamp 0 (.iload_n 1) 1 1 := ⟨by decide +kernel, rfl⟩
theorem o_clamp_1 : InsA md_clamp 1 (.iload_n 2) 1 2 := ⟨by decide +kernel, rfl⟩
theorem o_clamp_2 : InsB md_clamp 2 (.if_icmp .ge 5) 3 5 (5) 7 := ⟨by decide +kernel, rfl, by decide, by decide⟩
theorem o_clamp_5 : InsA md_clamp 5 (.iload_n 2) 1 6 := ⟨by decide +kernel, rfl⟩
theorem o_clamp_6 : InsA md_clamp 6 (.ireturn) 1 7 := ⟨by decide +kernel, rfl⟩
theorem o_clamp_7 : InsA md_clamp 7 (.iload_n 1) 1 8 := ⟨by decide +kernel, rfl⟩
theorem o_clamp_8 : InsA md_clamp 8 (.iload_n 3) 1 9 := ⟨by decide +kernel, rfl⟩
theorem o_clamp_9 : InsB md_clamp 9 (.if_icmp .le 5) 3 12 (5) 14 := ⟨by decide +kernel, rfl, by decide, by decide⟩
theorem o_clamp_12 : InsA md_clamp 12 (.iload_n 3) 1 13 := ⟨by decide +kernel, rfl⟩
theorem o_clamp_13 : InsA md_clamp 13 (.ireturn) 1 14 := ⟨by decide +kernel, rfl⟩
theorem o_clamp_14 : InsA md_clamp 14 (.iload_n 1) 1 15 := ⟨by decide +kernel, rfl⟩
theorem o_clamp_15 : InsA md_clamp 15 (.ireturn) 1 16 := ⟨by decide +kernel, rfl⟩
abbrev md_reset : MD := (⟨"ContextProfiler", "reset", "()V"⟩, prog_1_method_3_code, 2, none, { frames := 1, cells := 0, slots := 0, locals := 13 }, 0)
theorem cv_reset {Z : State} {a0 : Array Value} (H : OK Z a0) : CalV Z a0 md_reset 0 := ⟨pn_ContextProfiler, by decide, pd___V, H.w 54 rfl, H.w 56 rfl, H.w 2 rfl, Or.inl ⟨H.w 53 rfl, H.w 55 rfl⟩⟩
theorem o_reset_0 : InsA md_reset 0 (.aload_n 0) 1 1 := ⟨by decide +kernel, rfl⟩
theorem o_reset_1 : InsA md_reset 1 (.iconst 0) 1 2 := ⟨by decide +kernel, rfl⟩
theorem o_reset_2 : InsA md_reset 2 (.putfield 75) 3 5 := ⟨by decide +kernel, rfl⟩
theorem o_reset_5 : InsA md_reset 5 (.aload_n 0) 1 6 := ⟨by decide +kernel, rfl⟩
theorem o_reset_6 : InsA md_reset 6 (.iconst 0) 1 7 := ⟨by decide +kernel, rfl⟩
theorem o_reset_7 : InsA md_reset 7 (.putfield 78) 3 10 := ⟨by decide +kernel, rfl⟩
theorem o_reset_10 : InsA md_reset 10 (.aload_n 0) 1 11 := ⟨by decide +kernel, rfl⟩
theorem o_reset_11 : InsA md_reset 11 (.iconst 0) 1 12 := ⟨by decide +kernel, rfl⟩
theorem o_reset_12 : InsA md_reset 12 (.putfield 81) 3 15 := ⟨by decide +kernel, rfl⟩
theorem o_reset_15 : InsA md_reset 15 (.aload_n 0) 1 16 := ⟨by decide +kernel, rfl⟩
theorem o_reset_16 : InsA md_reset 16 (.iconst 0) 1 17 := ⟨by decide +kernel, rfl⟩
theorem o_reset_17 : InsA md_reset 17 (.putfield 84) 3 20 := ⟨by decide +kernel, rfl⟩
theorem o_reset_20 : InsA md_reset 20 (.aload_n 0) 1 21 := ⟨by decide +kernel, rfl⟩
theorem o_reset_21 : InsA md_reset 21 (.iconst 0) 1 22 := ⟨by decide +kernel, rfl⟩
theorem o_reset_22 : InsA md_reset 22 (.putfield 87) 3 25 := ⟨by decide +kernel, rfl⟩
theorem o_reset_25 : InsA md_reset 25 (.aload_n 0) 1 26 := ⟨by decide +kernel, rfl⟩
theorem o_reset_26 : InsA md_reset 26 (.iconst 0) 1 27 := ⟨by decide +kernel, rfl⟩
theorem o_reset_27 : InsA md_reset 27 (.putfield 90) 3 30 := ⟨by decide +kernel, rfl⟩
theorem o_reset_30 : InsA md_reset 30 (.aload_n 0) 1 31 := ⟨by decide +kernel, rfl⟩
theorem o_reset_31 : InsA md_reset 31 (.iconst 0) 1 32 := ⟨by decide +kernel, rfl⟩
theorem o_reset_32 : InsA md_reset 32 (.putfield 93) 3 35 := ⟨by decide +kernel, rfl⟩
theorem o_reset_35 : InsA md_reset 35 (.aload_n 0) 1 36 := ⟨by decide +kernel, rfl⟩
theorem o_reset_36 : InsA md_reset 36 (.iconst 0) 1 37 := ⟨by decide +kernel, rfl⟩
theorem o_reset_37 : InsA md_reset 37 (.putfield 96) 3 40 := ⟨by decide +kernel, rfl⟩
theorem o_reset_40 : InsA md_reset 40 (.aload_n 0) 1 41 := ⟨by decide +kernel, rfl⟩
theorem o_reset_41 : InsA md_reset 41 (.iconst 0) 1 42 := ⟨by decide +kernel, rfl⟩
theorem o_reset_42 : InsA md_reset 42 (.putfield 99) 3 45 := ⟨by decide +kernel, rfl⟩
theorem o_reset_45 : InsA md_reset 45 (.iconst 0) 1 46 := ⟨by decide +kernel, rfl⟩
theorem o_reset_46 : InsA md_reset 46 (.istore_n 1) 1 47 := ⟨by decide +kernel, rfl⟩
theorem o_reset_47 : InsA md_reset 47 (.iload_n 1) 1 48 := ⟨by decide +kernel, rfl⟩
theorem o_reset_48 : InsA md_reset 48 (.bipush 64) 2 50 := ⟨by decide +kernel, rfl⟩
theorem o_reset_50 : InsB md_reset 50 (.if_icmp .ge 23) 3 53 (23) 73 := ⟨by decide +kernel, rfl, by decide, by decide⟩
theorem o_reset_53 : InsA md_reset 53 (.aload_n 0) 1 54 := ⟨by decide +kernel, rfl⟩
theorem o_reset_54 : InsA md_reset 54 (.getfield 7) 3 57 := ⟨by decide +kernel, rfl⟩
theorem o_reset_57 : InsA md_reset 57 (.iload_n 1) 1 58 := ⟨by decide +kernel, rfl⟩
theorem o_reset_58 : InsA md_reset 58 (.iconst 0) 1 59 := ⟨by decide +kernel, rfl⟩
theorem o_reset_59 : InsA md_reset 59 (.iastore) 1 60 := ⟨by decide +kernel, rfl⟩
theorem o_reset_60 : InsA md_reset 60 (.aload_n 0) 1 61 := ⟨by decide +kernel, rfl⟩
theorem o_reset_61 : InsA md_reset 61 (.getfield 13) 3 64 := ⟨by decide +kernel, rfl⟩
theorem o_reset_64 : InsA md_reset 64 (.iload_n 1) 1 65 := ⟨by decide +kernel, rfl⟩
theorem o_reset_65 : InsA md_reset 65 (.iconst 0) 1 66 := ⟨by decide +kernel, rfl⟩
theorem o_reset_66 : InsA md_reset 66 (.iastore) 1 67 := ⟨by decide +kernel, rfl⟩
theorem o_reset_67 : InsA md_reset 67 (.iinc 1 1) 3 70 := ⟨by decide +kernel, rfl⟩
theorem o_reset_70 : InsB md_reset 70 (.goto (-23)) 3 73 (-23) 47 := ⟨by decide +kernel, rfl, by decide, by decide⟩
theorem o_reset_73 : InsA md_reset 73 (.iconst 0) 1 74 := ⟨by decide +kernel, rfl⟩
theorem o_reset_74 : InsA md_reset 74 (.istore_n 1) 1 75 := ⟨by decide +kernel, rfl⟩
theorem o_reset_75 : InsA md_reset 75 (.iload_n 1) 1 76 := ⟨by decide +kernel, rfl⟩
theorem o_reset_76 : InsA md_reset 76 (.bipush 8) 2 78 := ⟨by decide +kernel, rfl⟩
theorem o_reset_78 : InsB md_reset 78 (.if_icmp .ge 16) 3 81 (16) 94 := ⟨by decide +kernel, rfl, by decide, by decide⟩
theorem o_reset_81 : InsA md_reset 81 (.aload_n 0) 1 82 := ⟨by decide +kernel, rfl⟩
theorem o_reset_82 : InsA md_reset 82 (.getfield 16) 3 85 := ⟨by decide +kernel, rfl⟩
theorem o_reset_85 : InsA md_reset 85 (.iload_n 1) 1 86 := ⟨by decide +kernel, rfl⟩
theorem o_reset_86 : InsA md_reset 86 (.iconst (-1)) 1 87 := ⟨by decide +kernel, rfl⟩
theorem o_reset_87 : InsA md_reset 87 (.iastore) 1 88 := ⟨by decide +kernel, rfl⟩
theorem o_reset_88 : InsA md_reset 88 (.iinc 1 1) 3 91 := ⟨by decide +kernel, rfl⟩
theorem o_reset_91 : InsB md_reset 91 (.goto (-16)) 3 94 (-16) 75 := ⟨by decide +kernel, rfl, by decide, by decide⟩
theorem o_reset_94 : InsA md_reset 94 (.iconst 0) 1 95 := ⟨by decide +kernel, rfl⟩
theorem o_reset_95 : InsA md_reset 95 (.istore_n 1) 1 96 := ⟨by decide +kernel, rfl⟩
theorem o_reset_96 : InsA md_reset 96 (.iload_n 1) 1 97 := ⟨by decide +kernel, rfl⟩
theorem o_reset_97 : InsA md_reset 97 (.bipush 16) 2 99 := ⟨by decide +kernel, rfl⟩
theorem o_reset_99 : InsB md_reset 99 (.if_icmp .ge 44) 3 102 (44) 143 := ⟨by decide +kernel, rfl, by decide, by decide⟩
theorem o_reset_102 : InsA md_reset 102 (.aload_n 0) 1 103 := ⟨by decide +kernel, rfl⟩
theorem o_reset_103 : InsA md_reset 103 (.getfield 19) 3 106 := ⟨by decide +kernel, rfl⟩
theorem o_reset_106 : InsA md_reset 106 (.iload_n 1) 1 107 := ⟨by decide +kernel, rfl⟩
theorem o_reset_107 : InsA md_reset 107 (.iconst 0) 1 108 := ⟨by decide +kernel, rfl⟩
theorem o_reset_108 : InsA md_reset 108 (.iastore) 1 109 := ⟨by decide +kernel, rfl⟩
theorem o_reset_109 : InsA md_reset 109 (.aload_n 0) 1 110 := ⟨by decide +kernel, rfl⟩
theorem o_reset_110 : InsA md_reset 110 (.getfield 22) 3 113 := ⟨by decide +kernel, rfl⟩
theorem o_reset_113 : InsA md_reset 113 (.iload_n 1) 1 114 := ⟨by decide +kernel, rfl⟩
theorem o_reset_114 : InsA md_reset 114 (.iconst 0) 1 115 := ⟨by decide +kernel, rfl⟩
theorem o_reset_115 : InsA md_reset 115 (.iastore) 1 116 := ⟨by decide +kernel, rfl⟩
theorem o_reset_116 : InsA md_reset 116 (.aload_n 0) 1 117 := ⟨by decide +kernel, rfl⟩
theorem o_reset_117 : InsA md_reset 117 (.getfield 25) 3 120 := ⟨by decide +kernel, rfl⟩
theorem o_reset_120 : InsA md_reset 120 (.iload_n 1) 1 121 := ⟨by decide +kernel, rfl⟩
theorem o_reset_121 : InsA md_reset 121 (.iconst 0) 1 122 := ⟨by decide +kernel, rfl⟩
theorem o_reset_122 : InsA md_reset 122 (.iastore) 1 123 := ⟨by decide +kernel, rfl⟩
theorem o_reset_123 : InsA md_reset 123 (.aload_n 0) 1 124 := ⟨by decide +kernel, rfl⟩
theorem o_reset_124 : InsA md_reset 124 (.getfield 28) 3 127 := ⟨by decide +kernel, rfl⟩
theorem o_reset_127 : InsA md_reset 127 (.iload_n 1) 1 128 := ⟨by decide +kernel, rfl⟩
theorem o_reset_128 : InsA md_reset 128 (.iconst (-1)) 1 129 := ⟨by decide +kernel, rfl⟩
theorem o_reset_129 : InsA md_reset 129 (.iastore) 1 130 := ⟨by decide +kernel, rfl⟩
theorem o_reset_130 : InsA md_reset 130 (.aload_n 0) 1 131 := ⟨by decide +kernel, rfl⟩
theorem o_reset_131 : InsA md_reset 131 (.getfield 55) 3 134 := ⟨by decide +kernel, rfl⟩
theorem o_reset_134 : InsA md_reset 134 (.iload_n 1) 1 135 := ⟨by decide +kernel, rfl⟩
theorem o_reset_135 : InsA md_reset 135 (.iconst 0) 1 136 := ⟨by decide +kernel, rfl⟩
theorem o_reset_136 : InsA md_reset 136 (.iastore) 1 137 := ⟨by decide +kernel, rfl⟩
theorem o_reset_137 : InsA md_reset 137 (.iinc 1 1) 3 140 := ⟨by decide +kernel, rfl⟩
theorem o_reset_140 : InsB md_reset 140 (.goto (-44)) 3 143 (-44) 96 := ⟨by decide +kernel, rfl, by decide, by decide⟩
theorem o_reset_143 : InsA md_reset 143 (.aload_n 0) 1 144 := ⟨by decide +kernel, rfl⟩
theorem o_reset_144 : InsA md_reset 144 (.invokevirtual 102) 3 147 := ⟨by decide +kernel, rfl⟩
theorem o_reset_147 : InsA md_reset 147 (.return_) 1 148 := ⟨by decide +kernel, rfl⟩
abbrev md_clearTrees : MD := (⟨"ContextProfiler", "clearTrees", "()V"⟩, prog_1_method_4_code, 2, none, { frames := 0, cells := 0, slots := 0, locals := 0 }, 0)
theorem cv_clearTrees {Z : State} {a0 : Array Value} (H : OK Z a0) : CalV Z a0 md_clearTrees 0 := ⟨pn_ContextProfiler, by decide, pd___V, H.w 76 rfl, H.w 78 rfl, H.w 2 rfl, Or.inr ⟨H.w 77 rfl, 30, H.w 1 rfl⟩⟩
theorem o_clearTrees_0 : InsA md_clearTrees 0 (.iconst 0) 1 1 := ⟨by decide +kernel, rfl⟩
theorem o_clearTrees_1 : InsA md_clearTrees 1 (.istore_n 1) 1 2 := ⟨by decide +kernel, rfl⟩
theorem o_clearTrees_2 : InsA md_clearTrees 2 (.iload_n 1) 1 3 := ⟨by decide +kernel, rfl⟩
theorem o_clearTrees_3 : InsA md_clearTrees 3 (.bipush 32) 2 5 := ⟨by decide +kernel, rfl⟩
theorem o_clearTrees_5 : InsB md_clearTrees 5 (.if_icmp .ge 65) 3 8 (65) 70 := ⟨by decide +kernel, rfl, by decide, by decide⟩
theorem o_clearTrees_8 : InsA md_clearTrees 8 (.aload_n 0) 1 9 := ⟨by decide +kernel, rfl⟩
theorem o_clearTrees_9 : InsA md_clearTrees 9 (.getfield 31) 3 12 := ⟨by decide +kernel, rfl⟩
theorem o_clearTrees_12 : InsA md_clearTrees 12 (.iload_n 1) 1 13 := ⟨by decide +kernel, rfl⟩
theorem o_clearTrees_13 : InsA md_clearTrees 13 (.iconst (-1)) 1 14 := ⟨by decide +kernel, rfl⟩
theorem o_clearTrees_14 : InsA md_clearTrees 14 (.iastore) 1 15 := ⟨by decide +kernel, rfl⟩
theorem o_clearTrees_15 : InsA md_clearTrees 15 (.aload_n 0) 1 16 := ⟨by decide +kernel, rfl⟩
theorem o_clearTrees_16 : InsA md_clearTrees 16 (.getfield 34) 3 19 := ⟨by decide +kernel, rfl⟩
theorem o_clearTrees_19 : InsA md_clearTrees 19 (.iload_n 1) 1 20 := ⟨by decide +kernel, rfl⟩
theorem o_clearTrees_20 : InsA md_clearTrees 20 (.iconst 0) 1 21 := ⟨by decide +kernel, rfl⟩
theorem o_clearTrees_21 : InsA md_clearTrees 21 (.iastore) 1 22 := ⟨by decide +kernel, rfl⟩
theorem o_clearTrees_22 : InsA md_clearTrees 22 (.aload_n 0) 1 23 := ⟨by decide +kernel, rfl⟩
theorem o_clearTrees_23 : InsA md_clearTrees 23 (.getfield 37) 3 26 := ⟨by decide +kernel, rfl⟩
theorem o_clearTrees_26 : InsA md_clearTrees 26 (.iload_n 1) 1 27 := ⟨by decide +kernel, rfl⟩
theorem o_clearTrees_27 : InsA md_clearTrees 27 (.iconst 0) 1 28 := ⟨by decide +kernel, rfl⟩
theorem o_clearTrees_28 : InsA md_clearTrees 28 (.iastore) 1 29 := ⟨by decide +kernel, rfl⟩
theorem o_clearTrees_29 : InsA md_clearTrees 29 (.aload_n 0) 1 30 := ⟨by decide +kernel, rfl⟩
theorem o_clearTrees_30 : InsA md_clearTrees 30 (.getfield 40) 3 33 := ⟨by decide +kernel, rfl⟩
theorem o_clearTrees_33 : InsA md_clearTrees 33 (.iload_n 1) 1 34 := ⟨by decide +kernel, rfl⟩
theorem o_clearTrees_34 : InsA md_clearTrees 34 (.iconst 0) 1 35 := ⟨by decide +kernel, rfl⟩
theorem o_clearTrees_35 : InsA md_clearTrees 35 (.iastore) 1 36 := ⟨by decide +kernel, rfl⟩
theorem o_clearTrees_36 : InsA md_clearTrees 36 (.aload_n 0) 1 37 := ⟨by decide +kernel, rfl⟩
theorem o_clearTrees_37 : InsA md_clearTrees 37 (.getfield 43) 3 40 := ⟨by decide +kernel, rfl⟩
theorem o_clearTrees_40 : InsA md_clearTrees 40 (.iload_n 1) 1 41 := ⟨by decide +kernel, rfl⟩
theorem o_clearTrees_41 : InsA md_clearTrees 41 (.iconst 0) 1 42 := ⟨by decide +kernel, rfl⟩
theorem o_clearTrees_42 : InsA md_clearTrees 42 (.iastore) 1 43 := ⟨by decide +kernel, rfl⟩
theorem o_clearTrees_43 : InsA md_clearTrees 43 (.aload_n 0) 1 44 := ⟨by decide +kernel, rfl⟩
theorem o_clearTrees_44 : InsA md_clearTrees 44 (.getfield 46) 3 47 := ⟨by decide +kernel, rfl⟩
theorem o_clearTrees_47 : InsA md_clearTrees 47 (.iload_n 1) 1 48 := ⟨by decide +kernel, rfl⟩
theorem o_clearTrees_48 : InsA md_clearTrees 48 (.iconst (-1)) 1 49 := ⟨by decide +kernel, rfl⟩
theorem o_clearTrees_49 : InsA md_clearTrees 49 (.iastore) 1 50 := ⟨by decide +kernel, rfl⟩
theorem o_clearTrees_50 : InsA md_clearTrees 50 (.aload_n 0) 1 51 := ⟨by decide +kernel, rfl⟩
theorem o_clearTrees_51 : InsA md_clearTrees 51 (.getfield 49) 3 54 := ⟨by decide +kernel, rfl⟩
theorem o_clearTrees_54 : InsA md_clearTrees 54 (.iload_n 1) 1 55 := ⟨by decide +kernel, rfl⟩
theorem o_clearTrees_55 : InsA md_clearTrees 55 (.iconst 0) 1 56 := ⟨by decide +kernel, rfl⟩
theorem o_clearTrees_56 : InsA md_clearTrees 56 (.iastore) 1 57 := ⟨by decide +kernel, rfl⟩
theorem o_clearTrees_57 : InsA md_clearTrees 57 (.aload_n 0) 1 58 := ⟨by decide +kernel, rfl⟩
theorem o_clearTrees_58 : InsA md_clearTrees 58 (.getfield 52) 3 61 := ⟨by decide +kernel, rfl⟩
theorem o_clearTrees_61 : InsA md_clearTrees 61 (.iload_n 1) 1 62 := ⟨by decide +kernel, rfl⟩
theorem o_clearTrees_62 : InsA md_clearTrees 62 (.iconst 0) 1 63 := ⟨by decide +kernel, rfl⟩
theorem o_clearTrees_63 : InsA md_clearTrees 63 (.iastore) 1 64 := ⟨by decide +kernel, rfl⟩
theorem o_clearTrees_64 : InsA md_clearTrees 64 (.iinc 1 1) 3 67 := ⟨by decide +kernel, rfl⟩
theorem o_clearTrees_67 : InsB md_clearTrees 67 (.goto (-65)) 3 70 (-65) 2 := ⟨by decide +kernel, rfl, by decide, by decide⟩
theorem o_clearTrees_70 : InsA md_clearTrees 70 (.aload_n 0) 1 71 := ⟨by decide +kernel, rfl⟩
theorem o_clearTrees_71 : InsA md_clearTrees 71 (.iconst 1) 1 72 := ⟨by decide +kernel, rfl⟩
theorem o_clearTrees_72 : InsA md_clearTrees 72 (.putfield 105) 3 75 := ⟨by decide +kernel, rfl⟩
theorem o_clearTrees_75 : InsA md_clearTrees 75 (.aload_n 0) 1 76 := ⟨by decide +kernel, rfl⟩
theorem o_clearTrees_76 : InsA md_clearTrees 76 (.iconst 1) 1 77 := ⟨by decide +kernel, rfl⟩
theorem o_clearTrees_77 : InsA md_clearTrees 77 (.putfield 108) 3 80 := ⟨by decide +kernel, rfl⟩
theorem o_clearTrees_80 : InsA md_clearTrees 80 (.return_) 1 81 := ⟨by decide +kernel, rfl⟩
abbrev md_pushQuery : MD := (⟨"ContextProfiler", "pushQuery", "(I)Z"⟩, prog_1_method_26_code, 2, some .boolean, { frames := 0, cells := 0, slots := 0, locals := 0 }, 0)
theorem cv_pushQuery {Z : State} {a0 : Array Value} (H : OK Z a0) : CalV Z a0 md_pushQuery 1 := ⟨pn_ContextProfiler, by decide, pd__I_Z, H.w 85 rfl, H.w 87 rfl, H.w 2 rfl, Or.inl ⟨H.w 84 rfl, H.w 86 rfl⟩⟩
theorem o_pushQuery_0 : InsA md_pushQuery 0 (.iload_n 1) 1 1 := ⟨by decide +kernel, rfl⟩
theorem o_pushQuery_1 : InsB md_pushQuery 1 (.ifCond .lt 18) 3 4 (18) 19 := ⟨by decide +kernel, rfl, by decide, by decide⟩
theorem o_pushQuery_4 : InsA md_pushQuery 4 (.iload_n 1) 1 5 := ⟨by decide +kernel, rfl⟩
theorem o_pushQuery_5 : InsA md_pushQuery 5 (.bipush 7) 2 7 := ⟨by decide +kernel, rfl⟩
theorem o_pushQuery_7 : InsB md_pushQuery 7 (.if_icmp .gt 12) 3 10 (12) 19 := ⟨by decide +kernel, rfl, by decide, by decide⟩
theorem o_pushQuery_10 : InsA md_pushQuery 10 (.aload_n 0) 1 11 := ⟨by decide +kernel, rfl⟩
theorem o_pushQuery_11 : InsA md_pushQuery 11 (.getfield 99) 3 14 := ⟨by decide +kernel, rfl⟩
theorem o_pushQuery_14 : InsA md_pushQuery 14 (.bipush 16) 2 16 := ⟨by decide +kernel, rfl⟩
theorem o_pushQuery_16 : InsB md_pushQuery 16 (.if_icmp .lt 5) 3 19 (5) 21 := ⟨by decide +kernel, rfl, by decide, by decide⟩
theorem o_pushQuery_19 : InsA md_pushQuery 19 (.iconst 0) 1 20 := ⟨by decide +kernel, rfl⟩
theorem o_pushQuery_20 : InsA md_pushQuery 20 (.ireturn) 1 21 := ⟨by decide +kernel, rfl⟩
theorem o_pushQuery_21 : InsA md_pushQuery 21 (.aload_n 0) 1 22 := ⟨by decide +kernel, rfl⟩
theorem o_pushQuery_22 : InsA md_pushQuery 22 (.getfield 55) 3 25 := ⟨by decide +kernel, rfl⟩
theorem o_pushQuery_25 : InsA md_pushQuery 25 (.aload_n 0) 1 26 := ⟨by decide +kernel, rfl⟩
theorem o_pushQuery_26 : InsA md_pushQuery 26 (.getfield 99) 3 29 := ⟨by decide +kernel, rfl⟩
theorem o_pushQuery_29 : InsA md_pushQuery 29 (.iload_n 1) 1 30 := ⟨by decide +kernel, rfl⟩
theorem o_pushQuery_30 : InsA md_pushQuery 30 (.iastore) 1 31 := ⟨by decide +kernel, rfl⟩
theorem o_pushQuery_31 : InsA md_pushQuery 31 (.aload_n 0) 1 32 := ⟨by decide +kernel, rfl⟩
theorem o_pushQuery_32 : InsA md_pushQuery 32 (.dup) 1 33 := ⟨by decide +kernel, rfl⟩
theorem o_pushQuery_33 : InsA md_pushQuery 33 (.getfield 99) 3 36 := ⟨by decide +kernel, rfl⟩
theorem o_pushQuery_36 : InsA md_pushQuery 36 (.iconst 1) 1 37 := ⟨by decide +kernel, rfl⟩
theorem o_pushQuery_37 : InsA md_pushQuery 37 (.iadd) 1 38 := ⟨by decide +kernel, rfl⟩
theorem o_pushQuery_38 : InsA md_pushQuery 38 (.putfield 99) 3 41 := ⟨by decide +kernel, rfl⟩
theorem o_pushQuery_41 : InsA md_pushQuery 41 (.iconst 1) 1 42 := ⟨by decide +kernel, rfl⟩
theorem o_pushQuery_42 : InsA md_pushQuery 42 (.ireturn) 1 43 := ⟨by decide +kernel, rfl⟩
abbrev md_info : MD := (⟨"ContextProfiler", "info", "(I)I"⟩, prog_1_method_34_code, 2, some .int, { frames := 0, cells := 0, slots := 0, locals := 0 }, 0)
theorem cv_info {Z : State} {a0 : Array Value} (H : OK Z a0) : CalV Z a0 md_info 1 := ⟨pn_ContextProfiler, by decide, pd__I_I, H.w 90 rfl, H.w 92 rfl, H.w 2 rfl, Or.inl ⟨H.w 89 rfl, H.w 91 rfl⟩⟩
theorem o_info_0 : InsA md_info 0 (.iload_n 1) 1 1 := ⟨by decide +kernel, rfl⟩
theorem o_info_1 : decode (byOf md_info) 1 = .ok (.tableswitch 155 0 12 #[67, 72, 77, 82, 87, 97, 102, 107, 112, 117, 122, 145, 150], 67) := by decide +kernel
theorem o_info_1_d : InsB md_info 1 (.tableswitch 155 0 12 #[67, 72, 77, 82, 87, 97, 102, 107, 112, 117, 122, 145, 150]) 67 68 (155) 156 := ⟨o_info_1, rfl, by decide, by decide⟩
theorem o_info_1_0 : InsB md_info 1 (.tableswitch 155 0 12 #[67, 72, 77, 82, 87, 97, 102, 107, 112, 117, 122, 145, 150]) 67 68 (67) 68 := ⟨o_info_1, rfl, by decide, by decide⟩
theorem o_info_1_1 : InsB md_info 1 (.tableswitch 155 0 12 #[67, 72, 77, 82, 87, 97, 102, 107, 112, 117, 122, 145, 150]) 67 68 (72) 73 := ⟨o_info_1, rfl, by decide, by decide⟩
theorem o_info_1_2 : InsB md_info 1 (.tableswitch 155 0 12 #[67, 72, 77, 82, 87, 97, 102, 107, 112, 117, 122, 145, 150]) 67 68 (77) 78 := ⟨o_info_1, rfl, by decide, by decide⟩
theorem o_info_1_3 : InsB md_info 1 (.tableswitch 155 0 12 #[67, 72, 77, 82, 87, 97, 102, 107, 112, 117, 122, 145, 150]) 67 68 (82) 83 := ⟨o_info_1, rfl, by decide, by decide⟩
theorem o_info_1_4 : InsB md_info 1 (.tableswitch 155 0 12 #[67, 72, 77, 82, 87, 97, 102, 107, 112, 117, 122, 145, 150]) 67 68 (87) 88 := ⟨o_info_1, rfl, by decide, by decide⟩
theorem o_info_1_5 : InsB md_info 1 (.tableswitch 155 0 12 #[67, 72, 77, 82, 87, 97, 102, 107, 112, 117, 122, 145, 150]) 67 68 (97) 98 := ⟨o_info_1, rfl, by decide, by decide⟩
theorem o_info_1_6 : InsB md_info 1 (.tableswitch 155 0 12 #[67, 72, 77, 82, 87, 97, 102, 107, 112, 117, 122, 145, 150]) 67 68 (102) 103 := ⟨o_info_1, rfl, by decide, by decide⟩
theorem o_info_1_7 : InsB md_info 1 (.tableswitch 155 0 12 #[67, 72, 77, 82, 87, 97, 102, 107, 112, 117, 122, 145, 150]) 67 68 (107) 108 := ⟨o_info_1, rfl, by decide, by decide⟩
theorem o_info_1_8 : InsB md_info 1 (.tableswitch 155 0 12 #[67, 72, 77, 82, 87, 97, 102, 107, 112, 117, 122, 145, 150]) 67 68 (112) 113 := ⟨o_info_1, rfl, by decide, by decide⟩
theorem o_info_1_9 : InsB md_info 1 (.tableswitch 155 0 12 #[67, 72, 77, 82, 87, 97, 102, 107, 112, 117, 122, 145, 150]) 67 68 (117) 118 := ⟨o_info_1, rfl, by decide, by decide⟩
theorem o_info_1_10 : InsB md_info 1 (.tableswitch 155 0 12 #[67, 72, 77, 82, 87, 97, 102, 107, 112, 117, 122, 145, 150]) 67 68 (122) 123 := ⟨o_info_1, rfl, by decide, by decide⟩
theorem o_info_1_11 : InsB md_info 1 (.tableswitch 155 0 12 #[67, 72, 77, 82, 87, 97, 102, 107, 112, 117, 122, 145, 150]) 67 68 (145) 146 := ⟨o_info_1, rfl, by decide, by decide⟩
theorem o_info_1_12 : InsB md_info 1 (.tableswitch 155 0 12 #[67, 72, 77, 82, 87, 97, 102, 107, 112, 117, 122, 145, 150]) 67 68 (150) 151 := ⟨o_info_1, rfl, by decide, by decide⟩
theorem o_info_68 : InsA md_info 68 (.aload_n 0) 1 69 := ⟨by decide +kernel, rfl⟩
theorem o_info_69 : InsA md_info 69 (.getfield 75) 3 72 := ⟨by decide +kernel, rfl⟩
theorem o_info_72 : InsA md_info 72 (.ireturn) 1 73 := ⟨by decide +kernel, rfl⟩
theorem o_info_73 : InsA md_info 73 (.aload_n 0) 1 74 := ⟨by decide +kernel, rfl⟩
theorem o_info_74 : InsA md_info 74 (.getfield 90) 3 77 := ⟨by decide +kernel, rfl⟩
theorem o_info_77 : InsA md_info 77 (.ireturn) 1 78 := ⟨by decide +kernel, rfl⟩
theorem o_info_78 : InsA md_info 78 (.aload_n 0) 1 79 := ⟨by decide +kernel, rfl⟩
theorem o_info_79 : InsA md_info 79 (.getfield 105) 3 82 := ⟨by decide +kernel, rfl⟩
theorem o_info_82 : InsA md_info 82 (.ireturn) 1 83 := ⟨by decide +kernel, rfl⟩
theorem o_info_83 : InsA md_info 83 (.aload_n 0) 1 84 := ⟨by decide +kernel, rfl⟩
theorem o_info_84 : InsA md_info 84 (.getfield 93) 3 87 := ⟨by decide +kernel, rfl⟩
theorem o_info_87 : InsA md_info 87 (.ireturn) 1 88 := ⟨by decide +kernel, rfl⟩
theorem o_info_88 : InsA md_info 88 (.aload_n 0) 1 89 := ⟨by decide +kernel, rfl⟩
theorem o_info_89 : InsA md_info 89 (.getfield 90) 3 92 := ⟨by decide +kernel, rfl⟩
theorem o_info_92 : InsA md_info 92 (.aload_n 0) 1 93 := ⟨by decide +kernel, rfl⟩
theorem o_info_93 : InsA md_info 93 (.getfield 66) 3 96 := ⟨by decide +kernel, rfl⟩
theorem o_info_96 : InsA md_info 96 (.idiv) 1 97 := ⟨by decide +kernel, rfl⟩
theorem o_info_97 : InsA md_info 97 (.ireturn) 1 98 := ⟨by decide +kernel, rfl⟩
theorem o_info_98 : InsA md_info 98 (.aload_n 0) 1 99 := ⟨by decide +kernel, rfl⟩
theorem o_info_99 : InsA md_info 99 (.getfield 108) 3 102 := ⟨by decide +kernel, rfl⟩
theorem o_info_102 : InsA md_info 102 (.ireturn) 1 103 := ⟨by decide +kernel, rfl⟩
theorem o_info_103 : InsA md_info 103 (.aload_n 0) 1 104 := ⟨by decide +kernel, rfl⟩
theorem o_info_104 : InsA md_info 104 (.getfield 96) 3 107 := ⟨by decide +kernel, rfl⟩
theorem o_info_107 : InsA md_info 107 (.ireturn) 1 108 := ⟨by decide +kernel, rfl⟩
theorem o_info_108 : InsA md_info 108 (.aload_n 0) 1 109 := ⟨by decide +kernel, rfl⟩
theorem o_info_109 : InsA md_info 109 (.getfield 87) 3 112 := ⟨by decide +kernel, rfl⟩
theorem o_info_112 : InsA md_info 112 (.ireturn) 1 113 := ⟨by decide +kernel, rfl⟩
theorem o_info_113 : InsA md_info 113 (.aload_n 0) 1 114 := ⟨by decide +kernel, rfl⟩
theorem o_info_114 : InsA md_info 114 (.getfield 81) 3 117 := ⟨by decide +kernel, rfl⟩
theorem o_info_117 : InsA md_info 117 (.ireturn) 1 118 := ⟨by decide +kernel, rfl⟩
theorem o_info_118 : InsA md_info 118 (.aload_n 0) 1 119 := ⟨by decide +kernel, rfl⟩
theorem o_info_119 : InsA md_info 119 (.getfield 84) 3 122 := ⟨by decide +kernel, rfl⟩
theorem o_info_122 : InsA md_info 122 (.ireturn) 1 123 := ⟨by decide +kernel, rfl⟩
theorem o_info_123 : InsA md_info 123 (.aload_n 0) 1 124 := ⟨by decide +kernel, rfl⟩
theorem o_info_124 : InsA md_info 124 (.getfield 84) 3 127 := ⟨by decide +kernel, rfl⟩
theorem o_info_127 : InsB md_info 127 (.ifCond .le 17) 3 130 (17) 144 := ⟨by decide +kernel, rfl, by decide, by decide⟩
theorem o_info_130 : InsA md_info 130 (.aload_n 0) 1 131 := ⟨by decide +kernel, rfl⟩
theorem o_info_131 : InsA md_info 131 (.getfield 19) 3 134 := ⟨by decide +kernel, rfl⟩
theorem o_info_134 : InsA md_info 134 (.aload_n 0) 1 135 := ⟨by decide +kernel, rfl⟩
theorem o_info_135 : InsA md_info 135 (.getfield 84) 3 138 := ⟨by decide +kernel, rfl⟩
theorem o_info_138 : InsA md_info 138 (.iconst 1) 1 139 := ⟨by decide +kernel, rfl⟩
theorem o_info_139 : InsA md_info 139 (.isub) 1 140 := ⟨by decide +kernel, rfl⟩
theorem o_info_140 : InsA md_info 140 (.iaload) 1 141 := ⟨by decide +kernel, rfl⟩
theorem o_info_141 : InsB md_info 141 (.goto 4) 3 144 (4) 145 := ⟨by decide +kernel, rfl, by decide, by decide⟩
theorem o_info_144 : InsA md_info 144 (.iconst 0) 1 145 := ⟨by decide +kernel, rfl⟩
theorem o_info_145 : InsA md_info 145 (.ireturn) 1 146 := ⟨by decide +kernel, rfl⟩
theorem o_info_146 : InsA md_info 146 (.aload_n 0) 1 147 := ⟨by decide +kernel, rfl⟩
theorem o_info_147 : InsA md_info 147 (.getfield 78) 3 150 := ⟨by decide +kernel, rfl⟩
theorem o_info_150 : InsA md_info 150 (.ireturn) 1 151 := ⟨by decide +kernel, rfl⟩
theorem o_info_151 : InsA md_info 151 (.aload_n 0) 1 152 := ⟨by decide +kernel, rfl⟩
theorem o_info_152 : InsA md_info 152 (.getfield 99) 3 155 := ⟨by decide +kernel, rfl⟩
theorem o_info_155 : InsA md_info 155 (.ireturn) 1 156 := ⟨by decide +kernel, rfl⟩
theorem o_info_156 : InsA md_info 156 (.iconst 0) 1 157 := ⟨by decide +kernel, rfl⟩
theorem o_info_157 : InsA md_info 157 (.ireturn) 1 158 := ⟨by decide +kernel, rfl⟩
abbrev md_self : MD := (⟨"ContextProfiler", "self", "()I"⟩, prog_1_method_29_code, 2, some .int, { frames := 2, cells := 0, slots := 0, locals := 30 }, 0)
theorem cv_self {Z : State} {a0 : Array Value} (H : OK Z a0) : CalV Z a0 md_self 0 := ⟨pn_ContextProfiler, by decide, pd___I, H.w 95 rfl, H.w 97 rfl, H.w 2 rfl, Or.inl ⟨H.w 94 rfl, H.w 96 rfl⟩⟩
theorem o_self_0 : InsA md_self 0 (.aload_n 0) 1 1 := ⟨by decide +kernel, rfl⟩
theorem o_self_1 : InsA md_self 1 (.invokevirtual 170) 3 4 := ⟨by decide +kernel, rfl⟩
theorem o_self_4 : InsA md_self 4 (.istore_n 1) 1 5 := ⟨by decide +kernel, rfl⟩
theorem o_self_5 : InsA md_self 5 (.iload_n 1) 1 6 := ⟨by decide +kernel, rfl⟩
theorem o_self_6 : InsB md_self 6 (.ifCond .ge 7) 3 9 (7) 13 := ⟨by decide +kernel, rfl, by decide, by decide⟩
theorem o_self_9 : InsA md_self 9 (.iconst (-1)) 1 10 := ⟨by decide +kernel, rfl⟩
theorem o_self_10 : InsB md_self 10 (.goto 9) 3 13 (9) 19 := ⟨by decide +kernel, rfl, by decide, by decide⟩
theorem o_self_13 : InsA md_self 13 (.aload_n 0) 1 14 := ⟨by decide +kernel, rfl⟩
theorem o_self_14 : InsA md_self 14 (.getfield 37) 3 17 := ⟨by decide +kernel, rfl⟩
theorem o_self_17 : InsA md_self 17 (.iload_n 1) 1 18 := ⟨by decide +kernel, rfl⟩
theorem o_self_18 : InsA md_self 18 (.iaload) 1 19 := ⟨by decide +kernel, rfl⟩
theorem o_self_19 : InsA md_self 19 (.ireturn) 1 20 := ⟨by decide +kernel, rfl⟩
abbrev md_queryInstrNode : MD := (⟨"ContextProfiler", "queryInstrNode", "()I"⟩, prog_1_method_27_code, 4, some .int, { frames := 1, cells := 0, slots := 0, locals := 15 }, 0)
theorem cv_queryInstrNode {Z : State} {a0 : Array Value} (H : OK Z a0) : CalV Z a0 md_queryInstrNode 0 := ⟨pn_ContextProfiler, by decide, pd___I, H.w 99 rfl, H.w 101 rfl, H.w 2 rfl, Or.inr ⟨H.w 100 rfl, 30, H.w 1 rfl⟩⟩
theorem o_queryInstrNode_0 : InsA md_queryInstrNode 0 (.aload_n 0) 1 1 := ⟨by decide +kernel, rfl⟩
theorem o_queryInstrNode_1 : InsA md_queryInstrNode 1 (.getfield 99) 3 4 := ⟨by decide +kernel, rfl⟩
theorem o_queryInstrNode_4 : InsB md_queryInstrNode 4 (.ifCond .le 12) 3 7 (12) 16 := ⟨by decide +kernel, rfl, by decide, by decide⟩
theorem o_queryInstrNode_7 : InsA md_queryInstrNode 7 (.aload_n 0) 1 8 := ⟨by decide +kernel, rfl⟩
theorem o_queryInstrNode_8 : InsA md_queryInstrNode 8 (.getfield 55) 3 11 := ⟨by decide +kernel, rfl⟩
theorem o_queryInstrNode_11 : InsA md_queryInstrNode 11 (.iconst 0) 1 12 := ⟨by decide +kernel, rfl⟩
theorem o_queryInstrNode_12 : InsA md_queryInstrNode 12 (.iaload) 1 13 := ⟨by decide +kernel, rfl⟩
theorem o_queryInstrNode_13 : InsB md_queryInstrNode 13 (.ifCond .eq 5) 3 16 (5) 18 := ⟨by decide +kernel, rfl, by decide, by decide⟩
theorem o_queryInstrNode_16 : InsA md_queryInstrNode 16 (.iconst (-1)) 1 17 := ⟨by decide +kernel, rfl⟩
theorem o_queryInstrNode_17 : InsA md_queryInstrNode 17 (.ireturn) 1 18 := ⟨by decide +kernel, rfl⟩
theorem o_queryInstrNode_18 : InsA md_queryInstrNode 18 (.iconst 0) 1 19 := ⟨by decide +kernel, rfl⟩
theorem o_queryInstrNode_19 : InsA md_queryInstrNode 19 (.istore_n 1) 1 20 := ⟨by decide +kernel, rfl⟩
theorem o_queryInstrNode_20 : InsA md_queryInstrNode 20 (.iconst 1) 1 21 := ⟨by decide +kernel, rfl⟩
theorem o_queryInstrNode_21 : InsA md_queryInstrNode 21 (.istore_n 2) 1 22 := ⟨by decide +kernel, rfl⟩
theorem o_queryInstrNode_22 : InsA md_queryInstrNode 22 (.iload_n 2) 1 23 := ⟨by decide +kernel, rfl⟩
theorem o_queryInstrNode_23 : InsA md_queryInstrNode 23 (.aload_n 0) 1 24 := ⟨by decide +kernel, rfl⟩
theorem o_queryInstrNode_24 : InsA md_queryInstrNode 24 (.getfield 99) 3 27 := ⟨by decide +kernel, rfl⟩
theorem o_queryInstrNode_27 : InsB md_queryInstrNode 27 (.if_icmp .ge 29) 3 30 (29) 56 := ⟨by decide +kernel, rfl, by decide, by decide⟩
theorem o_queryInstrNode_30 : InsA md_queryInstrNode 30 (.aload_n 0) 1 31 := ⟨by decide +kernel, rfl⟩
theorem o_queryInstrNode_31 : InsA md_queryInstrNode 31 (.getfield 55) 3 34 := ⟨by decide +kernel, rfl⟩
theorem o_queryInstrNode_34 : InsA md_queryInstrNode 34 (.iload_n 2) 1 35 := ⟨by decide +kernel, rfl⟩
theorem o_queryInstrNode_35 : InsA md_queryInstrNode 35 (.iaload) 1 36 := ⟨by decide +kernel, rfl⟩
theorem o_queryInstrNode_36 : InsA md_queryInstrNode 36 (.istore_n 3) 1 37 := ⟨by decide +kernel, rfl⟩
theorem o_queryInstrNode_37 : InsA md_queryInstrNode 37 (.aload_n 0) 1 38 := ⟨by decide +kernel, rfl⟩
theorem o_queryInstrNode_38 : InsA md_queryInstrNode 38 (.iload_n 1) 1 39 := ⟨by decide +kernel, rfl⟩
theorem o_queryInstrNode_39 : InsA md_queryInstrNode 39 (.iload_n 3) 1 40 := ⟨by decide +kernel, rfl⟩
theorem o_queryInstrNode_40 : InsA md_queryInstrNode 40 (.invokevirtual 147) 3 43 := ⟨by decide +kernel, rfl⟩
theorem o_queryInstrNode_43 : InsA md_queryInstrNode 43 (.istore_n 1) 1 44 := ⟨by decide +kernel, rfl⟩
theorem o_queryInstrNode_44 : InsA md_queryInstrNode 44 (.iload_n 1) 1 45 := ⟨by decide +kernel, rfl⟩
theorem o_queryInstrNode_45 : InsB md_queryInstrNode 45 (.ifCond .ge 5) 3 48 (5) 50 := ⟨by decide +kernel, rfl, by decide, by decide⟩
theorem o_queryInstrNode_48 : InsA md_queryInstrNode 48 (.iconst (-1)) 1 49 := ⟨by decide +kernel, rfl⟩
theorem o_queryInstrNode_49 : InsA md_queryInstrNode 49 (.ireturn) 1 50 := ⟨by decide +kernel, rfl⟩
theorem o_queryInstrNode_50 : InsA md_queryInstrNode 50 (.iinc 2 1) 3 53 := ⟨by decide +kernel, rfl⟩
theorem o_queryInstrNode_53 : InsB md_queryInstrNode 53 (.goto (-31)) 3 56 (-31) 22 := ⟨by decide +kernel, rfl, by decide, by decide⟩
theorem o_queryInstrNode_56 : InsA md_queryInstrNode 56 (.iload_n 1) 1 57 := ⟨by decide +kernel, rfl⟩
theorem o_queryInstrNode_57 : InsA md_queryInstrNode 57 (.ireturn) 1 58 := ⟨by decide +kernel, rfl⟩
abbrev md_inclusive : MD := (⟨"ContextProfiler", "inclusive", "()I"⟩, prog_1_method_30_code, 2, some .int, { frames := 2, cells := 0, slots := 0, locals := 30 }, 0)
theorem cv_inclusive {Z : State} {a0 : Array Value} (H : OK Z a0) : CalV Z a0 md_inclusive 0 := ⟨pn_ContextProfiler, by decide, pd___I, H.w 104 rfl, H.w 106 rfl, H.w 2 rfl, Or.inl ⟨H.w 103 rfl, H.w 105 rfl⟩⟩
theorem o_inclusive_0 : InsA md_inclusive 0 (.aload_n 0) 1 1 := ⟨by decide +kernel, rfl⟩
theorem o_inclusive_1 : InsA md_inclusive 1 (.invokevirtual 170) 3 4 := ⟨by decide +kernel, rfl⟩
theorem o_inclusive_4 : InsA md_inclusive 4 (.istore_n 1) 1 5 := ⟨by decide +kernel, rfl⟩
theorem o_inclusive_5 : InsA md_inclusive 5 (.iload_n 1) 1 6 := ⟨by decide +kernel, rfl⟩
theorem o_inclusive_6 : InsB md_inclusive 6 (.ifCond .ge 7) 3 9 (7) 13 := ⟨by decide +kernel, rfl, by decide, by decide⟩
theorem o_inclusive_9 : InsA md_inclusive 9 (.iconst (-1)) 1 10 := ⟨by decide +kernel, rfl⟩
theorem o_inclusive_10 : InsB md_inclusive 10 (.goto 9) 3 13 (9) 19 := ⟨by decide +kernel, rfl, by decide, by decide⟩
theorem o_inclusive_13 : InsA md_inclusive 13 (.aload_n 0) 1 14 := ⟨by decide +kernel, rfl⟩
theorem o_inclusive_14 : InsA md_inclusive 14 (.getfield 40) 3 17 := ⟨by decide +kernel, rfl⟩
theorem o_inclusive_17 : InsA md_inclusive 17 (.iload_n 1) 1 18 := ⟨by decide +kernel, rfl⟩
theorem o_inclusive_18 : InsA md_inclusive 18 (.iaload) 1 19 := ⟨by decide +kernel, rfl⟩
theorem o_inclusive_19 : InsA md_inclusive 19 (.ireturn) 1 20 := ⟨by decide +kernel, rfl⟩
abbrev md_lost : MD := (⟨"ContextProfiler", "lost", "()I"⟩, prog_1_method_31_code, 2, some .int, { frames := 2, cells := 0, slots := 0, locals := 30 }, 0)
theorem cv_lost {Z : State} {a0 : Array Value} (H : OK Z a0) : CalV Z a0 md_lost 0 := ⟨pn_ContextProfiler, by decide, pd___I, H.w 109 rfl, H.w 111 rfl, H.w 2 rfl, Or.inl ⟨H.w 108 rfl, H.w 110 rfl⟩⟩
theorem o_lost_0 : InsA md_lost 0 (.aload_n 0) 1 1 := ⟨by decide +kernel, rfl⟩
theorem o_lost_1 : InsA md_lost 1 (.invokevirtual 170) 3 4 := ⟨by decide +kernel, rfl⟩
theorem o_lost_4 : InsA md_lost 4 (.istore_n 1) 1 5 := ⟨by decide +kernel, rfl⟩
theorem o_lost_5 : InsA md_lost 5 (.iload_n 1) 1 6 := ⟨by decide +kernel, rfl⟩
theorem o_lost_6 : InsB md_lost 6 (.ifCond .ge 7) 3 9 (7) 13 := ⟨by decide +kernel, rfl, by decide, by decide⟩
theorem o_lost_9 : InsA md_lost 9 (.iconst (-1)) 1 10 := ⟨by decide +kernel, rfl⟩
theorem o_lost_10 : InsB md_lost 10 (.goto 9) 3 13 (9) 19 := ⟨by decide +kernel, rfl, by decide, by decide⟩
theorem o_lost_13 : InsA md_lost 13 (.aload_n 0) 1 14 := ⟨by decide +kernel, rfl⟩
theorem o_lost_14 : InsA md_lost 14 (.getfield 43) 3 17 := ⟨by decide +kernel, rfl⟩
theorem o_lost_17 : InsA md_lost 17 (.iload_n 1) 1 18 := ⟨by decide +kernel, rfl⟩
theorem o_lost_18 : InsA md_lost 18 (.iaload) 1 19 := ⟨by decide +kernel, rfl⟩
theorem o_lost_19 : InsA md_lost 19 (.ireturn) 1 20 := ⟨by decide +kernel, rfl⟩
abbrev md_sampledSelf : MD := (⟨"ContextProfiler", "sampledSelf", "()I"⟩, prog_1_method_32_code, 2, some .int, { frames := 2, cells := 0, slots := 0, locals := 30 }, 0)
theorem cv_sampledSelf {Z : State} {a0 : Array Value} (H : OK Z a0) : CalV Z a0 md_sampledSelf 0 := ⟨pn_ContextProfiler, by decide, pd___I, H.w 114 rfl, H.w 116 rfl, H.w 2 rfl, Or.inl ⟨H.w 113 rfl, H.w 115 rfl⟩⟩
theorem o_sampledSelf_0 : InsA md_sampledSelf 0 (.aload_n 0) 1 1 := ⟨by decide +kernel, rfl⟩
theorem o_sampledSelf_1 : InsA md_sampledSelf 1 (.invokevirtual 173) 3 4 := ⟨by decide +kernel, rfl⟩
theorem o_sampledSelf_4 : InsA md_sampledSelf 4 (.istore_n 1) 1 5 := ⟨by decide +kernel, rfl⟩
theorem o_sampledSelf_5 : InsA md_sampledSelf 5 (.iload_n 1) 1 6 := ⟨by decide +kernel, rfl⟩
theorem o_sampledSelf_6 : InsB md_sampledSelf 6 (.ifCond .ge 7) 3 9 (7) 13 := ⟨by decide +kernel, rfl, by decide, by decide⟩
theorem o_sampledSelf_9 : InsA md_sampledSelf 9 (.iconst (-1)) 1 10 := ⟨by decide +kernel, rfl⟩
theorem o_sampledSelf_10 : InsB md_sampledSelf 10 (.goto 9) 3 13 (9) 19 := ⟨by decide +kernel, rfl, by decide, by decide⟩
theorem o_sampledSelf_13 : InsA md_sampledSelf 13 (.aload_n 0) 1 14 := ⟨by decide +kernel, rfl⟩
theorem o_sampledSelf_14 : InsA md_sampledSelf 14 (.getfield 52) 3 17 := ⟨by decide +kernel, rfl⟩
theorem o_sampledSelf_17 : InsA md_sampledSelf 17 (.iload_n 1) 1 18 := ⟨by decide +kernel, rfl⟩
theorem o_sampledSelf_18 : InsA md_sampledSelf 18 (.iaload) 1 19 := ⟨by decide +kernel, rfl⟩
theorem o_sampledSelf_19 : InsA md_sampledSelf 19 (.ireturn) 1 20 := ⟨by decide +kernel, rfl⟩
abbrev md_querySampledNode : MD := (⟨"ContextProfiler", "querySampledNode", "()I"⟩, prog_1_method_28_code, 4, some .int, { frames := 1, cells := 0, slots := 0, locals := 15 }, 0)
theorem cv_querySampledNode {Z : State} {a0 : Array Value} (H : OK Z a0) : CalV Z a0 md_querySampledNode 0 := ⟨pn_ContextProfiler, by decide, pd___I, H.w 118 rfl, H.w 120 rfl, H.w 2 rfl, Or.inr ⟨H.w 119 rfl, 30, H.w 1 rfl⟩⟩
theorem o_querySampledNode_0 : InsA md_querySampledNode 0 (.aload_n 0) 1 1 := ⟨by decide +kernel, rfl⟩
theorem o_querySampledNode_1 : InsA md_querySampledNode 1 (.getfield 99) 3 4 := ⟨by decide +kernel, rfl⟩
theorem o_querySampledNode_4 : InsB md_querySampledNode 4 (.ifCond .le 12) 3 7 (12) 16 := ⟨by decide +kernel, rfl, by decide, by decide⟩
theorem o_querySampledNode_7 : InsA md_querySampledNode 7 (.aload_n 0) 1 8 := ⟨by decide +kernel, rfl⟩
theorem o_querySampledNode_8 : InsA md_querySampledNode 8 (.getfield 55) 3 11 := ⟨by decide +kernel, rfl⟩
theorem o_querySampledNode_11 : InsA md_querySampledNode 11 (.iconst 0) 1 12 := ⟨by decide +kernel, rfl⟩
theorem o_querySampledNode_12 : InsA md_querySampledNode 12 (.iaload) 1 13 := ⟨by decide +kernel, rfl⟩
theorem o_querySampledNode_13 : InsB md_querySampledNode 13 (.ifCond .eq 5) 3 16 (5) 18 := ⟨by decide +kernel, rfl, by decide, by decide⟩
theorem o_querySampledNode_16 : InsA md_querySampledNode 16 (.iconst (-1)) 1 17 := ⟨by decide +kernel, rfl⟩
theorem o_querySampledNode_17 : InsA md_querySampledNode 17 (.ireturn) 1 18 := ⟨by decide +kernel, rfl⟩
theorem o_querySampledNode_18 : InsA md_querySampledNode 18 (.iconst 0) 1 19 := ⟨by decide +kernel, rfl⟩
theorem o_querySampledNode_19 : InsA md_querySampledNode 19 (.istore_n 1) 1 20 := ⟨by decide +kernel, rfl⟩
theorem o_querySampledNode_20 : InsA md_querySampledNode 20 (.iconst 1) 1 21 := ⟨by decide +kernel, rfl⟩
theorem o_querySampledNode_21 : InsA md_querySampledNode 21 (.istore_n 2) 1 22 := ⟨by decide +kernel, rfl⟩
theorem o_querySampledNode_22 : InsA md_querySampledNode 22 (.iload_n 2) 1 23 := ⟨by decide +kernel, rfl⟩
theorem o_querySampledNode_23 : InsA md_querySampledNode 23 (.aload_n 0) 1 24 := ⟨by decide +kernel, rfl⟩
theorem o_querySampledNode_24 : InsA md_querySampledNode 24 (.getfield 99) 3 27 := ⟨by decide +kernel, rfl⟩
theorem o_querySampledNode_27 : InsB md_querySampledNode 27 (.if_icmp .ge 29) 3 30 (29) 56 := ⟨by decide +kernel, rfl, by decide, by decide⟩
theorem o_querySampledNode_30 : InsA md_querySampledNode 30 (.aload_n 0) 1 31 := ⟨by decide +kernel, rfl⟩
theorem o_querySampledNode_31 : InsA md_querySampledNode 31 (.getfield 55) 3 34 := ⟨by decide +kernel, rfl⟩
theorem o_querySampledNode_34 : InsA md_querySampledNode 34 (.iload_n 2) 1 35 := ⟨by decide +kernel, rfl⟩
theorem o_querySampledNode_35 : InsA md_querySampledNode 35 (.iaload) 1 36 := ⟨by decide +kernel, rfl⟩
theorem o_querySampledNode_36 : InsA md_querySampledNode 36 (.istore_n 3) 1 37 := ⟨by decide +kernel, rfl⟩
theorem o_querySampledNode_37 : InsA md_querySampledNode 37 (.aload_n 0) 1 38 := ⟨by decide +kernel, rfl⟩
theorem o_querySampledNode_38 : InsA md_querySampledNode 38 (.iload_n 1) 1 39 := ⟨by decide +kernel, rfl⟩
theorem o_querySampledNode_39 : InsA md_querySampledNode 39 (.iload_n 3) 1 40 := ⟨by decide +kernel, rfl⟩
theorem o_querySampledNode_40 : InsA md_querySampledNode 40 (.invokevirtual 164) 3 43 := ⟨by decide +kernel, rfl⟩
theorem o_querySampledNode_43 : InsA md_querySampledNode 43 (.istore_n 1) 1 44 := ⟨by decide +kernel, rfl⟩
theorem o_querySampledNode_44 : InsA md_querySampledNode 44 (.iload_n 1) 1 45 := ⟨by decide +kernel, rfl⟩
theorem o_querySampledNode_45 : InsB md_querySampledNode 45 (.ifCond .ge 5) 3 48 (5) 50 := ⟨by decide +kernel, rfl, by decide, by decide⟩
theorem o_querySampledNode_48 : InsA md_querySampledNode 48 (.iconst (-1)) 1 49 := ⟨by decide +kernel, rfl⟩
theorem o_querySampledNode_49 : InsA md_querySampledNode 49 (.ireturn) 1 50 := ⟨by decide +kernel, rfl⟩
theorem o_querySampledNode_50 : InsA md_querySampledNode 50 (.iinc 2 1) 3 53 := ⟨by decide +kernel, rfl⟩
theorem o_querySampledNode_53 : InsB md_querySampledNode 53 (.goto (-31)) 3 56 (-31) 22 := ⟨by decide +kernel, rfl, by decide, by decide⟩
theorem o_querySampledNode_56 : InsA md_querySampledNode 56 (.iload_n 1) 1 57 := ⟨by decide +kernel, rfl⟩
theorem o_querySampledNode_57 : InsA md_querySampledNode 57 (.ireturn) 1 58 := ⟨by decide +kernel, rfl⟩
abbrev md_clearQuery : MD := (⟨"ContextProfiler", "clearQuery", "()V"⟩, prog_1_method_25_code, 1, none, { frames := 0, cells := 0, slots := 0, locals := 0 }, 0)
theorem cv_clearQuery {Z : State} {a0 : Array Value} (H : OK Z a0) : CalV Z a0 md_clearQuery 0 := ⟨pn_ContextProfiler, by decide, pd___V, H.w 123 rfl, H.w 125 rfl, H.w 2 rfl, Or.inl ⟨H.w 122 rfl, H.w 124 rfl⟩⟩
theorem o_clearQuery_0 : InsA md_clearQuery 0 (.aload_n 0) 1 1 := ⟨by decide +kernel, rfl⟩
theorem o_clearQuery_1 : InsA md_clearQuery 1 (.iconst 0) 1 2 := ⟨by decide +kernel, rfl⟩
theorem o_clearQuery_2 : InsA md_clearQuery 2 (.putfield 99) 3 5 := ⟨by decide +kernel, rfl⟩
theorem o_clearQuery_5 : InsA md_clearQuery 5 (.return_) 1 6 := ⟨by decide +kernel, rfl⟩
abbrev md_findInstrChild : MD := (⟨"ContextProfiler", "findInstrChild", "(II)I"⟩, prog_1_method_20_code, 4, some .int, { frames := 0, cells := 0, slots := 0, locals := 0 }, 0)
theorem cv_findInstrChild {Z : State} {a0 : Array Value} (H : OK Z a0) : CalV Z a0 md_findInstrChild 2 := ⟨pn_ContextProfiler, by decide, pd__II_I, H.w 127 rfl, H.w 129 rfl, H.w 2 rfl, Or.inr ⟨H.w 128 rfl, 30, H.w 1 rfl⟩⟩
theorem o_findInstrChild_0 : InsA md_findInstrChild 0 (.iconst 1) 1 1 := ⟨by decide +kernel, rfl⟩
theorem o_findInstrChild_1 : InsA md_findInstrChild 1 (.istore_n 3) 1 2 := ⟨by decide +kernel, rfl⟩
theorem o_findInstrChild_2 : InsA md_findInstrChild 2 (.iload_n 3) 1 3 := ⟨by decide +kernel, rfl⟩
theorem o_findInstrChild_3 : InsA md_findInstrChild 3 (.aload_n 0) 1 4 := ⟨by decide +kernel, rfl⟩
theorem o_findInstrChild_4 : InsA md_findInstrChild 4 (.getfield 105) 3 7 := ⟨by decide +kernel, rfl⟩
theorem o_findInstrChild_7 : InsB md_findInstrChild 7 (.if_icmp .ge 31) 3 10 (31) 38 := ⟨by decide +kernel, rfl, by decide, by decide⟩
theorem o_findInstrChild_10 : InsA md_findInstrChild 10 (.aload_n 0) 1 11 := ⟨by decide +kernel, rfl⟩
theorem o_findInstrChild_11 : InsA md_findInstrChild 11 (.getfield 31) 3 14 := ⟨by decide +kernel, rfl⟩
theorem o_findInstrChild_14 : InsA md_findInstrChild 14 (.iload_n 3) 1 15 := ⟨by decide +kernel, rfl⟩
theorem o_findInstrChild_15 : InsA md_findInstrChild 15 (.iaload) 1 16 := ⟨by decide +kernel, rfl⟩
theorem o_findInstrChild_16 : InsA md_findInstrChild 16 (.iload_n 1) 1 17 := ⟨by decide +kernel, rfl⟩
theorem o_findInstrChild_17 : InsB md_findInstrChild 17 (.if_icmp .ne 15) 3 20 (15) 32 := ⟨by decide +kernel, rfl, by decide, by decide⟩
theorem o_findInstrChild_20 : InsA md_findInstrChild 20 (.aload_n 0) 1 21 := ⟨by decide +kernel, rfl⟩
theorem o_findInstrChild_21 : InsA md_findInstrChild 21 (.getfield 34) 3 24 := ⟨by decide +kernel, rfl⟩
theorem o_findInstrChild_24 : InsA md_findInstrChild 24 (.iload_n 3) 1 25 := ⟨by decide +kernel, rfl⟩
theorem o_findInstrChild_25 : InsA md_findInstrChild 25 (.iaload) 1 26 := ⟨by decide +kernel, rfl⟩
theorem o_findInstrChild_26 : InsA md_findInstrChild 26 (.iload_n 2) 1 27 := ⟨by decide +kernel, rfl⟩
theorem o_findInstrChild_27 : InsB md_findInstrChild 27 (.if_icmp .ne 5) 3 30 (5) 32 := ⟨by decide +kernel, rfl, by decide, by decide⟩
theorem o_findInstrChild_30 : InsA md_findInstrChild 30 (.iload_n 3) 1 31 := ⟨by decide +kernel, rfl⟩
theorem o_findInstrChild_31 : InsA md_findInstrChild 31 (.ireturn) 1 32 := ⟨by decide +kernel, rfl⟩
theorem o_findInstrChild_32 : InsA md_findInstrChild 32 (.iinc 3 1) 3 35 := ⟨by decide +kernel, rfl⟩
theorem o_findInstrChild_35 : InsB md_findInstrChild 35 (.goto (-33)) 3 38 (-33) 2 := ⟨by decide +kernel, rfl, by decide, by decide⟩
theorem o_findInstrChild_38 : InsA md_findInstrChild 38 (.iconst (-1)) 1 39 := ⟨by decide +kernel, rfl⟩
theorem o_findInstrChild_39 : InsA md_findInstrChild 39 (.ireturn) 1 40 := ⟨by decide +kernel, rfl⟩
abbrev md_findSampledChild : MD := (⟨"ContextProfiler", "findSampledChild", "(II)I"⟩, prog_1_method_23_code, 4, some .int, { frames := 0, cells := 0, slots := 0, locals := 0 }, 0)
theorem cv_findSampledChild {Z : State} {a0 : Array Value} (H : OK Z a0) : CalV Z a0 md_findSampledChild 2 := ⟨pn_ContextProfiler, by decide, pd__II_I, H.w 131 rfl, H.w 133 rfl, H.w 2 rfl, Or.inr ⟨H.w 132 rfl, 30, H.w 1 rfl⟩⟩
theorem o_findSampledChild_0 : InsA md_findSampledChild 0 (.iconst 1) 1 1 := ⟨by decide +kernel, rfl⟩
theorem o_findSampledChild_1 : InsA md_findSampledChild 1 (.istore_n 3) 1 2 := ⟨by decide +kernel, rfl⟩
theorem o_findSampledChild_2 : InsA md_findSampledChild 2 (.iload_n 3) 1 3 := ⟨by decide +kernel, rfl⟩
theorem o_findSampledChild_3 : InsA md_findSampledChild 3 (.aload_n 0) 1 4 := ⟨by decide +kernel, rfl⟩
theorem o_findSampledChild_4 : InsA md_findSampledChild 4 (.getfield 108) 3 7 := ⟨by decide +kernel, rfl⟩
theorem o_findSampledChild_7 : InsB md_findSampledChild 7 (.if_icmp .ge 31) 3 10 (31) 38 := ⟨by decide +kernel, rfl, by decide, by decide⟩
theorem o_findSampledChild_10 : InsA md_findSampledChild 10 (.aload_n 0) 1 11 := ⟨by decide +kernel, rfl⟩
theorem o_findSampledChild_11 : InsA md_findSampledChild 11 (.getfield 46) 3 14 := ⟨by decide +kernel, rfl⟩
theorem o_findSampledChild_14 : InsA md_findSampledChild 14 (.iload_n 3) 1 15 := ⟨by decide +kernel, rfl⟩
theorem o_findSampledChild_15 : InsA md_findSampledChild 15 (.iaload) 1 16 := ⟨by decide +kernel, rfl⟩
theorem o_findSampledChild_16 : InsA md_findSampledChild 16 (.iload_n 1) 1 17 := ⟨by decide +kernel, rfl⟩
theorem o_findSampledChild_17 : InsB md_findSampledChild 17 (.if_icmp .ne 15) 3 20 (15) 32 := ⟨by decide +kernel, rfl, by decide, by decide⟩
theorem o_findSampledChild_20 : InsA md_findSampledChild 20 (.aload_n 0) 1 21 := ⟨by decide +kernel, rfl⟩
theorem o_findSampledChild_21 : InsA md_findSampledChild 21 (.getfield 49) 3 24 := ⟨by decide +kernel, rfl⟩
theorem o_findSampledChild_24 : InsA md_findSampledChild 24 (.iload_n 3) 1 25 := ⟨by decide +kernel, rfl⟩
theorem o_findSampledChild_25 : InsA md_findSampledChild 25 (.iaload) 1 26 := ⟨by decide +kernel, rfl⟩
theorem o_findSampledChild_26 : InsA md_findSampledChild 26 (.iload_n 2) 1 27 := ⟨by decide +kernel, rfl⟩
theorem o_findSampledChild_27 : InsB md_findSampledChild 27 (.if_icmp .ne 5) 3 30 (5) 32 := ⟨by decide +kernel, rfl, by decide, by decide⟩
theorem o_findSampledChild_30 : InsA md_findSampledChild 30 (.iload_n 3) 1 31 := ⟨by decide +kernel, rfl⟩
theorem o_findSampledChild_31 : InsA md_findSampledChild 31 (.ireturn) 1 32 := ⟨by decide +kernel, rfl⟩
theorem o_findSampledChild_32 : InsA md_findSampledChild 32 (.iinc 3 1) 3 35 := ⟨by decide +kernel, rfl⟩
theorem o_findSampledChild_35 : InsB md_findSampledChild 35 (.goto (-33)) 3 38 (-33) 2 := ⟨by decide +kernel, rfl, by decide, by decide⟩
theorem o_findSampledChild_38 : InsA md_findSampledChild 38 (.iconst (-1)) 1 39 := ⟨by decide +kernel, rfl⟩
theorem o_findSampledChild_39 : InsA md_findSampledChild 39 (.ireturn) 1 40 := ⟨by decide +kernel, rfl⟩
abbrev md_L_law : MD := (x, code, maxLocals, ret, room_1, 17)
theorem o_L_law_0 : InsA md_L_law 0 (.new 7) 3 3 := ⟨at_0, rfl⟩
theorem o_L_law_3 : InsA md_L_law 3 (.dup) 1 4 := ⟨at_3, rfl⟩
theorem o_L_law_4 : InsA md_L_law 4 (.iload_n 0) 1 5 := ⟨at_4, rfl⟩
theorem o_L_law_5 : InsA md_L_law 5 (.iload_n 1) 1 6 := ⟨at_5, rfl⟩
theorem o_L_law_6 : InsA md_L_law 6 (.iload_n 2) 1 7 := ⟨at_6, rfl⟩
theorem o_L_law_7 : InsA md_L_law 7 (.invokespecial 9) 3 10 := ⟨at_7, rfl⟩
theorem o_L_law_10 : InsA md_L_law 10 (.astore 5) 2 12 := ⟨at_10, rfl⟩
theorem o_L_law_12 : InsA md_L_law 12 (.iload_n 3) 1 13 := ⟨at_12, rfl⟩
theorem o_L_law_13 : InsB md_L_law 13 (.ifCond .lt 13) 3 16 (13) 26 := ⟨at_13, rfl, by decide, by decide⟩
theorem o_L_law_16 : InsA md_L_law 16 (.iload_n 3) 1 17 := ⟨at_16, rfl⟩
theorem o_L_law_17 : InsA md_L_law 17 (.bipush 7) 2 19 := ⟨at_17, rfl⟩
theorem o_L_law_19 : InsB md_L_law 19 (.if_icmp .gt 7) 3 22 (7) 26 := ⟨at_19, rfl, by decide, by decide⟩
theorem o_L_law_22 : InsA md_L_law 22 (.iconst 1) 1 23 := ⟨at_22, rfl⟩
theorem o_L_law_23 : InsB md_L_law 23 (.goto 4) 3 26 (4) 27 := ⟨at_23, rfl, by decide, by decide⟩
theorem o_L_law_26 : InsA md_L_law 26 (.iconst 0) 1 27 := ⟨at_26, rfl⟩
theorem o_L_law_27 : InsA md_L_law 27 (.istore 6) 2 29 := ⟨at_27, rfl⟩
theorem o_L_law_29 : InsA md_L_law 29 (.iload 4) 2 31 := ⟨at_29, rfl⟩
theorem o_L_law_31 : InsB md_L_law 31 (.ifCond .lt 14) 3 34 (14) 45 := ⟨at_31, rfl, by decide, by decide⟩
theorem o_L_law_34 : InsA md_L_law 34 (.iload 4) 2 36 := ⟨at_34, rfl⟩
theorem o_L_law_36 : InsA md_L_law 36 (.bipush 7) 2 38 := ⟨at_36, rfl⟩
theorem o_L_law_38 : InsB md_L_law 38 (.if_icmp .gt 7) 3 41 (7) 45 := ⟨at_38, rfl, by decide, by decide⟩
theorem o_L_law_41 : InsA md_L_law 41 (.iconst 1) 1 42 := ⟨at_41, rfl⟩
theorem o_L_law_42 : InsB md_L_law 42 (.goto 4) 3 45 (4) 46 := ⟨at_42, rfl, by decide, by decide⟩
theorem o_L_law_45 : InsA md_L_law 45 (.iconst 0) 1 46 := ⟨at_45, rfl⟩
theorem o_L_law_46 : InsA md_L_law 46 (.istore 7) 2 48 := ⟨at_46, rfl⟩
theorem o_L_law_48 : InsA md_L_law 48 (.aload 5) 2 50 := ⟨at_48, rfl⟩
theorem o_L_law_50 : InsA md_L_law 50 (.iload_n 3) 1 51 := ⟨at_50, rfl⟩
theorem o_L_law_51 : InsA md_L_law 51 (.invokevirtual 12) 3 54 := ⟨at_51, rfl⟩
theorem o_L_law_54 : InsA md_L_law 54 (.iload 6) 2 56 := ⟨at_54, rfl⟩
theorem o_L_law_56 : InsB md_L_law 56 (.if_icmp .eq 5) 3 59 (5) 61 := ⟨at_56, rfl, by decide, by decide⟩
theorem o_L_law_59 : InsA md_L_law 59 (.iconst 0) 1 60 := ⟨at_59, rfl⟩
theorem o_L_law_60 : InsA md_L_law 60 (.ireturn) 1 61 := ⟨at_60, rfl⟩
theorem o_L_law_61 : InsA md_L_law 61 (.aload 5) 2 63 := ⟨at_61, rfl⟩
theorem o_L_law_63 : InsA md_L_law 63 (.iload 4) 2 65 := ⟨at_63, rfl⟩
theorem o_L_law_65 : InsA md_L_law 65 (.invokevirtual 12) 3 68 := ⟨at_65, rfl⟩
theorem o_L_law_68 : InsA md_L_law 68 (.iload 7) 2 70 := ⟨at_68, rfl⟩
theorem o_L_law_70 : InsB md_L_law 70 (.if_icmp .eq 5) 3 73 (5) 75 := ⟨at_70, rfl, by decide, by decide⟩
theorem o_L_law_73 : InsA md_L_law 73 (.iconst 0) 1 74 := ⟨at_73, rfl⟩
theorem o_L_law_74 : InsA md_L_law 74 (.ireturn) 1 75 := ⟨at_74, rfl⟩
theorem o_L_law_75 : InsA md_L_law 75 (.iload 6) 2 77 := ⟨at_75, rfl⟩
theorem o_L_law_77 : InsB md_L_law 77 (.ifCond .eq 7) 3 80 (7) 84 := ⟨at_77, rfl, by decide, by decide⟩
theorem o_L_law_80 : InsA md_L_law 80 (.iconst 1) 1 81 := ⟨at_80, rfl⟩
theorem o_L_law_81 : InsB md_L_law 81 (.goto 4) 3 84 (4) 85 := ⟨at_81, rfl, by decide, by decide⟩
theorem o_L_law_84 : InsA md_L_law 84 (.iconst 0) 1 85 := ⟨at_84, rfl⟩
theorem o_L_law_85 : InsA md_L_law 85 (.iload 7) 2 87 := ⟨at_85, rfl⟩
theorem o_L_law_87 : InsB md_L_law 87 (.ifCond .eq 7) 3 90 (7) 94 := ⟨at_87, rfl, by decide, by decide⟩
theorem o_L_law_90 : InsA md_L_law 90 (.iconst 1) 1 91 := ⟨at_90, rfl⟩
theorem o_L_law_91 : InsB md_L_law 91 (.goto 4) 3 94 (4) 95 := ⟨at_91, rfl, by decide, by decide⟩
theorem o_L_law_94 : InsA md_L_law 94 (.iconst 0) 1 95 := ⟨at_94, rfl⟩
theorem o_L_law_95 : InsA md_L_law 95 (.iadd) 1 96 := ⟨at_95, rfl⟩
theorem o_L_law_96 : InsA md_L_law 96 (.istore 8) 2 98 := ⟨at_96, rfl⟩
theorem o_L_law_98 : InsA md_L_law 98 (.aload 5) 2 100 := ⟨at_98, rfl⟩
theorem o_L_law_100 : InsA md_L_law 100 (.bipush 12) 2 102 := ⟨at_100, rfl⟩
theorem o_L_law_102 : InsA md_L_law 102 (.invokevirtual 16) 3 105 := ⟨at_102, rfl⟩
theorem o_L_law_105 : InsA md_L_law 105 (.iload 8) 2 107 := ⟨at_105, rfl⟩
theorem o_L_law_107 : InsB md_L_law 107 (.if_icmp .eq 5) 3 110 (5) 112 := ⟨at_107, rfl, by decide, by decide⟩
theorem o_L_law_110 : InsA md_L_law 110 (.iconst 0) 1 111 := ⟨at_110, rfl⟩
theorem o_L_law_111 : InsA md_L_law 111 (.ireturn) 1 112 := ⟨at_111, rfl⟩
theorem o_L_law_112 : InsA md_L_law 112 (.iload 8) 2 114 := ⟨at_112, rfl⟩
theorem o_L_law_114 : InsA md_L_law 114 (.iconst 1) 1 115 := ⟨at_114, rfl⟩
theorem o_L_law_115 : InsB md_L_law 115 (.if_icmp .ne 26) 3 118 (26) 141 := ⟨at_115, rfl, by decide, by decide⟩
theorem o_L_law_118 : InsA md_L_law 118 (.iload 6) 2 120 := ⟨at_118, rfl⟩
theorem o_L_law_120 : InsB md_L_law 120 (.ifCond .eq 7) 3 123 (7) 127 := ⟨at_120, rfl, by decide, by decide⟩
theorem o_L_law_123 : InsA md_L_law 123 (.iload_n 3) 1 124 := ⟨at_123, rfl⟩
theorem o_L_law_124 : InsB md_L_law 124 (.ifCond .eq 13) 3 127 (13) 137 := ⟨at_124, rfl, by decide, by decide⟩
theorem o_L_law_127 : InsA md_L_law 127 (.iload 7) 2 129 := ⟨at_127, rfl⟩
theorem o_L_law_129 : InsB md_L_law 129 (.ifCond .eq 12) 3 132 (12) 141 := ⟨at_129, rfl, by decide, by decide⟩
theorem o_L_law_132 : InsA md_L_law 132 (.iload 4) 2 134 := ⟨at_132, rfl⟩
theorem o_L_law_134 : InsB md_L_law 134 (.ifCond .ne 7) 3 137 (7) 141 := ⟨at_134, rfl, by decide, by decide⟩
theorem o_L_law_137 : InsA md_L_law 137 (.iconst 1) 1 138 := ⟨at_137, rfl⟩
theorem o_L_law_138 : InsB md_L_law 138 (.goto 4) 3 141 (4) 142 := ⟨at_138, rfl, by decide, by decide⟩
theorem o_L_law_141 : InsA md_L_law 141 (.iconst 0) 1 142 := ⟨at_141, rfl⟩
theorem o_L_law_142 : InsA md_L_law 142 (.istore 9) 2 144 := ⟨at_142, rfl⟩
theorem o_L_law_144 : InsA md_L_law 144 (.iload 9) 2 146 := ⟨at_144, rfl⟩
theorem o_L_law_146 : InsB md_L_law 146 (.ifCond .eq 7) 3 149 (7) 153 := ⟨at_146, rfl, by decide, by decide⟩
theorem o_L_law_149 : InsA md_L_law 149 (.iconst 0) 1 150 := ⟨at_149, rfl⟩
theorem o_L_law_150 : InsB md_L_law 150 (.goto 4) 3 153 (4) 154 := ⟨at_150, rfl, by decide, by decide⟩
theorem o_L_law_153 : InsA md_L_law 153 (.iconst (-1)) 1 154 := ⟨at_153, rfl⟩
theorem o_L_law_154 : InsA md_L_law 154 (.istore 10) 2 156 := ⟨at_154, rfl⟩
theorem o_L_law_156 : InsA md_L_law 156 (.aload 5) 2 158 := ⟨at_156, rfl⟩
theorem o_L_law_158 : InsA md_L_law 158 (.invokevirtual 20) 3 161 := ⟨at_158, rfl⟩
theorem o_L_law_161 : InsA md_L_law 161 (.iload 10) 2 163 := ⟨at_161, rfl⟩
theorem o_L_law_163 : InsB md_L_law 163 (.if_icmp .eq 5) 3 166 (5) 168 := ⟨at_163, rfl, by decide, by decide⟩
theorem o_L_law_166 : InsA md_L_law 166 (.iconst 0) 1 167 := ⟨at_166, rfl⟩
theorem o_L_law_167 : InsA md_L_law 167 (.ireturn) 1 168 := ⟨at_167, rfl⟩
theorem o_L_law_168 : InsA md_L_law 168 (.aload 5) 2 170 := ⟨at_168, rfl⟩
theorem o_L_law_170 : InsA md_L_law 170 (.invokevirtual 24) 3 173 := ⟨at_170, rfl⟩
theorem o_L_law_173 : InsA md_L_law 173 (.iload 10) 2 175 := ⟨at_173, rfl⟩
theorem o_L_law_175 : InsB md_L_law 175 (.if_icmp .eq 5) 3 178 (5) 180 := ⟨at_175, rfl, by decide, by decide⟩
theorem o_L_law_178 : InsA md_L_law 178 (.iconst 0) 1 179 := ⟨at_178, rfl⟩
theorem o_L_law_179 : InsA md_L_law 179 (.ireturn) 1 180 := ⟨at_179, rfl⟩
theorem o_L_law_180 : InsA md_L_law 180 (.aload 5) 2 182 := ⟨at_180, rfl⟩
theorem o_L_law_182 : InsA md_L_law 182 (.invokevirtual 27) 3 185 := ⟨at_182, rfl⟩
theorem o_L_law_185 : InsA md_L_law 185 (.iload 10) 2 187 := ⟨at_185, rfl⟩
theorem o_L_law_187 : InsB md_L_law 187 (.if_icmp .eq 5) 3 190 (5) 192 := ⟨at_187, rfl, by decide, by decide⟩
theorem o_L_law_190 : InsA md_L_law 190 (.iconst 0) 1 191 := ⟨at_190, rfl⟩
theorem o_L_law_191 : InsA md_L_law 191 (.ireturn) 1 192 := ⟨at_191, rfl⟩
theorem o_L_law_192 : InsA md_L_law 192 (.aload 5) 2 194 := ⟨at_192, rfl⟩
theorem o_L_law_194 : InsA md_L_law 194 (.invokevirtual 30) 3 197 := ⟨at_194, rfl⟩
theorem o_L_law_197 : InsA md_L_law 197 (.iload 10) 2 199 := ⟨at_197, rfl⟩
theorem o_L_law_199 : InsB md_L_law 199 (.if_icmp .eq 5) 3 202 (5) 204 := ⟨at_199, rfl, by decide, by decide⟩
theorem o_L_law_202 : InsA md_L_law 202 (.iconst 0) 1 203 := ⟨at_202, rfl⟩
theorem o_L_law_203 : InsA md_L_law 203 (.ireturn) 1 204 := ⟨at_203, rfl⟩
theorem o_L_law_204 : InsA md_L_law 204 (.aload 5) 2 206 := ⟨at_204, rfl⟩
theorem o_L_law_206 : InsA md_L_law 206 (.invokevirtual 33) 3 209 := ⟨at_206, rfl⟩
theorem o_L_law_209 : InsA md_L_law 209 (.aload 5) 2 211 := ⟨at_209, rfl⟩
theorem o_L_law_211 : InsA md_L_law 211 (.bipush 12) 2 213 := ⟨at_211, rfl⟩
theorem o_L_law_213 : InsA md_L_law 213 (.invokevirtual 16) 3 216 := ⟨at_213, rfl⟩
theorem o_L_law_216 : InsB md_L_law 216 (.ifCond .ne 16) 3 219 (16) 232 := ⟨at_216, rfl, by decide, by decide⟩
theorem o_L_law_219 : InsA md_L_law 219 (.aload 5) 2 221 := ⟨at_219, rfl⟩
theorem o_L_law_221 : InsA md_L_law 221 (.invokevirtual 20) 3 224 := ⟨at_221, rfl⟩
theorem o_L_law_224 : InsA md_L_law 224 (.iconst (-1)) 1 225 := ⟨at_224, rfl⟩
theorem o_L_law_225 : InsB md_L_law 225 (.if_icmp .ne 7) 3 228 (7) 232 := ⟨at_225, rfl, by decide, by decide⟩
theorem o_L_law_228 : InsA md_L_law 228 (.iconst 1) 1 229 := ⟨at_228, rfl⟩
theorem o_L_law_229 : InsB md_L_law 229 (.goto 4) 3 232 (4) 233 := ⟨at_229, rfl, by decide, by decide⟩
theorem o_L_law_232 : InsA md_L_law 232 (.iconst 0) 1 233 := ⟨at_232, rfl⟩
theorem o_L_law_233 : InsA md_L_law 233 (.ireturn) 1 234 := ⟨at_233, rfl⟩
set_option maxRecDepth 65536 in
set_option maxHeartbeats 4000000 in
theorem wp_clamp {l : Launch} {Z : State} {a0 : Array Value} (H : OK Z a0) (F : Nat → Int32) (G : Nat → Int64) (A : Nat → Int32 → Int32) (B : Nat → Int32 → Int64) (p1 : Int32) (p2 : Int32) (p3 : Int32) {Q : Option Value → WO → Prop} (h3 : ¬ p1 < p2 → ¬ p3 < p1 → Q (some (.int p1)) (16, F, G, A, B)) (h4 : ¬ p1 < p2 → p3 < p1 → Q (some (.int p3)) (16, F, G, A, B)) (h5 : p1 < p2 → Q (some (.int p2)) (16, F, G, A, B)) :
    Wk l Z (MoC Z cdC) md_clamp 0 [.val (.ref 0), .val (.int p1), .val (.int p2), .val (.int p3)] [] (16, F, G, A, B) 0 0 Q := by
  refine Wk.iloadN o_clamp_0 rfl ?_
  refine Wk.iloadN o_clamp_1 rfl ?_
  refine Wk.icmp_ge o_clamp_2 (fun q1 => ?_) (fun q1 => ?_)
  · refine Wk.iloadN o_clamp_7 rfl ?_
    refine Wk.iloadN o_clamp_8 rfl ?_
    refine Wk.icmp_le o_clamp_9 (fun q2 => ?_) (fun q2 => ?_)
    · refine Wk.iloadN o_clamp_14 rfl ?_
      exact Wk.ireturn mrC rfl o_clamp_15 rfl (by decide) (by decide) (h3 q1 q2)
    · refine Wk.iloadN o_clamp_12 rfl ?_
      exact Wk.ireturn mrC rfl o_clamp_13 rfl (by decide) (by decide) (h4 q1 q2)
  · refine Wk.iloadN o_clamp_5 rfl ?_
    exact Wk.ireturn mrC rfl o_clamp_6 rfl (by decide) (by decide) (h5 q1)

def f_clamp (p1 : Int32) (p2 : Int32) (p3 : Int32) : Int32 := (if p1 < p2 then p2 else (if p3 < p1 then p3 else p1))
theorem e_clamp (p1 : Int32) (p2 : Int32) (p3 : Int32) : f_clamp p1 p2 p3 = (if p1 < p2 then p2 else (if p3 < p1 then p3 else p1)) := Eq.trans rfl rfl
theorem run_clamp {l : Launch} {Z : State} {a0 : Array Value} (H : OK Z a0) (F : Nat → Int32) (G : Nat → Int64) (A : Nat → Int32 → Int32) (B : Nat → Int32 → Int64) (p1 : Int32) (p2 : Int32) (p3 : Int32) :
    Wk l Z (MoC Z cdC) md_clamp 0 [.val (.ref 0), .val (.int p1), .val (.int p2), .val (.int p3)] [] (16, F, G, A, B) 0 0 (fun v w' => v = some (.int (f_clamp p1 p2 p3)) ∧ w' = (16, F, G, A, B)) :=
  wp_clamp H F G A B p1 p2 p3 (fun q1 q2 => ⟨by simp only [e_clamp, if_neg q1, if_neg q2], rfl⟩) (fun q1 q2 => ⟨by simp only [e_clamp, if_neg q1, if_pos q2], rfl⟩) (fun q1 => ⟨by simp only [e_clamp, if_pos q1], rfl⟩)
set_option maxRecDepth 65536 in
set_option maxHeartbeats 4000000 in
theorem wp_clearTrees {l : Launch} {Z : State} {a0 : Array Value} (H : OK Z a0) (F : Nat → Int32) (G : Nat → Int64) (A : Nat → Int32 → Int32) (B : Nat → Int32 → Int64) {Q : Option Value → WO → Prop} (h1 : Wk l Z (MoC Z cdC) md_clearTrees 2 [.val (.ref 0), .val (.int (0 : Int32))] [] (16, F, G, A, B) 0 0 Q) :
    Wk l Z (MoC Z cdC) md_clearTrees 0 [.val (.ref 0), .unset] [] (16, F, G, A, B) 0 0 Q := by
  refine Wk.iconst o_clearTrees_0 (z := (0 : Int32)) (by decide) ?_
  refine Wk.istoreN o_clearTrees_1 (Or.inl rfl) (L' := [.val (.ref 0), .val (.int (0 : Int32))]) rfl ?_
  exact h1

set_option maxRecDepth 65536 in
set_option maxHeartbeats 4000000 in
theorem wp_clearTrees_2 {l : Launch} {Z : State} {a0 : Array Value} (H : OK Z a0) (F : Nat → Int32) (G : Nat → Int64) (A : Nat → Int32 → Int32) (B : Nat → Int32 → Int64) (v1 : Int32) {Q : Option Value → WO → Prop} (h2 : ¬ v1 < (32 : Int32) → Q none (16, (ups (ups F 12 (1 : Int32)) 13 (1 : Int32)), G, A, B)) (s3 : v1 < (32 : Int32) → ¬ v1 < 0) (h4 : v1 < (32 : Int32) → Wk l Z (MoC Z cdC) md_clearTrees 2 [.val (.ref 0), .val (.int (v1 + (1 : Int32)))] [] (16, F, G, (ups (ups (ups (ups (ups (ups (ups (ups A 7 (ups (A 7) v1 (-1 : Int32))) 8 (ups (A 8) v1 (0 : Int32))) 9 (ups (A 9) v1 (0 : Int32))) 10 (ups (A 10) v1 (0 : Int32))) 11 (ups (A 11) v1 (0 : Int32))) 12 (ups (A 12) v1 (-1 : Int32))) 13 (ups (A 13) v1 (0 : Int32))) 14 (ups (A 14) v1 (0 : Int32))), B) 0 0 Q) :
    Wk l Z (MoC Z cdC) md_clearTrees 2 [.val (.ref 0), .val (.int v1)] [] (16, F, G, A, B) 0 0 Q := by
  refine Wk.iloadN o_clearTrees_2 rfl ?_
  refine Wk.bipush o_clearTrees_3 (z := (32 : Int32)) (by decide) ?_
  refine Wk.icmp_ge o_clearTrees_5 (fun q1 => ?_) (fun q1 => ?_)
  · refine Wk.aloadN o_clearTrees_70 rfl ?_
    refine Wk.iconst o_clearTrees_71 (z := (1 : Int32)) (by decide) ?_
    refine Wk.putI (coC H) (mI_iCount) (wf_iCount H) (Or.inl (wy_iCount H)) o_clearTrees_72 ?_
    refine Wk.aloadN o_clearTrees_75 rfl ?_
    refine Wk.iconst o_clearTrees_76 (z := (1 : Int32)) (by decide) ?_
    refine Wk.putI (coC H) (mI_sCount) (wf_sCount H) (Or.inl (wy_sCount H)) o_clearTrees_77 ?_
    exact Wk.ret mrC rfl o_clearTrees_80 rfl (by decide) (by decide) (h2 q1)
  · refine Wk.aloadN o_clearTrees_8 rfl ?_
    refine Wk.getA (mA_iParent) (by decide) (i' := 8) rfl (wf_iParent H) o_clearTrees_9 ?_
    refine Wk.iloadN o_clearTrees_12 rfl ?_
    refine Wk.iconst o_clearTrees_13 (z := (-1 : Int32)) (by decide) ?_
    refine Wk.iastore (coC H) (f := (A 7)) (mA_iParent) rfl (by decide) (i' := 8) rfl (s3 q1) q1 o_clearTrees_14 ?_
    refine Wk.aloadN o_clearTrees_15 rfl ?_
    refine Wk.getA (mA_iFunc) (by decide) (i' := 9) rfl (wf_iFunc H) o_clearTrees_16 ?_
    refine Wk.iloadN o_clearTrees_19 rfl ?_
    refine Wk.iconst o_clearTrees_20 (z := (0 : Int32)) (by decide) ?_
    refine Wk.iastore (coC H) (f := (A 8)) (mA_iFunc) rfl (by decide) (i' := 9) rfl (s3 q1) q1 o_clearTrees_21 ?_
    refine Wk.aloadN o_clearTrees_22 rfl ?_
    refine Wk.getA (mA_iSelf) (by decide) (i' := 10) rfl (wf_iSelf H) o_clearTrees_23 ?_
    refine Wk.iloadN o_clearTrees_26 rfl ?_
    refine Wk.iconst o_clearTrees_27 (z := (0 : Int32)) (by decide) ?_
    refine Wk.iastore (coC H) (f := (A 9)) (mA_iSelf) rfl (by decide) (i' := 10) rfl (s3 q1) q1 o_clearTrees_28 ?_
    refine Wk.aloadN o_clearTrees_29 rfl ?_
    refine Wk.getA (mA_iIncl) (by decide) (i' := 11) rfl (wf_iIncl H) o_clearTrees_30 ?_
    refine Wk.iloadN o_clearTrees_33 rfl ?_
    refine Wk.iconst o_clearTrees_34 (z := (0 : Int32)) (by decide) ?_
    refine Wk.iastore (coC H) (f := (A 10)) (mA_iIncl) rfl (by decide) (i' := 11) rfl (s3 q1) q1 o_clearTrees_35 ?_
    refine Wk.aloadN o_clearTrees_36 rfl ?_
    refine Wk.getA (mA_iLost) (by decide) (i' := 12) rfl (wf_iLost H) o_clearTrees_37 ?_
    refine Wk.iloadN o_clearTrees_40 rfl ?_
    refine Wk.iconst o_clearTrees_41 (z := (0 : Int32)) (by decide) ?_
    refine Wk.iastore (coC H) (f := (A 11)) (mA_iLost) rfl (by decide) (i' := 12) rfl (s3 q1) q1 o_clearTrees_42 ?_
    refine Wk.aloadN o_clearTrees_43 rfl ?_
    refine Wk.getA (mA_sParent) (by decide) (i' := 13) rfl (wf_sParent H) o_clearTrees_44 ?_
    refine Wk.iloadN o_clearTrees_47 rfl ?_
    refine Wk.iconst o_clearTrees_48 (z := (-1 : Int32)) (by decide) ?_
    refine Wk.iastore (coC H) (f := (A 12)) (mA_sParent) rfl (by decide) (i' := 13) rfl (s3 q1) q1 o_clearTrees_49 ?_
    refine Wk.aloadN o_clearTrees_50 rfl ?_
    refine Wk.getA (mA_sFunc) (by decide) (i' := 14) rfl (wf_sFunc H) o_clearTrees_51 ?_
    refine Wk.iloadN o_clearTrees_54 rfl ?_
    refine Wk.iconst o_clearTrees_55 (z := (0 : Int32)) (by decide) ?_
    refine Wk.iastore (coC H) (f := (A 13)) (mA_sFunc) rfl (by decide) (i' := 14) rfl (s3 q1) q1 o_clearTrees_56 ?_
    refine Wk.aloadN o_clearTrees_57 rfl ?_
    refine Wk.getA (mA_sSelf) (by decide) (i' := 15) rfl (wf_sSelf H) o_clearTrees_58 ?_
    refine Wk.iloadN o_clearTrees_61 rfl ?_
    refine Wk.iconst o_clearTrees_62 (z := (0 : Int32)) (by decide) ?_
    refine Wk.iastore (coC H) (f := (A 14)) (mA_sSelf) rfl (by decide) (i' := 15) rfl (s3 q1) q1 o_clearTrees_63 ?_
    refine Wk.iinc o_clearTrees_64 rfl (z := (v1 + (1 : Int32))) rfl (L' := [.val (.ref 0), .val (.int (v1 + (1 : Int32)))]) rfl ?_
    refine Wk.goto o_clearTrees_67 ?_
    exact (h4 q1)

set_option maxHeartbeats 2000000 in
theorem fl_clearTrees_2 {l : Launch} {Z : State} {a0 : Array Value} (H : OK Z a0) (F : Nat → Int32) (G : Nat → Int64) (A : Nat → Int32 → Int32) (B : Nat → Int32 → Int64) {Q : Option Value → WO → Prop} (hx : Q none (16, (ups (ups F 12 (1 : Int32)) 13 (1 : Int32)), G, (ups (ups (ups (ups (ups (ups (ups (ups A 7 (fill (A 7) 32 (-1 : Int32))) 8 (fill (A 8) 32 (0 : Int32))) 9 (fill (A 9) 32 (0 : Int32))) 10 (fill (A 10) 32 (0 : Int32))) 11 (fill (A 11) 32 (0 : Int32))) 12 (fill (A 12) 32 (-1 : Int32))) 13 (fill (A 13) 32 (0 : Int32))) 14 (fill (A 14) 32 (0 : Int32))), B)) :
    Wk l Z (MoC Z cdC) md_clearTrees 2 [.val (.ref 0), .val (.int (0 : Int32))] [] (16, F, G, A, B) 0 0 Q := by
  have key := loopUp (n := 32) (P := fun i => Wk l Z (MoC Z cdC) md_clearTrees 2 [.val (.ref 0), .val (.int i)] [] (16, F, G, (ups (ups (ups (ups (ups (ups (ups (ups A 7 (fill (A 7) i (-1 : Int32))) 8 (fill (A 8) i (0 : Int32))) 9 (fill (A 9) i (0 : Int32))) 10 (fill (A 10) i (0 : Int32))) 11 (fill (A 11) i (0 : Int32))) 12 (fill (A 12) i (-1 : Int32))) 13 (fill (A 13) i (0 : Int32))) 14 (fill (A 14) i (0 : Int32))), B) 0 0 Q)
    (wp_clearTrees_2 H F G (ups (ups (ups (ups (ups (ups (ups (ups A 7 (fill (A 7) 32 (-1 : Int32))) 8 (fill (A 8) 32 (0 : Int32))) 9 (fill (A 9) 32 (0 : Int32))) 10 (fill (A 10) 32 (0 : Int32))) 11 (fill (A 11) 32 (0 : Int32))) 12 (fill (A 12) 32 (-1 : Int32))) 13 (fill (A 13) 32 (0 : Int32))) 14 (fill (A 14) 32 (0 : Int32))) B 32 (fun _ => hx) (fun h => absurd h (by decide)) (fun h => absurd h (by decide)))
    (fun i h0 h1 ih => by
      have e : ∀ A' : Nat → Int32 → Int32, A' = (ups (ups (ups (ups (ups (ups (ups (ups A 7 (fill (A 7) (i + 1) (-1 : Int32))) 8 (fill (A 8) (i + 1) (0 : Int32))) 9 (fill (A 9) (i + 1) (0 : Int32))) 10 (fill (A 10) (i + 1) (0 : Int32))) 11 (fill (A 11) (i + 1) (0 : Int32))) 12 (fill (A 12) (i + 1) (-1 : Int32))) 13 (fill (A 13) (i + 1) (0 : Int32))) 14 (fill (A 14) (i + 1) (0 : Int32))) → Wk l Z (MoC Z cdC) md_clearTrees 2 [.val (.ref 0), .val (.int (i + 1))] [] (16, F, G, A', B) 0 0 Q := fun A' e => by subst e; exact ih
      exact wp_clearTrees_2 H F G (ups (ups (ups (ups (ups (ups (ups (ups A 7 (fill (A 7) i (-1 : Int32))) 8 (fill (A 8) i (0 : Int32))) 9 (fill (A 9) i (0 : Int32))) 10 (fill (A 10) i (0 : Int32))) 11 (fill (A 11) i (0 : Int32))) 12 (fill (A 12) i (-1 : Int32))) 13 (fill (A 13) i (0 : Int32))) 14 (fill (A 14) i (0 : Int32))) B i (fun h => absurd h1 h) (fun _ => by first | exact h0 | grind) (fun _ => e _ (by funext j x; simp only [ups, ← fill_succ _ _ h0 h1]; (repeat' split) <;> first | rfl | simp_all))) 0 (by decide) (by decide)
  simp only [fill_zero, ups_self] at key
  exact key
def F_clearTrees (F : Nat → Int32) : Nat → Int32 := (ups (ups F 12 (1 : Int32)) 13 (1 : Int32))
def A_clearTrees (A : Nat → Int32 → Int32) : Nat → Int32 → Int32 := (ups (ups (ups (ups (ups (ups (ups (ups A 7 (fill (A 7) 32 (-1 : Int32))) 8 (fill (A 8) 32 (0 : Int32))) 9 (fill (A 9) 32 (0 : Int32))) 10 (fill (A 10) 32 (0 : Int32))) 11 (fill (A 11) 32 (0 : Int32))) 12 (fill (A 12) 32 (-1 : Int32))) 13 (fill (A 13) 32 (0 : Int32))) 14 (fill (A 14) 32 (0 : Int32)))
theorem eF_clearTrees (F : Nat → Int32) : F_clearTrees F = (ups (ups F 12 (1 : Int32)) 13 (1 : Int32)) := Eq.trans rfl rfl
theorem eA_clearTrees (A : Nat → Int32 → Int32) : A_clearTrees A = (ups (ups (ups (ups (ups (ups (ups (ups A 7 (fill (A 7) 32 (-1 : Int32))) 8 (fill (A 8) 32 (0 : Int32))) 9 (fill (A 9) 32 (0 : Int32))) 10 (fill (A 10) 32 (0 : Int32))) 11 (fill (A 11) 32 (0 : Int32))) 12 (fill (A 12) 32 (-1 : Int32))) 13 (fill (A 13) 32 (0 : Int32))) 14 (fill (A 14) 32 (0 : Int32))) := Eq.trans rfl rfl
theorem run_clearTrees {l : Launch} {Z : State} {a0 : Array Value} (H : OK Z a0) (F : Nat → Int32) (G : Nat → Int64) (A : Nat → Int32 → Int32) (B : Nat → Int32 → Int64) : Wk l Z (MoC Z cdC) md_clearTrees 0 [.val (.ref 0), .unset] [] (16, F, G, A, B) 0 0 (fun v w' => v = none ∧ w' = (16, (F_clearTrees F), G, (A_clearTrees A), B)) :=
  wp_clearTrees H F G A B (fl_clearTrees_2 H F G A B ⟨rfl, rfl⟩)
theorem F_clearTrees_0 (F : Nat → Int32) : F_clearTrees F 0 = (F 0) := Eq.trans rfl rfl
theorem F_clearTrees_1 (F : Nat → Int32) : F_clearTrees F 1 = (F 1) := Eq.trans rfl rfl
theorem F_clearTrees_2 (F : Nat → Int32) : F_clearTrees F 2 = (F 2) := Eq.trans rfl rfl
theorem F_clearTrees_3 (F : Nat → Int32) : F_clearTrees F 3 = (F 3) := Eq.trans rfl rfl
theorem F_clearTrees_4 (F : Nat → Int32) : F_clearTrees F 4 = (F 4) := Eq.trans rfl rfl
theorem F_clearTrees_5 (F : Nat → Int32) : F_clearTrees F 5 = (F 5) := Eq.trans rfl rfl
theorem F_clearTrees_6 (F : Nat → Int32) : F_clearTrees F 6 = (F 6) := Eq.trans rfl rfl
theorem F_clearTrees_7 (F : Nat → Int32) : F_clearTrees F 7 = (F 7) := Eq.trans rfl rfl
theorem F_clearTrees_8 (F : Nat → Int32) : F_clearTrees F 8 = (F 8) := Eq.trans rfl rfl
theorem F_clearTrees_9 (F : Nat → Int32) : F_clearTrees F 9 = (F 9) := Eq.trans rfl rfl
theorem F_clearTrees_10 (F : Nat → Int32) : F_clearTrees F 10 = (F 10) := Eq.trans rfl rfl
theorem F_clearTrees_11 (F : Nat → Int32) : F_clearTrees F 11 = (F 11) := Eq.trans rfl rfl
theorem F_clearTrees_12 (F : Nat → Int32) : F_clearTrees F 12 = (1 : Int32) := Eq.trans rfl rfl
theorem F_clearTrees_13 (F : Nat → Int32) : F_clearTrees F 13 = (1 : Int32) := Eq.trans rfl rfl
set_option maxRecDepth 65536 in
set_option maxHeartbeats 4000000 in
theorem wp_reset {l : Launch} {Z : State} {a0 : Array Value} (H : OK Z a0) (F : Nat → Int32) (G : Nat → Int64) (A : Nat → Int32 → Int32) (B : Nat → Int32 → Int64) {Q : Option Value → WO → Prop} (h1 : Wk l Z (MoC Z cdC) md_reset 47 [.val (.ref 0), .val (.int (0 : Int32))] [] (16, (ups (ups (ups (ups (ups (ups (ups (ups (ups F 3 (0 : Int32)) 4 (0 : Int32)) 5 (0 : Int32)) 6 (0 : Int32)) 7 (0 : Int32)) 8 (0 : Int32)) 9 (0 : Int32)) 10 (0 : Int32)) 11 (0 : Int32)), G, A, B) 0 0 Q) :
    Wk l Z (MoC Z cdC) md_reset 0 [.val (.ref 0), .unset] [] (16, F, G, A, B) 0 0 Q := by
  refine Wk.aloadN o_reset_0 rfl ?_
  refine Wk.iconst o_reset_1 (z := (0 : Int32)) (by decide) ?_
  refine Wk.putI (coC H) (mI_status) (wf_status H) (Or.inl (wy_status H)) o_reset_2 ?_
  refine Wk.aloadN o_reset_5 rfl ?_
  refine Wk.iconst o_reset_6 (z := (0 : Int32)) (by decide) ?_
  refine Wk.putI (coC H) (mI_codeSize) (wf_codeSize H) (Or.inl (wy_codeSize H)) o_reset_7 ?_
  refine Wk.aloadN o_reset_10 rfl ?_
  refine Wk.iconst o_reset_11 (z := (0 : Int32)) (by decide) ?_
  refine Wk.putI (coC H) (mI_pc) (wf_pc H) (Or.inl (wy_pc H)) o_reset_12 ?_
  refine Wk.aloadN o_reset_15 rfl ?_
  refine Wk.iconst o_reset_16 (z := (0 : Int32)) (by decide) ?_
  refine Wk.putI (coC H) (mI_sp) (wf_sp H) (Or.inl (wy_sp H)) o_reset_17 ?_
  refine Wk.aloadN o_reset_20 rfl ?_
  refine Wk.iconst o_reset_21 (z := (0 : Int32)) (by decide) ?_
  refine Wk.putI (coC H) (mI_depth) (wf_depth H) (Or.inl (wy_depth H)) o_reset_22 ?_
  refine Wk.aloadN o_reset_25 rfl ?_
  refine Wk.iconst o_reset_26 (z := (0 : Int32)) (by decide) ?_
  refine Wk.putI (coC H) (mI_executed) (wf_executed H) (Or.inl (wy_executed H)) o_reset_27 ?_
  refine Wk.aloadN o_reset_30 rfl ?_
  refine Wk.iconst o_reset_31 (z := (0 : Int32)) (by decide) ?_
  refine Wk.putI (coC H) (mI_overflow) (wf_overflow H) (Or.inl (wy_overflow H)) o_reset_32 ?_
  refine Wk.aloadN o_reset_35 rfl ?_
  refine Wk.iconst o_reset_36 (z := (0 : Int32)) (by decide) ?_
  refine Wk.putI (coC H) (mI_sampledOverflow) (wf_sampledOverflow H) (Or.inl (wy_sampledOverflow H)) o_reset_37 ?_
  refine Wk.aloadN o_reset_40 rfl ?_
  refine Wk.iconst o_reset_41 (z := (0 : Int32)) (by decide) ?_
  refine Wk.putI (coC H) (mI_qLen) (wf_qLen H) (Or.inl (wy_qLen H)) o_reset_42 ?_
  refine Wk.iconst o_reset_45 (z := (0 : Int32)) (by decide) ?_
  refine Wk.istoreN o_reset_46 (Or.inl rfl) (L' := [.val (.ref 0), .val (.int (0 : Int32))]) rfl ?_
  exact h1

set_option maxRecDepth 65536 in
set_option maxHeartbeats 4000000 in
theorem wp_reset_47 {l : Launch} {Z : State} {a0 : Array Value} (H : OK Z a0) (F : Nat → Int32) (G : Nat → Int64) (A : Nat → Int32 → Int32) (B : Nat → Int32 → Int64) (v1 : Int32) {Q : Option Value → WO → Prop} (h2 : ¬ v1 < (64 : Int32) → Wk l Z (MoC Z cdC) md_reset 75 [.val (.ref 0), .val (.int (0 : Int32))] [] (16, F, G, A, B) 0 0 Q) (s3 : v1 < (64 : Int32) → ¬ v1 < 0) (h4 : v1 < (64 : Int32) → Wk l Z (MoC Z cdC) md_reset 47 [.val (.ref 0), .val (.int (v1 + (1 : Int32)))] [] (16, F, G, (ups (ups A 0 (ups (A 0) v1 (0 : Int32))) 1 (ups (A 1) v1 (0 : Int32))), B) 0 0 Q) :
    Wk l Z (MoC Z cdC) md_reset 47 [.val (.ref 0), .val (.int v1)] [] (16, F, G, A, B) 0 0 Q := by
  refine Wk.iloadN o_reset_47 rfl ?_
  refine Wk.bipush o_reset_48 (z := (64 : Int32)) (by decide) ?_
  refine Wk.icmp_ge o_reset_50 (fun q1 => ?_) (fun q1 => ?_)
  · refine Wk.iconst o_reset_73 (z := (0 : Int32)) (by decide) ?_
    refine Wk.istoreN o_reset_74 (Or.inr ⟨_, rfl, rfl⟩) (L' := [.val (.ref 0), .val (.int (0 : Int32))]) rfl ?_
    exact (h2 q1)
  · refine Wk.aloadN o_reset_53 rfl ?_
    refine Wk.getA (mA_ops) (by decide) (i' := 1) rfl (wf_ops H) o_reset_54 ?_
    refine Wk.iloadN o_reset_57 rfl ?_
    refine Wk.iconst o_reset_58 (z := (0 : Int32)) (by decide) ?_
    refine Wk.iastore (coC H) (f := (A 0)) (mA_ops) rfl (by decide) (i' := 1) rfl (s3 q1) q1 o_reset_59 ?_
    refine Wk.aloadN o_reset_60 rfl ?_
    refine Wk.getA (mA_args) (by decide) (i' := 2) rfl (wf_args H) o_reset_61 ?_
    refine Wk.iloadN o_reset_64 rfl ?_
    refine Wk.iconst o_reset_65 (z := (0 : Int32)) (by decide) ?_
    refine Wk.iastore (coC H) (f := (A 1)) (mA_args) rfl (by decide) (i' := 2) rfl (s3 q1) q1 o_reset_66 ?_
    refine Wk.iinc o_reset_67 rfl (z := (v1 + (1 : Int32))) rfl (L' := [.val (.ref 0), .val (.int (v1 + (1 : Int32)))]) rfl ?_
    refine Wk.goto o_reset_70 ?_
    exact (h4 q1)

set_option maxRecDepth 65536 in
set_option maxHeartbeats 4000000 in
theorem wp_reset_75 {l : Launch} {Z : State} {a0 : Array Value} (H : OK Z a0) (F : Nat → Int32) (G : Nat → Int64) (A : Nat → Int32 → Int32) (B : Nat → Int32 → Int64) (v1 : Int32) {Q : Option Value → WO → Prop} (h2 : ¬ v1 < (8 : Int32) → Wk l Z (MoC Z cdC) md_reset 96 [.val (.ref 0), .val (.int (0 : Int32))] [] (16, F, G, A, B) 0 0 Q) (s3 : v1 < (8 : Int32) → ¬ v1 < 0) (h4 : v1 < (8 : Int32) → Wk l Z (MoC Z cdC) md_reset 75 [.val (.ref 0), .val (.int (v1 + (1 : Int32)))] [] (16, F, G, (ups A 2 (ups (A 2) v1 (-1 : Int32))), B) 0 0 Q) :
    Wk l Z (MoC Z cdC) md_reset 75 [.val (.ref 0), .val (.int v1)] [] (16, F, G, A, B) 0 0 Q := by
  refine Wk.iloadN o_reset_75 rfl ?_
  refine Wk.bipush o_reset_76 (z := (8 : Int32)) (by decide) ?_
  refine Wk.icmp_ge o_reset_78 (fun q1 => ?_) (fun q1 => ?_)
  · refine Wk.iconst o_reset_94 (z := (0 : Int32)) (by decide) ?_
    refine Wk.istoreN o_reset_95 (Or.inr ⟨_, rfl, rfl⟩) (L' := [.val (.ref 0), .val (.int (0 : Int32))]) rfl ?_
    exact (h2 q1)
  · refine Wk.aloadN o_reset_81 rfl ?_
    refine Wk.getA (mA_entries) (by decide) (i' := 3) rfl (wf_entries H) o_reset_82 ?_
    refine Wk.iloadN o_reset_85 rfl ?_
    refine Wk.iconst o_reset_86 (z := (-1 : Int32)) (by decide) ?_
    refine Wk.iastore (coC H) (f := (A 2)) (mA_entries) rfl (by decide) (i' := 3) rfl (s3 q1) q1 o_reset_87 ?_
    refine Wk.iinc o_reset_88 rfl (z := (v1 + (1 : Int32))) rfl (L' := [.val (.ref 0), .val (.int (v1 + (1 : Int32)))]) rfl ?_
    refine Wk.goto o_reset_91 ?_
    exact (h4 q1)

set_option maxRecDepth 65536 in
set_option maxHeartbeats 4000000 in
theorem wp_reset_96 {l : Launch} {Z : State} {a0 : Array Value} (H : OK Z a0) (F : Nat → Int32) (G : Nat → Int64) (A : Nat → Int32 → Int32) (B : Nat → Int32 → Int64) (v1 : Int32) {Q : Option Value → WO → Prop} (h2 : ¬ v1 < (16 : Int32) → Q none (16, (F_clearTrees F), G, (A_clearTrees A), B)) (s3 : v1 < (16 : Int32) → ¬ v1 < 0) (h4 : v1 < (16 : Int32) → Wk l Z (MoC Z cdC) md_reset 96 [.val (.ref 0), .val (.int (v1 + (1 : Int32)))] [] (16, F, G, (ups (ups (ups (ups (ups A 3 (ups (A 3) v1 (0 : Int32))) 4 (ups (A 4) v1 (0 : Int32))) 5 (ups (A 5) v1 (0 : Int32))) 6 (ups (A 6) v1 (-1 : Int32))) 15 (ups (A 15) v1 (0 : Int32))), B) 0 0 Q) :
    Wk l Z (MoC Z cdC) md_reset 96 [.val (.ref 0), .val (.int v1)] [] (16, F, G, A, B) 0 0 Q := by
  refine Wk.iloadN o_reset_96 rfl ?_
  refine Wk.bipush o_reset_97 (z := (16 : Int32)) (by decide) ?_
  refine Wk.icmp_ge o_reset_99 (fun q1 => ?_) (fun q1 => ?_)
  · refine Wk.aloadN o_reset_143 rfl ?_
    refine Wk.callU [] [] (H.w 75 rfl) (cv_clearTrees H) o_reset_144 (run_clearTrees H F G A B) (wt := 0) (cu' := 0) (su' := 0) (by decide) rfl rfl rfl rfl rfl rfl rfl ?_
    exact Wk.ret mrC rfl o_reset_147 rfl (by decide) (by decide) (h2 q1)
  · refine Wk.aloadN o_reset_102 rfl ?_
    refine Wk.getA (mA_stack) (by decide) (i' := 4) rfl (wf_stack H) o_reset_103 ?_
    refine Wk.iloadN o_reset_106 rfl ?_
    refine Wk.iconst o_reset_107 (z := (0 : Int32)) (by decide) ?_
    refine Wk.iastore (coC H) (f := (A 3)) (mA_stack) rfl (by decide) (i' := 4) rfl (s3 q1) q1 o_reset_108 ?_
    refine Wk.aloadN o_reset_109 rfl ?_
    refine Wk.getA (mA_frameFunc) (by decide) (i' := 5) rfl (wf_frameFunc H) o_reset_110 ?_
    refine Wk.iloadN o_reset_113 rfl ?_
    refine Wk.iconst o_reset_114 (z := (0 : Int32)) (by decide) ?_
    refine Wk.iastore (coC H) (f := (A 4)) (mA_frameFunc) rfl (by decide) (i' := 5) rfl (s3 q1) q1 o_reset_115 ?_
    refine Wk.aloadN o_reset_116 rfl ?_
    refine Wk.getA (mA_frameRet) (by decide) (i' := 6) rfl (wf_frameRet H) o_reset_117 ?_
    refine Wk.iloadN o_reset_120 rfl ?_
    refine Wk.iconst o_reset_121 (z := (0 : Int32)) (by decide) ?_
    refine Wk.iastore (coC H) (f := (A 5)) (mA_frameRet) rfl (by decide) (i' := 6) rfl (s3 q1) q1 o_reset_122 ?_
    refine Wk.aloadN o_reset_123 rfl ?_
    refine Wk.getA (mA_frameNode) (by decide) (i' := 7) rfl (wf_frameNode H) o_reset_124 ?_
    refine Wk.iloadN o_reset_127 rfl ?_
    refine Wk.iconst o_reset_128 (z := (-1 : Int32)) (by decide) ?_
    refine Wk.iastore (coC H) (f := (A 6)) (mA_frameNode) rfl (by decide) (i' := 7) rfl (s3 q1) q1 o_reset_129 ?_
    refine Wk.aloadN o_reset_130 rfl ?_
    refine Wk.getA (mA_query) (by decide) (i' := 16) rfl (wf_query H) o_reset_131 ?_
    refine Wk.iloadN o_reset_134 rfl ?_
    refine Wk.iconst o_reset_135 (z := (0 : Int32)) (by decide) ?_
    refine Wk.iastore (coC H) (f := (A 15)) (mA_query) rfl (by decide) (i' := 16) rfl (s3 q1) q1 o_reset_136 ?_
    refine Wk.iinc o_reset_137 rfl (z := (v1 + (1 : Int32))) rfl (L' := [.val (.ref 0), .val (.int (v1 + (1 : Int32)))]) rfl ?_
    refine Wk.goto o_reset_140 ?_
    exact (h4 q1)

set_option maxHeartbeats 2000000 in
theorem fl_reset_96 {l : Launch} {Z : State} {a0 : Array Value} (H : OK Z a0) (F : Nat → Int32) (G : Nat → Int64) (A : Nat → Int32 → Int32) (B : Nat → Int32 → Int64) {Q : Option Value → WO → Prop} (hx : Q none (16, (F_clearTrees F), G, (A_clearTrees (ups (ups (ups (ups (ups A 3 (fill (A 3) 16 (0 : Int32))) 4 (fill (A 4) 16 (0 : Int32))) 5 (fill (A 5) 16 (0 : Int32))) 6 (fill (A 6) 16 (-1 : Int32))) 15 (fill (A 15) 16 (0 : Int32)))), B)) :
    Wk l Z (MoC Z cdC) md_reset 96 [.val (.ref 0), .val (.int (0 : Int32))] [] (16, F, G, A, B) 0 0 Q := by
  have key := loopUp (n := 16) (P := fun i => Wk l Z (MoC Z cdC) md_reset 96 [.val (.ref 0), .val (.int i)] [] (16, F, G, (ups (ups (ups (ups (ups A 3 (fill (A 3) i (0 : Int32))) 4 (fill (A 4) i (0 : Int32))) 5 (fill (A 5) i (0 : Int32))) 6 (fill (A 6) i (-1 : Int32))) 15 (fill (A 15) i (0 : Int32))), B) 0 0 Q)
    (wp_reset_96 H F G (ups (ups (ups (ups (ups A 3 (fill (A 3) 16 (0 : Int32))) 4 (fill (A 4) 16 (0 : Int32))) 5 (fill (A 5) 16 (0 : Int32))) 6 (fill (A 6) 16 (-1 : Int32))) 15 (fill (A 15) 16 (0 : Int32))) B 16 (fun _ => hx) (fun h => absurd h (by decide)) (fun h => absurd h (by decide)))
    (fun i h0 h1 ih => by
      have e : ∀ A' : Nat → Int32 → Int32, A' = (ups (ups (ups (ups (ups A 3 (fill (A 3) (i + 1) (0 : Int32))) 4 (fill (A 4) (i + 1) (0 : Int32))) 5 (fill (A 5) (i + 1) (0 : Int32))) 6 (fill (A 6) (i + 1) (-1 : Int32))) 15 (fill (A 15) (i + 1) (0 : Int32))) → Wk l Z (MoC Z cdC) md_reset 96 [.val (.ref 0), .val (.int (i + 1))] [] (16, F, G, A', B) 0 0 Q := fun A' e => by subst e; exact ih
      exact wp_reset_96 H F G (ups (ups (ups (ups (ups A 3 (fill (A 3) i (0 : Int32))) 4 (fill (A 4) i (0 : Int32))) 5 (fill (A 5) i (0 : Int32))) 6 (fill (A 6) i (-1 : Int32))) 15 (fill (A 15) i (0 : Int32))) B i (fun h => absurd h1 h) (fun _ => by first | exact h0 | grind) (fun _ => e _ (by funext j x; simp only [ups, ← fill_succ _ _ h0 h1]; (repeat' split) <;> first | rfl | simp_all))) 0 (by decide) (by decide)
  simp only [fill_zero, ups_self] at key
  exact key
set_option maxHeartbeats 2000000 in
theorem fl_reset_75 {l : Launch} {Z : State} {a0 : Array Value} (H : OK Z a0) (F : Nat → Int32) (G : Nat → Int64) (A : Nat → Int32 → Int32) (B : Nat → Int32 → Int64) {Q : Option Value → WO → Prop} (hx : Wk l Z (MoC Z cdC) md_reset 96 [.val (.ref 0), .val (.int (0 : Int32))] [] (16, F, G, (ups A 2 (fill (A 2) 8 (-1 : Int32))), B) 0 0 Q) :
    Wk l Z (MoC Z cdC) md_reset 75 [.val (.ref 0), .val (.int (0 : Int32))] [] (16, F, G, A, B) 0 0 Q := by
  have key := loopUp (n := 8) (P := fun i => Wk l Z (MoC Z cdC) md_reset 75 [.val (.ref 0), .val (.int i)] [] (16, F, G, (ups A 2 (fill (A 2) i (-1 : Int32))), B) 0 0 Q)
    (wp_reset_75 H F G (ups A 2 (fill (A 2) 8 (-1 : Int32))) B 8 (fun _ => hx) (fun h => absurd h (by decide)) (fun h => absurd h (by decide)))
    (fun i h0 h1 ih => by
      have e : ∀ A' : Nat → Int32 → Int32, A' = (ups A 2 (fill (A 2) (i + 1) (-1 : Int32))) → Wk l Z (MoC Z cdC) md_reset 75 [.val (.ref 0), .val (.int (i + 1))] [] (16, F, G, A', B) 0 0 Q := fun A' e => by subst e; exact ih
      exact wp_reset_75 H F G (ups A 2 (fill (A 2) i (-1 : Int32))) B i (fun h => absurd h1 h) (fun _ => by first | exact h0 | grind) (fun _ => e _ (by funext j x; simp only [ups, ← fill_succ _ _ h0 h1]; (repeat' split) <;> first | rfl | simp_all))) 0 (by decide) (by decide)
  simp only [fill_zero, ups_self] at key
  exact key
set_option maxHeartbeats 2000000 in
theorem fl_reset_47 {l : Launch} {Z : State} {a0 : Array Value} (H : OK Z a0) (F : Nat → Int32) (G : Nat → Int64) (A : Nat → Int32 → Int32) (B : Nat → Int32 → Int64) {Q : Option Value → WO → Prop} (hx : Wk l Z (MoC Z cdC) md_reset 75 [.val (.ref 0), .val (.int (0 : Int32))] [] (16, F, G, (ups (ups A 0 (fill (A 0) 64 (0 : Int32))) 1 (fill (A 1) 64 (0 : Int32))), B) 0 0 Q) :
    Wk l Z (MoC Z cdC) md_reset 47 [.val (.ref 0), .val (.int (0 : Int32))] [] (16, F, G, A, B) 0 0 Q := by
  have key := loopUp (n := 64) (P := fun i => Wk l Z (MoC Z cdC) md_reset 47 [.val (.ref 0), .val (.int i)] [] (16, F, G, (ups (ups A 0 (fill (A 0) i (0 : Int32))) 1 (fill (A 1) i (0 : Int32))), B) 0 0 Q)
    (wp_reset_47 H F G (ups (ups A 0 (fill (A 0) 64 (0 : Int32))) 1 (fill (A 1) 64 (0 : Int32))) B 64 (fun _ => hx) (fun h => absurd h (by decide)) (fun h => absurd h (by decide)))
    (fun i h0 h1 ih => by
      have e : ∀ A' : Nat → Int32 → Int32, A' = (ups (ups A 0 (fill (A 0) (i + 1) (0 : Int32))) 1 (fill (A 1) (i + 1) (0 : Int32))) → Wk l Z (MoC Z cdC) md_reset 47 [.val (.ref 0), .val (.int (i + 1))] [] (16, F, G, A', B) 0 0 Q := fun A' e => by subst e; exact ih
      exact wp_reset_47 H F G (ups (ups A 0 (fill (A 0) i (0 : Int32))) 1 (fill (A 1) i (0 : Int32))) B i (fun h => absurd h1 h) (fun _ => by first | exact h0 | grind) (fun _ => e _ (by funext j x; simp only [ups, ← fill_succ _ _ h0 h1]; (repeat' split) <;> first | rfl | simp_all))) 0 (by decide) (by decide)
  simp only [fill_zero, ups_self] at key
  exact key
def F_reset (F : Nat → Int32) : Nat → Int32 := F_clearTrees (ups (ups (ups (ups (ups (ups (ups (ups (ups F 3 (0 : Int32)) 4 (0 : Int32)) 5 (0 : Int32)) 6 (0 : Int32)) 7 (0 : Int32)) 8 (0 : Int32)) 9 (0 : Int32)) 10 (0 : Int32)) 11 (0 : Int32))
def A_reset (A : Nat → Int32 → Int32) : Nat → Int32 → Int32 := A_clearTrees (ups (ups (ups (ups (ups (ups (ups (ups A 0 (fill (A 0) 64 (0 : Int32))) 1 (fill (A 1) 64 (0 : Int32))) 2 (fill ((ups (ups A 0 (fill (A 0) 64 (0 : Int32))) 1 (fill (A 1) 64 (0 : Int32))) 2) 8 (-1 : Int32))) 3 (fill ((ups (ups (ups A 0 (fill (A 0) 64 (0 : Int32))) 1 (fill (A 1) 64 (0 : Int32))) 2 (fill ((ups (ups A 0 (fill (A 0) 64 (0 : Int32))) 1 (fill (A 1) 64 (0 : Int32))) 2) 8 (-1 : Int32))) 3) 16 (0 : Int32))) 4 (fill ((ups (ups (ups A 0 (fill (A 0) 64 (0 : Int32))) 1 (fill (A 1) 64 (0 : Int32))) 2 (fill ((ups (ups A 0 (fill (A 0) 64 (0 : Int32))) 1 (fill (A 1) 64 (0 : Int32))) 2) 8 (-1 : Int32))) 4) 16 (0 : Int32))) 5 (fill ((ups (ups (ups A 0 (fill (A 0) 64 (0 : Int32))) 1 (fill (A 1) 64 (0 : Int32))) 2 (fill ((ups (ups A 0 (fill (A 0) 64 (0 : Int32))) 1 (fill (A 1) 64 (0 : Int32))) 2) 8 (-1 : Int32))) 5) 16 (0 : Int32))) 6 (fill ((ups (ups (ups A 0 (fill (A 0) 64 (0 : Int32))) 1 (fill (A 1) 64 (0 : Int32))) 2 (fill ((ups (ups A 0 (fill (A 0) 64 (0 : Int32))) 1 (fill (A 1) 64 (0 : Int32))) 2) 8 (-1 : Int32))) 6) 16 (-1 : Int32))) 15 (fill ((ups (ups (ups A 0 (fill (A 0) 64 (0 : Int32))) 1 (fill (A 1) 64 (0 : Int32))) 2 (fill ((ups (ups A 0 (fill (A 0) 64 (0 : Int32))) 1 (fill (A 1) 64 (0 : Int32))) 2) 8 (-1 : Int32))) 15) 16 (0 : Int32)))
theorem eF_reset (F : Nat → Int32) : F_reset F = F_clearTrees (ups (ups (ups (ups (ups (ups (ups (ups (ups F 3 (0 : Int32)) 4 (0 : Int32)) 5 (0 : Int32)) 6 (0 : Int32)) 7 (0 : Int32)) 8 (0 : Int32)) 9 (0 : Int32)) 10 (0 : Int32)) 11 (0 : Int32)) := Eq.trans rfl rfl
theorem eA_reset (A : Nat → Int32 → Int32) : A_reset A = A_clearTrees (ups (ups (ups (ups (ups (ups (ups (ups A 0 (fill (A 0) 64 (0 : Int32))) 1 (fill (A 1) 64 (0 : Int32))) 2 (fill ((ups (ups A 0 (fill (A 0) 64 (0 : Int32))) 1 (fill (A 1) 64 (0 : Int32))) 2) 8 (-1 : Int32))) 3 (fill ((ups (ups (ups A 0 (fill (A 0) 64 (0 : Int32))) 1 (fill (A 1) 64 (0 : Int32))) 2 (fill ((ups (ups A 0 (fill (A 0) 64 (0 : Int32))) 1 (fill (A 1) 64 (0 : Int32))) 2) 8 (-1 : Int32))) 3) 16 (0 : Int32))) 4 (fill ((ups (ups (ups A 0 (fill (A 0) 64 (0 : Int32))) 1 (fill (A 1) 64 (0 : Int32))) 2 (fill ((ups (ups A 0 (fill (A 0) 64 (0 : Int32))) 1 (fill (A 1) 64 (0 : Int32))) 2) 8 (-1 : Int32))) 4) 16 (0 : Int32))) 5 (fill ((ups (ups (ups A 0 (fill (A 0) 64 (0 : Int32))) 1 (fill (A 1) 64 (0 : Int32))) 2 (fill ((ups (ups A 0 (fill (A 0) 64 (0 : Int32))) 1 (fill (A 1) 64 (0 : Int32))) 2) 8 (-1 : Int32))) 5) 16 (0 : Int32))) 6 (fill ((ups (ups (ups A 0 (fill (A 0) 64 (0 : Int32))) 1 (fill (A 1) 64 (0 : Int32))) 2 (fill ((ups (ups A 0 (fill (A 0) 64 (0 : Int32))) 1 (fill (A 1) 64 (0 : Int32))) 2) 8 (-1 : Int32))) 6) 16 (-1 : Int32))) 15 (fill ((ups (ups (ups A 0 (fill (A 0) 64 (0 : Int32))) 1 (fill (A 1) 64 (0 : Int32))) 2 (fill ((ups (ups A 0 (fill (A 0) 64 (0 : Int32))) 1 (fill (A 1) 64 (0 : Int32))) 2) 8 (-1 : Int32))) 15) 16 (0 : Int32))) := Eq.trans rfl rfl
theorem run_reset {l : Launch} {Z : State} {a0 : Array Value} (H : OK Z a0) (F : Nat → Int32) (G : Nat → Int64) (A : Nat → Int32 → Int32) (B : Nat → Int32 → Int64) : Wk l Z (MoC Z cdC) md_reset 0 [.val (.ref 0), .unset] [] (16, F, G, A, B) 0 0 (fun v w' => v = none ∧ w' = (16, (F_reset F), G, (A_reset A), B)) :=
  wp_reset H F G A B (fl_reset_47 H _ G _ B (fl_reset_75 H _ G _ B (fl_reset_96 H _ G _ B ⟨rfl, rfl⟩)))
theorem F_reset_0 (F : Nat → Int32) : F_reset F 0 = (F 0) := Eq.trans rfl rfl
theorem F_reset_1 (F : Nat → Int32) : F_reset F 1 = (F 1) := Eq.trans rfl rfl
theorem F_reset_2 (F : Nat → Int32) : F_reset F 2 = (F 2) := Eq.trans rfl rfl
theorem F_reset_3 (F : Nat → Int32) : F_reset F 3 = (0 : Int32) := Eq.trans rfl rfl
theorem F_reset_4 (F : Nat → Int32) : F_reset F 4 = (0 : Int32) := Eq.trans rfl rfl
theorem F_reset_5 (F : Nat → Int32) : F_reset F 5 = (0 : Int32) := Eq.trans rfl rfl
theorem F_reset_6 (F : Nat → Int32) : F_reset F 6 = (0 : Int32) := Eq.trans rfl rfl
theorem F_reset_7 (F : Nat → Int32) : F_reset F 7 = (0 : Int32) := Eq.trans rfl rfl
theorem F_reset_8 (F : Nat → Int32) : F_reset F 8 = (0 : Int32) := Eq.trans rfl rfl
theorem F_reset_9 (F : Nat → Int32) : F_reset F 9 = (0 : Int32) := Eq.trans rfl rfl
theorem F_reset_10 (F : Nat → Int32) : F_reset F 10 = (0 : Int32) := Eq.trans rfl rfl
theorem F_reset_11 (F : Nat → Int32) : F_reset F 11 = (0 : Int32) := Eq.trans rfl rfl
theorem F_reset_12 (F : Nat → Int32) : F_reset F 12 = (1 : Int32) := Eq.trans rfl rfl
theorem F_reset_13 (F : Nat → Int32) : F_reset F 13 = (1 : Int32) := Eq.trans rfl rfl
set_option maxRecDepth 65536 in
set_option maxHeartbeats 4000000 in
theorem wp_init {l : Launch} {Z : State} {a0 : Array Value} (H : OK Z a0) (p1 : Int32) (p2 : Int32) (p3 : Int32) {Q : Option Value → WO → Prop} (h1 : Q none (16, (F_reset (ups (ups (ups (fun _ => 0) 0 (f_clamp p1 (4 : Int32) (32 : Int32))) 1 (f_clamp p2 (1 : Int32) (16 : Int32))) 2 (f_clamp p3 (2 : Int32) (16 : Int32)))), (fun _ => 0), (A_reset (fun _ _ => 0)), (fun _ _ => 0))) :
    Wk l Z (MoC Z cdC) md_init 0 [.val (.ref 0), .val (.int p1), .val (.int p2), .val (.int p3)] [] (0, (fun _ => 0), (fun _ => 0), (fun _ _ => 0), (fun _ _ => 0)) 0 0 Q := by
  refine Wk.aloadN o_init_0 rfl ?_
  refine Wk.initO (H.w 6 rfl) (H.w 7 rfl) (H.w 8 rfl) o_init_1 rfl (by decide) (by decide) ?_
  refine Wk.aloadN o_init_4 rfl ?_
  refine Wk.bipush o_init_5 (z := (64 : Int32)) (by decide) ?_
  refine Wk.newA (coC H) (aty := .int) rfl (wa_int H) (mA_ops) (wf_ops H) (Or.inl (wy_ops H)) o_init_7 o_init_9 rfl rfl (k' := 1) rfl (cu' := 1) rfl (su' := 64) rfl (by decide) (by decide) (by decide) ?_
  refine Wk.aloadN o_init_12 rfl ?_
  refine Wk.bipush o_init_13 (z := (64 : Int32)) (by decide) ?_
  refine Wk.newA (coC H) (aty := .int) rfl (wa_int H) (mA_args) (wf_args H) (Or.inl (wy_args H)) o_init_15 o_init_17 rfl rfl (k' := 2) rfl (cu' := 2) rfl (su' := 128) rfl (by decide) (by decide) (by decide) ?_
  refine Wk.aloadN o_init_20 rfl ?_
  refine Wk.bipush o_init_21 (z := (8 : Int32)) (by decide) ?_
  refine Wk.newA (coC H) (aty := .int) rfl (wa_int H) (mA_entries) (wf_entries H) (Or.inl (wy_entries H)) o_init_23 o_init_25 rfl rfl (k' := 3) rfl (cu' := 3) rfl (su' := 136) rfl (by decide) (by decide) (by decide) ?_
  refine Wk.aloadN o_init_28 rfl ?_
  refine Wk.bipush o_init_29 (z := (16 : Int32)) (by decide) ?_
  refine Wk.newA (coC H) (aty := .int) rfl (wa_int H) (mA_stack) (wf_stack H) (Or.inl (wy_stack H)) o_init_31 o_init_33 rfl rfl (k' := 4) rfl (cu' := 4) rfl (su' := 152) rfl (by decide) (by decide) (by decide) ?_
  refine Wk.aloadN o_init_36 rfl ?_
  refine Wk.bipush o_init_37 (z := (16 : Int32)) (by decide) ?_
  refine Wk.newA (coC H) (aty := .int) rfl (wa_int H) (mA_frameFunc) (wf_frameFunc H) (Or.inl (wy_frameFunc H)) o_init_39 o_init_41 rfl rfl (k' := 5) rfl (cu' := 5) rfl (su' := 168) rfl (by decide) (by decide) (by decide) ?_
  refine Wk.aloadN o_init_44 rfl ?_
  refine Wk.bipush o_init_45 (z := (16 : Int32)) (by decide) ?_
  refine Wk.newA (coC H) (aty := .int) rfl (wa_int H) (mA_frameRet) (wf_frameRet H) (Or.inl (wy_frameRet H)) o_init_47 o_init_49 rfl rfl (k' := 6) rfl (cu' := 6) rfl (su' := 184) rfl (by decide) (by decide) (by decide) ?_
  refine Wk.aloadN o_init_52 rfl ?_
  refine Wk.bipush o_init_53 (z := (16 : Int32)) (by decide) ?_
  refine Wk.newA (coC H) (aty := .int) rfl (wa_int H) (mA_frameNode) (wf_frameNode H) (Or.inl (wy_frameNode H)) o_init_55 o_init_57 rfl rfl (k' := 7) rfl (cu' := 7) rfl (su' := 200) rfl (by decide) (by decide) (by decide) ?_
  refine Wk.aloadN o_init_60 rfl ?_
  refine Wk.bipush o_init_61 (z := (32 : Int32)) (by decide) ?_
  refine Wk.newA (coC H) (aty := .int) rfl (wa_int H) (mA_iParent) (wf_iParent H) (Or.inl (wy_iParent H)) o_init_63 o_init_65 rfl rfl (k' := 8) rfl (cu' := 8) rfl (su' := 232) rfl (by decide) (by decide) (by decide) ?_
  refine Wk.aloadN o_init_68 rfl ?_
  refine Wk.bipush o_init_69 (z := (32 : Int32)) (by decide) ?_
  refine Wk.newA (coC H) (aty := .int) rfl (wa_int H) (mA_iFunc) (wf_iFunc H) (Or.inl (wy_iFunc H)) o_init_71 o_init_73 rfl rfl (k' := 9) rfl (cu' := 9) rfl (su' := 264) rfl (by decide) (by decide) (by decide) ?_
  refine Wk.aloadN o_init_76 rfl ?_
  refine Wk.bipush o_init_77 (z := (32 : Int32)) (by decide) ?_
  refine Wk.newA (coC H) (aty := .int) rfl (wa_int H) (mA_iSelf) (wf_iSelf H) (Or.inl (wy_iSelf H)) o_init_79 o_init_81 rfl rfl (k' := 10) rfl (cu' := 10) rfl (su' := 296) rfl (by decide) (by decide) (by decide) ?_
  refine Wk.aloadN o_init_84 rfl ?_
  refine Wk.bipush o_init_85 (z := (32 : Int32)) (by decide) ?_
  refine Wk.newA (coC H) (aty := .int) rfl (wa_int H) (mA_iIncl) (wf_iIncl H) (Or.inl (wy_iIncl H)) o_init_87 o_init_89 rfl rfl (k' := 11) rfl (cu' := 11) rfl (su' := 328) rfl (by decide) (by decide) (by decide) ?_
  refine Wk.aloadN o_init_92 rfl ?_
  refine Wk.bipush o_init_93 (z := (32 : Int32)) (by decide) ?_
  refine Wk.newA (coC H) (aty := .int) rfl (wa_int H) (mA_iLost) (wf_iLost H) (Or.inl (wy_iLost H)) o_init_95 o_init_97 rfl rfl (k' := 12) rfl (cu' := 12) rfl (su' := 360) rfl (by decide) (by decide) (by decide) ?_
  refine Wk.aloadN o_init_100 rfl ?_
  refine Wk.bipush o_init_101 (z := (32 : Int32)) (by decide) ?_
  refine Wk.newA (coC H) (aty := .int) rfl (wa_int H) (mA_sParent) (wf_sParent H) (Or.inl (wy_sParent H)) o_init_103 o_init_105 rfl rfl (k' := 13) rfl (cu' := 13) rfl (su' := 392) rfl (by decide) (by decide) (by decide) ?_
  refine Wk.aloadN o_init_108 rfl ?_
  refine Wk.bipush o_init_109 (z := (32 : Int32)) (by decide) ?_
  refine Wk.newA (coC H) (aty := .int) rfl (wa_int H) (mA_sFunc) (wf_sFunc H) (Or.inl (wy_sFunc H)) o_init_111 o_init_113 rfl rfl (k' := 14) rfl (cu' := 14) rfl (su' := 424) rfl (by decide) (by decide) (by decide) ?_
  refine Wk.aloadN o_init_116 rfl ?_
  refine Wk.bipush o_init_117 (z := (32 : Int32)) (by decide) ?_
  refine Wk.newA (coC H) (aty := .int) rfl (wa_int H) (mA_sSelf) (wf_sSelf H) (Or.inl (wy_sSelf H)) o_init_119 o_init_121 rfl rfl (k' := 15) rfl (cu' := 15) rfl (su' := 456) rfl (by decide) (by decide) (by decide) ?_
  refine Wk.aloadN o_init_124 rfl ?_
  refine Wk.bipush o_init_125 (z := (16 : Int32)) (by decide) ?_
  refine Wk.newA (coC H) (aty := .int) rfl (wa_int H) (mA_query) (wf_query H) (Or.inl (wy_query H)) o_init_127 o_init_129 rfl rfl (k' := 16) rfl (cu' := 16) rfl (su' := 472) rfl (by decide) (by decide) (by decide) ?_
  refine Wk.aloadN o_init_132 rfl ?_
  refine Wk.aloadN o_init_133 rfl ?_
  refine Wk.iloadN o_init_134 rfl ?_
  refine Wk.iconst o_init_135 (z := (4 : Int32)) (by decide) ?_
  refine Wk.bipush o_init_136 (z := (32 : Int32)) (by decide) ?_
  refine Wk.callF [.int p1, .int (4 : Int32), .int (32 : Int32)] [.ref 0] (H.w 42 rfl) (cv_clamp H) o_init_138 (run_clamp H (fun _ => 0) (fun _ => 0) (fun _ _ => 0) (fun _ _ => 0) p1 (4 : Int32) (32 : Int32)) (wt := 1) (cu' := 16) (su' := 472) (by decide) rfl rfl rfl rfl rfl rfl rfl ?_
  refine Wk.putI (coC H) (mI_capacity) (wf_capacity H) (Or.inl (wy_capacity H)) o_init_141 ?_
  refine Wk.aloadN o_init_144 rfl ?_
  refine Wk.aloadN o_init_145 rfl ?_
  refine Wk.iloadN o_init_146 rfl ?_
  refine Wk.iconst o_init_147 (z := (1 : Int32)) (by decide) ?_
  refine Wk.bipush o_init_148 (z := (16 : Int32)) (by decide) ?_
  refine Wk.callF [.int p2, .int (1 : Int32), .int (16 : Int32)] [.ref 0] (H.w 42 rfl) (cv_clamp H) o_init_150 (run_clamp H (ups (fun _ => 0) 0 (f_clamp p1 (4 : Int32) (32 : Int32))) (fun _ => 0) (fun _ _ => 0) (fun _ _ => 0) p2 (1 : Int32) (16 : Int32)) (wt := 1) (cu' := 16) (su' := 472) (by decide) rfl rfl rfl rfl rfl rfl rfl ?_
  refine Wk.putI (coC H) (mI_period) (wf_period H) (Or.inl (wy_period H)) o_init_153 ?_
  refine Wk.aloadN o_init_156 rfl ?_
  refine Wk.aloadN o_init_157 rfl ?_
  refine Wk.iloadN o_init_158 rfl ?_
  refine Wk.iconst o_init_159 (z := (2 : Int32)) (by decide) ?_
  refine Wk.bipush o_init_160 (z := (16 : Int32)) (by decide) ?_
  refine Wk.callF [.int p3, .int (2 : Int32), .int (16 : Int32)] [.ref 0] (H.w 42 rfl) (cv_clamp H) o_init_162 (run_clamp H (ups (ups (fun _ => 0) 0 (f_clamp p1 (4 : Int32) (32 : Int32))) 1 (f_clamp p2 (1 : Int32) (16 : Int32))) (fun _ => 0) (fun _ _ => 0) (fun _ _ => 0) p3 (2 : Int32) (16 : Int32)) (wt := 1) (cu' := 16) (su' := 472) (by decide) rfl rfl rfl rfl rfl rfl rfl ?_
  refine Wk.putI (coC H) (mI_maxDepth) (wf_maxDepth H) (Or.inl (wy_maxDepth H)) o_init_165 ?_
  refine Wk.aloadN o_init_168 rfl ?_
  refine Wk.callU [] [] (H.w 52 rfl) (cv_reset H) o_init_169 (run_reset H (ups (ups (ups (fun _ => 0) 0 (f_clamp p1 (4 : Int32) (32 : Int32))) 1 (f_clamp p2 (1 : Int32) (16 : Int32))) 2 (f_clamp p3 (2 : Int32) (16 : Int32))) (fun _ => 0) (fun _ _ => 0) (fun _ _ => 0)) (wt := 0) (cu' := 16) (su' := 472) (by decide) rfl rfl rfl rfl rfl rfl rfl ?_
  exact Wk.ret mrC rfl o_init_172 rfl (by decide) (by decide) h1

def F_init (p1 : Int32) (p2 : Int32) (p3 : Int32) : Nat → Int32 := (F_reset (ups (ups (ups (fun _ => 0) 0 (f_clamp p1 (4 : Int32) (32 : Int32))) 1 (f_clamp p2 (1 : Int32) (16 : Int32))) 2 (f_clamp p3 (2 : Int32) (16 : Int32))))
theorem eF_init (p1 : Int32) (p2 : Int32) (p3 : Int32) : F_init p1 p2 p3 = (F_reset (ups (ups (ups (fun _ => 0) 0 (f_clamp p1 (4 : Int32) (32 : Int32))) 1 (f_clamp p2 (1 : Int32) (16 : Int32))) 2 (f_clamp p3 (2 : Int32) (16 : Int32)))) := Eq.trans rfl rfl
def A_init (p1 : Int32) (p2 : Int32) (p3 : Int32) : Nat → Int32 → Int32 := (A_reset (fun _ _ => 0))
theorem eA_init (p1 : Int32) (p2 : Int32) (p3 : Int32) : A_init p1 p2 p3 = (A_reset (fun _ _ => 0)) := Eq.trans rfl rfl
theorem F_init_0 (p1 : Int32) (p2 : Int32) (p3 : Int32) : F_init p1 p2 p3 0 = (f_clamp p1 (4 : Int32) (32 : Int32)) := by
  exact Eq.trans rfl (F_reset_0 (ups (ups (ups (fun _ => 0) 0 (f_clamp p1 (4 : Int32) (32 : Int32))) 1 (f_clamp p2 (1 : Int32) (16 : Int32))) 2 (f_clamp p3 (2 : Int32) (16 : Int32))))
theorem F_init_1 (p1 : Int32) (p2 : Int32) (p3 : Int32) : F_init p1 p2 p3 1 = (f_clamp p2 (1 : Int32) (16 : Int32)) := by
  exact Eq.trans rfl (F_reset_1 (ups (ups (ups (fun _ => 0) 0 (f_clamp p1 (4 : Int32) (32 : Int32))) 1 (f_clamp p2 (1 : Int32) (16 : Int32))) 2 (f_clamp p3 (2 : Int32) (16 : Int32))))
theorem F_init_2 (p1 : Int32) (p2 : Int32) (p3 : Int32) : F_init p1 p2 p3 2 = (f_clamp p3 (2 : Int32) (16 : Int32)) := by
  exact Eq.trans rfl (F_reset_2 (ups (ups (ups (fun _ => 0) 0 (f_clamp p1 (4 : Int32) (32 : Int32))) 1 (f_clamp p2 (1 : Int32) (16 : Int32))) 2 (f_clamp p3 (2 : Int32) (16 : Int32))))
theorem F_init_3 (p1 : Int32) (p2 : Int32) (p3 : Int32) : F_init p1 p2 p3 3 = (0 : Int32) := by
  exact Eq.trans rfl (F_reset_3 (ups (ups (ups (fun _ => 0) 0 (f_clamp p1 (4 : Int32) (32 : Int32))) 1 (f_clamp p2 (1 : Int32) (16 : Int32))) 2 (f_clamp p3 (2 : Int32) (16 : Int32))))
theorem F_init_4 (p1 : Int32) (p2 : Int32) (p3 : Int32) : F_init p1 p2 p3 4 = (0 : Int32) := by
  exact Eq.trans rfl (F_reset_4 (ups (ups (ups (fun _ => 0) 0 (f_clamp p1 (4 : Int32) (32 : Int32))) 1 (f_clamp p2 (1 : Int32) (16 : Int32))) 2 (f_clamp p3 (2 : Int32) (16 : Int32))))
theorem F_init_5 (p1 : Int32) (p2 : Int32) (p3 : Int32) : F_init p1 p2 p3 5 = (0 : Int32) := by
  exact Eq.trans rfl (F_reset_5 (ups (ups (ups (fun _ => 0) 0 (f_clamp p1 (4 : Int32) (32 : Int32))) 1 (f_clamp p2 (1 : Int32) (16 : Int32))) 2 (f_clamp p3 (2 : Int32) (16 : Int32))))
theorem F_init_6 (p1 : Int32) (p2 : Int32) (p3 : Int32) : F_init p1 p2 p3 6 = (0 : Int32) := by
  exact Eq.trans rfl (F_reset_6 (ups (ups (ups (fun _ => 0) 0 (f_clamp p1 (4 : Int32) (32 : Int32))) 1 (f_clamp p2 (1 : Int32) (16 : Int32))) 2 (f_clamp p3 (2 : Int32) (16 : Int32))))
theorem F_init_7 (p1 : Int32) (p2 : Int32) (p3 : Int32) : F_init p1 p2 p3 7 = (0 : Int32) := by
  exact Eq.trans rfl (F_reset_7 (ups (ups (ups (fun _ => 0) 0 (f_clamp p1 (4 : Int32) (32 : Int32))) 1 (f_clamp p2 (1 : Int32) (16 : Int32))) 2 (f_clamp p3 (2 : Int32) (16 : Int32))))
theorem F_init_8 (p1 : Int32) (p2 : Int32) (p3 : Int32) : F_init p1 p2 p3 8 = (0 : Int32) := by
  exact Eq.trans rfl (F_reset_8 (ups (ups (ups (fun _ => 0) 0 (f_clamp p1 (4 : Int32) (32 : Int32))) 1 (f_clamp p2 (1 : Int32) (16 : Int32))) 2 (f_clamp p3 (2 : Int32) (16 : Int32))))
theorem F_init_9 (p1 : Int32) (p2 : Int32) (p3 : Int32) : F_init p1 p2 p3 9 = (0 : Int32) := by
  exact Eq.trans rfl (F_reset_9 (ups (ups (ups (fun _ => 0) 0 (f_clamp p1 (4 : Int32) (32 : Int32))) 1 (f_clamp p2 (1 : Int32) (16 : Int32))) 2 (f_clamp p3 (2 : Int32) (16 : Int32))))
theorem F_init_10 (p1 : Int32) (p2 : Int32) (p3 : Int32) : F_init p1 p2 p3 10 = (0 : Int32) := by
  exact Eq.trans rfl (F_reset_10 (ups (ups (ups (fun _ => 0) 0 (f_clamp p1 (4 : Int32) (32 : Int32))) 1 (f_clamp p2 (1 : Int32) (16 : Int32))) 2 (f_clamp p3 (2 : Int32) (16 : Int32))))
theorem F_init_11 (p1 : Int32) (p2 : Int32) (p3 : Int32) : F_init p1 p2 p3 11 = (0 : Int32) := by
  exact Eq.trans rfl (F_reset_11 (ups (ups (ups (fun _ => 0) 0 (f_clamp p1 (4 : Int32) (32 : Int32))) 1 (f_clamp p2 (1 : Int32) (16 : Int32))) 2 (f_clamp p3 (2 : Int32) (16 : Int32))))
theorem F_init_12 (p1 : Int32) (p2 : Int32) (p3 : Int32) : F_init p1 p2 p3 12 = (1 : Int32) := by
  exact Eq.trans rfl (F_reset_12 (ups (ups (ups (fun _ => 0) 0 (f_clamp p1 (4 : Int32) (32 : Int32))) 1 (f_clamp p2 (1 : Int32) (16 : Int32))) 2 (f_clamp p3 (2 : Int32) (16 : Int32))))
theorem F_init_13 (p1 : Int32) (p2 : Int32) (p3 : Int32) : F_init p1 p2 p3 13 = (1 : Int32) := by
  exact Eq.trans rfl (F_reset_13 (ups (ups (ups (fun _ => 0) 0 (f_clamp p1 (4 : Int32) (32 : Int32))) 1 (f_clamp p2 (1 : Int32) (16 : Int32))) 2 (f_clamp p3 (2 : Int32) (16 : Int32))))
theorem run_init {l : Launch} {Z : State} {a0 : Array Value} (H : OK Z a0)  (p1 : Int32) (p2 : Int32) (p3 : Int32) :
    Wk l Z (MoC Z cdC) md_init 0 [.val (.ref 0), .val (.int p1), .val (.int p2), .val (.int p3)] [] (0, (fun _ => 0), (fun _ => 0), (fun _ _ => 0), (fun _ _ => 0)) 0 0 (fun v w' => v = none ∧ w' = (16, (F_init p1 p2 p3), (fun _ => 0), (A_init p1 p2 p3), (fun _ _ => 0))) :=
  wp_init H p1 p2 p3 ⟨rfl, rfl⟩
set_option maxRecDepth 65536 in
set_option maxHeartbeats 4000000 in
theorem wp_pushQuery {l : Launch} {Z : State} {a0 : Array Value} (H : OK Z a0) (F : Nat → Int32) (G : Nat → Int64) (A : Nat → Int32 → Int32) (B : Nat → Int32 → Int64) (p1 : Int32) {Q : Option Value → WO → Prop} (h2 : p1 < 0 → Q (some (.int (0 : Int32))) (16, F, G, A, B)) (h4 : ¬ p1 < 0 → (7 : Int32) < p1 → Q (some (.int (0 : Int32))) (16, F, G, A, B)) (s6 : ¬ p1 < 0 → ¬ (7 : Int32) < p1 → (F 11) < (16 : Int32) → ¬ (F 11) < 0) (h7 : ¬ p1 < 0 → ¬ (7 : Int32) < p1 → (F 11) < (16 : Int32) → Q (some (.int (1 : Int32))) (16, (ups F 11 ((F 11) + (1 : Int32))), G, (ups A 15 (ups (A 15) (F 11) p1)), B)) (h8 : ¬ p1 < 0 → ¬ (7 : Int32) < p1 → ¬ (F 11) < (16 : Int32) → Q (some (.int (0 : Int32))) (16, F, G, A, B)) :
    Wk l Z (MoC Z cdC) md_pushQuery 0 [.val (.ref 0), .val (.int p1)] [] (16, F, G, A, B) 0 0 Q := by
  refine Wk.iloadN o_pushQuery_0 rfl ?_
  refine Wk.if_lt o_pushQuery_1 (fun q1 => ?_) (fun q1 => ?_)
  · refine Wk.iconst o_pushQuery_19 (z := (0 : Int32)) (by decide) ?_
    exact Wk.zreturn mrC rfl o_pushQuery_20 rfl (by decide) (by decide) (y := (0 : Int32)) (by decide) (h2 q1)
  · refine Wk.iloadN o_pushQuery_4 rfl ?_
    refine Wk.bipush o_pushQuery_5 (z := (7 : Int32)) (by decide) ?_
    refine Wk.icmp_gt o_pushQuery_7 (fun q3 => ?_) (fun q3 => ?_)
    · refine Wk.iconst o_pushQuery_19 (z := (0 : Int32)) (by decide) ?_
      exact Wk.zreturn mrC rfl o_pushQuery_20 rfl (by decide) (by decide) (y := (0 : Int32)) (by decide) (h4 q1 q3)
    · refine Wk.aloadN o_pushQuery_10 rfl ?_
      refine Wk.getI (mI_qLen) (wf_qLen H) o_pushQuery_11 (x := (F 11)) rfl ?_
      refine Wk.bipush o_pushQuery_14 (z := (16 : Int32)) (by decide) ?_
      refine Wk.icmp_lt o_pushQuery_16 (fun q5 => ?_) (fun q5 => ?_)
      · refine Wk.aloadN o_pushQuery_21 rfl ?_
        refine Wk.getA (mA_query) (by decide) (i' := 16) rfl (wf_query H) o_pushQuery_22 ?_
        refine Wk.aloadN o_pushQuery_25 rfl ?_
        refine Wk.getI (mI_qLen) (wf_qLen H) o_pushQuery_26 (x := (F 11)) rfl ?_
        refine Wk.iloadN o_pushQuery_29 rfl ?_
        refine Wk.iastore (coC H) (f := (A 15)) (mA_query) rfl (by decide) (i' := 16) rfl (s6 q1 q3 q5) q5 o_pushQuery_30 ?_
        refine Wk.aloadN o_pushQuery_31 rfl ?_
        refine Wk.dup o_pushQuery_32 rfl ?_
        refine Wk.getI (mI_qLen) (wf_qLen H) o_pushQuery_33 (x := (F 11)) rfl ?_
        refine Wk.iconst o_pushQuery_36 (z := (1 : Int32)) (by decide) ?_
        refine Wk.iadd o_pushQuery_37 ?_
        refine Wk.putI (coC H) (mI_qLen) (wf_qLen H) (Or.inl (wy_qLen H)) o_pushQuery_38 ?_
        refine Wk.iconst o_pushQuery_41 (z := (1 : Int32)) (by decide) ?_
        exact Wk.zreturn mrC rfl o_pushQuery_42 rfl (by decide) (by decide) (y := (1 : Int32)) (by decide) (h7 q1 q3 q5)
      · refine Wk.iconst o_pushQuery_19 (z := (0 : Int32)) (by decide) ?_
        exact Wk.zreturn mrC rfl o_pushQuery_20 rfl (by decide) (by decide) (y := (0 : Int32)) (by decide) (h8 q1 q3 q5)

def f_pushQuery (F : Nat → Int32) (p1 : Int32) : Int32 := (if p1 < 0 then (0 : Int32) else (if (7 : Int32) < p1 then (0 : Int32) else (if (F 11) < (16 : Int32) then (1 : Int32) else (0 : Int32))))
theorem e_pushQuery (F : Nat → Int32) (p1 : Int32) : f_pushQuery F p1 = (if p1 < 0 then (0 : Int32) else (if (7 : Int32) < p1 then (0 : Int32) else (if (F 11) < (16 : Int32) then (1 : Int32) else (0 : Int32)))) := Eq.trans rfl rfl
theorem bz_pushQuery (F : Nat → Int32) (p1 : Int32) : nar .boolean (f_pushQuery F p1) = f_pushQuery F p1 := by
  unfold f_pushQuery
  (repeat' split) <;> first | rfl | exact nar_nar _
def F_pushQuery (F : Nat → Int32) (p1 : Int32) : Nat → Int32 := (if p1 < 0 then F else (if (7 : Int32) < p1 then F else (if (F 11) < (16 : Int32) then (ups F 11 ((F 11) + (1 : Int32))) else F)))
theorem eF_pushQuery (F : Nat → Int32) (p1 : Int32) : F_pushQuery F p1 = (if p1 < 0 then F else (if (7 : Int32) < p1 then F else (if (F 11) < (16 : Int32) then (ups F 11 ((F 11) + (1 : Int32))) else F))) := Eq.trans rfl rfl
def A_pushQuery (F : Nat → Int32) (A : Nat → Int32 → Int32) (p1 : Int32) : Nat → Int32 → Int32 := (if p1 < 0 then A else (if (7 : Int32) < p1 then A else (if (F 11) < (16 : Int32) then (ups A 15 (ups (A 15) (F 11) p1)) else A)))
theorem eA_pushQuery (F : Nat → Int32) (A : Nat → Int32 → Int32) (p1 : Int32) : A_pushQuery F A p1 = (if p1 < 0 then A else (if (7 : Int32) < p1 then A else (if (F 11) < (16 : Int32) then (ups A 15 (ups (A 15) (F 11) p1)) else A))) := Eq.trans rfl rfl
theorem F_pushQuery_0 (F : Nat → Int32) (p1 : Int32) : F_pushQuery F p1 0 = (F 0) := by
  rw [eF_pushQuery]
  by_cases q1 : p1 < 0
  · try simp only [if_pos q1]
    all_goals rfl
  · try simp only [if_neg q1]
    by_cases q2 : (7 : Int32) < p1
    · try simp only [if_pos q2]
      all_goals rfl
    · try simp only [if_neg q2]
      by_cases q3 : (F 11) < (16 : Int32)
      · try simp only [if_pos q3]
        all_goals rfl
      · try simp only [if_neg q3]
        all_goals rfl
theorem F_pushQuery_1 (F : Nat → Int32) (p1 : Int32) : F_pushQuery F p1 1 = (F 1) := by
  rw [eF_pushQuery]
  by_cases q1 : p1 < 0
  · try simp only [if_pos q1]
    all_goals rfl
  · try simp only [if_neg q1]
    by_cases q2 : (7 : Int32) < p1
    · try simp only [if_pos q2]
      all_goals rfl
    · try simp only [if_neg q2]
      by_cases q3 : (F 11) < (16 : Int32)
      · try simp only [if_pos q3]
        all_goals rfl
      · try simp only [if_neg q3]
        all_goals rfl
theorem F_pushQuery_2 (F : Nat → Int32) (p1 : Int32) : F_pushQuery F p1 2 = (F 2) := by
  rw [eF_pushQuery]
  by_cases q1 : p1 < 0
  · try simp only [if_pos q1]
    all_goals rfl
  · try simp only [if_neg q1]
    by_cases q2 : (7 : Int32) < p1
    · try simp only [if_pos q2]
      all_goals rfl
    · try simp only [if_neg q2]
      by_cases q3 : (F 11) < (16 : Int32)
      · try simp only [if_pos q3]
        all_goals rfl
      · try simp only [if_neg q3]
        all_goals rfl
theorem F_pushQuery_3 (F : Nat → Int32) (p1 : Int32) : F_pushQuery F p1 3 = (F 3) := by
  rw [eF_pushQuery]
  by_cases q1 : p1 < 0
  · try simp only [if_pos q1]
    all_goals rfl
  · try simp only [if_neg q1]
    by_cases q2 : (7 : Int32) < p1
    · try simp only [if_pos q2]
      all_goals rfl
    · try simp only [if_neg q2]
      by_cases q3 : (F 11) < (16 : Int32)
      · try simp only [if_pos q3]
        all_goals rfl
      · try simp only [if_neg q3]
        all_goals rfl
theorem F_pushQuery_4 (F : Nat → Int32) (p1 : Int32) : F_pushQuery F p1 4 = (F 4) := by
  rw [eF_pushQuery]
  by_cases q1 : p1 < 0
  · try simp only [if_pos q1]
    all_goals rfl
  · try simp only [if_neg q1]
    by_cases q2 : (7 : Int32) < p1
    · try simp only [if_pos q2]
      all_goals rfl
    · try simp only [if_neg q2]
      by_cases q3 : (F 11) < (16 : Int32)
      · try simp only [if_pos q3]
        all_goals rfl
      · try simp only [if_neg q3]
        all_goals rfl
theorem F_pushQuery_5 (F : Nat → Int32) (p1 : Int32) : F_pushQuery F p1 5 = (F 5) := by
  rw [eF_pushQuery]
  by_cases q1 : p1 < 0
  · try simp only [if_pos q1]
    all_goals rfl
  · try simp only [if_neg q1]
    by_cases q2 : (7 : Int32) < p1
    · try simp only [if_pos q2]
      all_goals rfl
    · try simp only [if_neg q2]
      by_cases q3 : (F 11) < (16 : Int32)
      · try simp only [if_pos q3]
        all_goals rfl
      · try simp only [if_neg q3]
        all_goals rfl
theorem F_pushQuery_6 (F : Nat → Int32) (p1 : Int32) : F_pushQuery F p1 6 = (F 6) := by
  rw [eF_pushQuery]
  by_cases q1 : p1 < 0
  · try simp only [if_pos q1]
    all_goals rfl
  · try simp only [if_neg q1]
    by_cases q2 : (7 : Int32) < p1
    · try simp only [if_pos q2]
      all_goals rfl
    · try simp only [if_neg q2]
      by_cases q3 : (F 11) < (16 : Int32)
      · try simp only [if_pos q3]
        all_goals rfl
      · try simp only [if_neg q3]
        all_goals rfl
theorem F_pushQuery_7 (F : Nat → Int32) (p1 : Int32) : F_pushQuery F p1 7 = (F 7) := by
  rw [eF_pushQuery]
  by_cases q1 : p1 < 0
  · try simp only [if_pos q1]
    all_goals rfl
  · try simp only [if_neg q1]
    by_cases q2 : (7 : Int32) < p1
    · try simp only [if_pos q2]
      all_goals rfl
    · try simp only [if_neg q2]
      by_cases q3 : (F 11) < (16 : Int32)
      · try simp only [if_pos q3]
        all_goals rfl
      · try simp only [if_neg q3]
        all_goals rfl
theorem F_pushQuery_8 (F : Nat → Int32) (p1 : Int32) : F_pushQuery F p1 8 = (F 8) := by
  rw [eF_pushQuery]
  by_cases q1 : p1 < 0
  · try simp only [if_pos q1]
    all_goals rfl
  · try simp only [if_neg q1]
    by_cases q2 : (7 : Int32) < p1
    · try simp only [if_pos q2]
      all_goals rfl
    · try simp only [if_neg q2]
      by_cases q3 : (F 11) < (16 : Int32)
      · try simp only [if_pos q3]
        all_goals rfl
      · try simp only [if_neg q3]
        all_goals rfl
theorem F_pushQuery_9 (F : Nat → Int32) (p1 : Int32) : F_pushQuery F p1 9 = (F 9) := by
  rw [eF_pushQuery]
  by_cases q1 : p1 < 0
  · try simp only [if_pos q1]
    all_goals rfl
  · try simp only [if_neg q1]
    by_cases q2 : (7 : Int32) < p1
    · try simp only [if_pos q2]
      all_goals rfl
    · try simp only [if_neg q2]
      by_cases q3 : (F 11) < (16 : Int32)
      · try simp only [if_pos q3]
        all_goals rfl
      · try simp only [if_neg q3]
        all_goals rfl
theorem F_pushQuery_10 (F : Nat → Int32) (p1 : Int32) : F_pushQuery F p1 10 = (F 10) := by
  rw [eF_pushQuery]
  by_cases q1 : p1 < 0
  · try simp only [if_pos q1]
    all_goals rfl
  · try simp only [if_neg q1]
    by_cases q2 : (7 : Int32) < p1
    · try simp only [if_pos q2]
      all_goals rfl
    · try simp only [if_neg q2]
      by_cases q3 : (F 11) < (16 : Int32)
      · try simp only [if_pos q3]
        all_goals rfl
      · try simp only [if_neg q3]
        all_goals rfl
theorem F_pushQuery_11 (F : Nat → Int32) (p1 : Int32) : F_pushQuery F p1 11 = (if p1 < 0 then (F 11) else (if (7 : Int32) < p1 then (F 11) else (if (F 11) < (16 : Int32) then ((F 11) + (1 : Int32)) else (F 11)))) := by
  rw [eF_pushQuery]
  by_cases q1 : p1 < 0
  · try simp only [if_pos q1]
    all_goals rfl
  · try simp only [if_neg q1]
    by_cases q2 : (7 : Int32) < p1
    · try simp only [if_pos q2]
      all_goals rfl
    · try simp only [if_neg q2]
      by_cases q3 : (F 11) < (16 : Int32)
      · try simp only [if_pos q3]
        all_goals rfl
      · try simp only [if_neg q3]
        all_goals rfl
theorem F_pushQuery_12 (F : Nat → Int32) (p1 : Int32) : F_pushQuery F p1 12 = (F 12) := by
  rw [eF_pushQuery]
  by_cases q1 : p1 < 0
  · try simp only [if_pos q1]
    all_goals rfl
  · try simp only [if_neg q1]
    by_cases q2 : (7 : Int32) < p1
    · try simp only [if_pos q2]
      all_goals rfl
    · try simp only [if_neg q2]
      by_cases q3 : (F 11) < (16 : Int32)
      · try simp only [if_pos q3]
        all_goals rfl
      · try simp only [if_neg q3]
        all_goals rfl
theorem F_pushQuery_13 (F : Nat → Int32) (p1 : Int32) : F_pushQuery F p1 13 = (F 13) := by
  rw [eF_pushQuery]
  by_cases q1 : p1 < 0
  · try simp only [if_pos q1]
    all_goals rfl
  · try simp only [if_neg q1]
    by_cases q2 : (7 : Int32) < p1
    · try simp only [if_pos q2]
      all_goals rfl
    · try simp only [if_neg q2]
      by_cases q3 : (F 11) < (16 : Int32)
      · try simp only [if_pos q3]
        all_goals rfl
      · try simp only [if_neg q3]
        all_goals rfl
theorem run_pushQuery {l : Launch} {Z : State} {a0 : Array Value} (H : OK Z a0) (F : Nat → Int32) (G : Nat → Int64) (A : Nat → Int32 → Int32) (B : Nat → Int32 → Int64) (p1 : Int32) (e1 : ¬ (F 11) < 0) :
    Wk l Z (MoC Z cdC) md_pushQuery 0 [.val (.ref 0), .val (.int p1)] [] (16, F, G, A, B) 0 0 (fun v w' => v = some (.int (f_pushQuery F p1)) ∧ w' = (16, (F_pushQuery F p1), G, (A_pushQuery F A p1), B)) :=
  wp_pushQuery H F G A B p1 (fun q1 => ⟨by simp only [e_pushQuery, if_pos q1], by simp only [eF_pushQuery, eA_pushQuery, if_pos q1]⟩) (fun q1 q3 => ⟨by simp only [e_pushQuery, if_neg q1, if_pos q3], by simp only [eF_pushQuery, eA_pushQuery, if_neg q1, if_pos q3]⟩) (by intros; assumption) (fun q1 q3 q5 => ⟨by simp only [e_pushQuery, if_neg q1, if_neg q3, if_pos q5], by simp only [eF_pushQuery, eA_pushQuery, if_neg q1, if_neg q3, if_pos q5]⟩) (fun q1 q3 q5 => ⟨by simp only [e_pushQuery, if_neg q1, if_neg q3, if_neg q5], by simp only [eF_pushQuery, eA_pushQuery, if_neg q1, if_neg q3, if_neg q5]⟩)
set_option maxRecDepth 65536 in
set_option maxHeartbeats 4000000 in
theorem wp_info {l : Launch} {Z : State} {a0 : Array Value} (H : OK Z a0) (F : Nat → Int32) (G : Nat → Int64) (A : Nat → Int32 → Int32) (B : Nat → Int32 → Int64) (p1 : Int32) {Q : Option Value → WO → Prop} (h2 : p1 = (0 : Int32) → Q (some (.int (F 3))) (16, F, G, A, B)) (h4 : ¬ p1 = (0 : Int32) → p1 = (1 : Int32) → Q (some (.int (F 8))) (16, F, G, A, B)) (h6 : ¬ p1 = (0 : Int32) → ¬ p1 = (1 : Int32) → p1 = (2 : Int32) → Q (some (.int (F 12))) (16, F, G, A, B)) (h8 : ¬ p1 = (0 : Int32) → ¬ p1 = (1 : Int32) → ¬ p1 = (2 : Int32) → p1 = (3 : Int32) → Q (some (.int (F 9))) (16, F, G, A, B)) (s10 : ¬ p1 = (0 : Int32) → ¬ p1 = (1 : Int32) → ¬ p1 = (2 : Int32) → ¬ p1 = (3 : Int32) → p1 = (4 : Int32) → ¬ (F 1) = (0 : Int32)) (h11 : ¬ p1 = (0 : Int32) → ¬ p1 = (1 : Int32) → ¬ p1 = (2 : Int32) → ¬ p1 = (3 : Int32) → p1 = (4 : Int32) → Q (some (.int ((F 8) / (F 1)))) (16, F, G, A, B)) (h13 : ¬ p1 = (0 : Int32) → ¬ p1 = (1 : Int32) → ¬ p1 = (2 : Int32) → ¬ p1 = (3 : Int32) → ¬ p1 = (4 : Int32) → p1 = (5 : Int32) → Q (some (.int (F 13))) (16, F, G, A, B)) (h15 : ¬ p1 = (0 : Int32) → ¬ p1 = (1 : Int32) → ¬ p1 = (2 : Int32) → ¬ p1 = (3 : Int32) → ¬ p1 = (4 : Int32) → ¬ p1 = (5 : Int32) → p1 = (6 : Int32) → Q (some (.int (F 10))) (16, F, G, A, B)) (h17 : ¬ p1 = (0 : Int32) → ¬ p1 = (1 : Int32) → ¬ p1 = (2 : Int32) → ¬ p1 = (3 : Int32) → ¬ p1 = (4 : Int32) → ¬ p1 = (5 : Int32) → ¬ p1 = (6 : Int32) → p1 = (7 : Int32) → Q (some (.int (F 7))) (16, F, G, A, B)) (h19 : ¬ p1 = (0 : Int32) → ¬ p1 = (1 : Int32) → ¬ p1 = (2 : Int32) → ¬ p1 = (3 : Int32) → ¬ p1 = (4 : Int32) → ¬ p1 = (5 : Int32) → ¬ p1 = (6 : Int32) → ¬ p1 = (7 : Int32) → p1 = (8 : Int32) → Q (some (.int (F 5))) (16, F, G, A, B)) (h21 : ¬ p1 = (0 : Int32) → ¬ p1 = (1 : Int32) → ¬ p1 = (2 : Int32) → ¬ p1 = (3 : Int32) → ¬ p1 = (4 : Int32) → ¬ p1 = (5 : Int32) → ¬ p1 = (6 : Int32) → ¬ p1 = (7 : Int32) → ¬ p1 = (8 : Int32) → p1 = (9 : Int32) → Q (some (.int (F 6))) (16, F, G, A, B)) (s24 : ¬ p1 = (0 : Int32) → ¬ p1 = (1 : Int32) → ¬ p1 = (2 : Int32) → ¬ p1 = (3 : Int32) → ¬ p1 = (4 : Int32) → ¬ p1 = (5 : Int32) → ¬ p1 = (6 : Int32) → ¬ p1 = (7 : Int32) → ¬ p1 = (8 : Int32) → ¬ p1 = (9 : Int32) → p1 = (10 : Int32) → 0 < (F 6) → ¬ ((F 6) - (1 : Int32)) < 0) (s25 : ¬ p1 = (0 : Int32) → ¬ p1 = (1 : Int32) → ¬ p1 = (2 : Int32) → ¬ p1 = (3 : Int32) → ¬ p1 = (4 : Int32) → ¬ p1 = (5 : Int32) → ¬ p1 = (6 : Int32) → ¬ p1 = (7 : Int32) → ¬ p1 = (8 : Int32) → ¬ p1 = (9 : Int32) → p1 = (10 : Int32) → 0 < (F 6) → ((F 6) - (1 : Int32)) < (16 : Int32)) (h27 : ¬ p1 = (0 : Int32) → ¬ p1 = (1 : Int32) → ¬ p1 = (2 : Int32) → ¬ p1 = (3 : Int32) → ¬ p1 = (4 : Int32) → ¬ p1 = (5 : Int32) → ¬ p1 = (6 : Int32) → ¬ p1 = (7 : Int32) → ¬ p1 = (8 : Int32) → ¬ p1 = (9 : Int32) → p1 = (10 : Int32) → Q (some (.int (if 0 < (F 6) then ((A 3) ((F 6) - (1 : Int32))) else (0 : Int32)))) (16, F, G, A, B)) (h29 : ¬ p1 = (0 : Int32) → ¬ p1 = (1 : Int32) → ¬ p1 = (2 : Int32) → ¬ p1 = (3 : Int32) → ¬ p1 = (4 : Int32) → ¬ p1 = (5 : Int32) → ¬ p1 = (6 : Int32) → ¬ p1 = (7 : Int32) → ¬ p1 = (8 : Int32) → ¬ p1 = (9 : Int32) → ¬ p1 = (10 : Int32) → p1 = (11 : Int32) → Q (some (.int (F 4))) (16, F, G, A, B)) (h31 : ¬ p1 = (0 : Int32) → ¬ p1 = (1 : Int32) → ¬ p1 = (2 : Int32) → ¬ p1 = (3 : Int32) → ¬ p1 = (4 : Int32) → ¬ p1 = (5 : Int32) → ¬ p1 = (6 : Int32) → ¬ p1 = (7 : Int32) → ¬ p1 = (8 : Int32) → ¬ p1 = (9 : Int32) → ¬ p1 = (10 : Int32) → ¬ p1 = (11 : Int32) → p1 = (12 : Int32) → Q (some (.int (F 11))) (16, F, G, A, B)) (h32 : ¬ p1 = (0 : Int32) → ¬ p1 = (1 : Int32) → ¬ p1 = (2 : Int32) → ¬ p1 = (3 : Int32) → ¬ p1 = (4 : Int32) → ¬ p1 = (5 : Int32) → ¬ p1 = (6 : Int32) → ¬ p1 = (7 : Int32) → ¬ p1 = (8 : Int32) → ¬ p1 = (9 : Int32) → ¬ p1 = (10 : Int32) → ¬ p1 = (11 : Int32) → ¬ p1 = (12 : Int32) → Q (some (.int (0 : Int32))) (16, F, G, A, B)) :
    Wk l Z (MoC Z cdC) md_info 0 [.val (.ref 0), .val (.int p1)] [] (16, F, G, A, B) 0 0 Q := by
  refine Wk.iloadN o_info_0 rfl ?_
  by_cases q1 : p1 = (0 : Int32)
  · refine Wk.tswIn o_info_1_0 q1 (by decide) (by decide) ?_
    refine Wk.aloadN o_info_68 rfl ?_
    refine Wk.getI (mI_status) (wf_status H) o_info_69 (x := (F 3)) rfl ?_
    exact Wk.ireturn mrC rfl o_info_72 rfl (by decide) (by decide) (h2 q1)
  · by_cases q3 : p1 = (1 : Int32)
    · refine Wk.tswIn o_info_1_1 q3 (by decide) (by decide) ?_
      refine Wk.aloadN o_info_73 rfl ?_
      refine Wk.getI (mI_executed) (wf_executed H) o_info_74 (x := (F 8)) rfl ?_
      exact Wk.ireturn mrC rfl o_info_77 rfl (by decide) (by decide) (h4 q1 q3)
    · by_cases q5 : p1 = (2 : Int32)
      · refine Wk.tswIn o_info_1_2 q5 (by decide) (by decide) ?_
        refine Wk.aloadN o_info_78 rfl ?_
        refine Wk.getI (mI_iCount) (wf_iCount H) o_info_79 (x := (F 12)) rfl ?_
        exact Wk.ireturn mrC rfl o_info_82 rfl (by decide) (by decide) (h6 q1 q3 q5)
      · by_cases q7 : p1 = (3 : Int32)
        · refine Wk.tswIn o_info_1_3 q7 (by decide) (by decide) ?_
          refine Wk.aloadN o_info_83 rfl ?_
          refine Wk.getI (mI_overflow) (wf_overflow H) o_info_84 (x := (F 9)) rfl ?_
          exact Wk.ireturn mrC rfl o_info_87 rfl (by decide) (by decide) (h8 q1 q3 q5 q7)
        · by_cases q9 : p1 = (4 : Int32)
          · refine Wk.tswIn o_info_1_4 q9 (by decide) (by decide) ?_
            refine Wk.aloadN o_info_88 rfl ?_
            refine Wk.getI (mI_executed) (wf_executed H) o_info_89 (x := (F 8)) rfl ?_
            refine Wk.aloadN o_info_92 rfl ?_
            refine Wk.getI (mI_period) (wf_period H) o_info_93 (x := (F 1)) rfl ?_
            refine Wk.idiv o_info_96 (s10 q1 q3 q5 q7 q9) ?_
            exact Wk.ireturn mrC rfl o_info_97 rfl (by decide) (by decide) (h11 q1 q3 q5 q7 q9)
          · by_cases q12 : p1 = (5 : Int32)
            · refine Wk.tswIn o_info_1_5 q12 (by decide) (by decide) ?_
              refine Wk.aloadN o_info_98 rfl ?_
              refine Wk.getI (mI_sCount) (wf_sCount H) o_info_99 (x := (F 13)) rfl ?_
              exact Wk.ireturn mrC rfl o_info_102 rfl (by decide) (by decide) (h13 q1 q3 q5 q7 q9 q12)
            · by_cases q14 : p1 = (6 : Int32)
              · refine Wk.tswIn o_info_1_6 q14 (by decide) (by decide) ?_
                refine Wk.aloadN o_info_103 rfl ?_
                refine Wk.getI (mI_sampledOverflow) (wf_sampledOverflow H) o_info_104 (x := (F 10)) rfl ?_
                exact Wk.ireturn mrC rfl o_info_107 rfl (by decide) (by decide) (h15 q1 q3 q5 q7 q9 q12 q14)
              · by_cases q16 : p1 = (7 : Int32)
                · refine Wk.tswIn o_info_1_7 q16 (by decide) (by decide) ?_
                  refine Wk.aloadN o_info_108 rfl ?_
                  refine Wk.getI (mI_depth) (wf_depth H) o_info_109 (x := (F 7)) rfl ?_
                  exact Wk.ireturn mrC rfl o_info_112 rfl (by decide) (by decide) (h17 q1 q3 q5 q7 q9 q12 q14 q16)
                · by_cases q18 : p1 = (8 : Int32)
                  · refine Wk.tswIn o_info_1_8 q18 (by decide) (by decide) ?_
                    refine Wk.aloadN o_info_113 rfl ?_
                    refine Wk.getI (mI_pc) (wf_pc H) o_info_114 (x := (F 5)) rfl ?_
                    exact Wk.ireturn mrC rfl o_info_117 rfl (by decide) (by decide) (h19 q1 q3 q5 q7 q9 q12 q14 q16 q18)
                  · by_cases q20 : p1 = (9 : Int32)
                    · refine Wk.tswIn o_info_1_9 q20 (by decide) (by decide) ?_
                      refine Wk.aloadN o_info_118 rfl ?_
                      refine Wk.getI (mI_sp) (wf_sp H) o_info_119 (x := (F 6)) rfl ?_
                      exact Wk.ireturn mrC rfl o_info_122 rfl (by decide) (by decide) (h21 q1 q3 q5 q7 q9 q12 q14 q16 q18 q20)
                    · by_cases q22 : p1 = (10 : Int32)
                      · refine Wk.tswIn o_info_1_10 q22 (by decide) (by decide) ?_
                        refine Wk.aloadN o_info_123 rfl ?_
                        refine Wk.getI (mI_sp) (wf_sp H) o_info_124 (x := (F 6)) rfl ?_
                        have J26 : Wk l Z (MoC Z cdC) md_info 145 [.val (.ref 0), .val (.int p1)] [.int (if 0 < (F 6) then ((A 3) ((F 6) - (1 : Int32))) else (0 : Int32))] (16, F, G, A, B) 0 0 Q := by
                          exact Wk.ireturn mrC rfl o_info_145 rfl (by decide) (by decide) (h27 q1 q3 q5 q7 q9 q12 q14 q16 q18 q20 q22)
                        refine Wk.if_le o_info_127 (fun q23 => ?_) (fun q23 => ?_)
                        · refine Wk.iconst o_info_144 (z := (0 : Int32)) (by decide) ?_
                          first | (rw [show ((if 0 < (F 6) then ((A 3) ((F 6) - (1 : Int32))) else (0 : Int32)) : Int32) = (0 : Int32) from if_neg q23] at J26; exact J26) | exact J26 | (simp only [if_neg q23] at J26 ⊢; exact J26)
                        · refine Wk.aloadN o_info_130 rfl ?_
                          refine Wk.getA (mA_stack) (by decide) (i' := 4) rfl (wf_stack H) o_info_131 ?_
                          refine Wk.aloadN o_info_134 rfl ?_
                          refine Wk.getI (mI_sp) (wf_sp H) o_info_135 (x := (F 6)) rfl ?_
                          refine Wk.iconst o_info_138 (z := (1 : Int32)) (by decide) ?_
                          refine Wk.isub o_info_139 ?_
                          refine Wk.iaload (mA_stack) (by decide) (i' := 4) rfl (s24 q1 q3 q5 q7 q9 q12 q14 q16 q18 q20 q22 q23) (s25 q1 q3 q5 q7 q9 q12 q14 q16 q18 q20 q22 q23) o_info_140 (y := ((A 3) ((F 6) - (1 : Int32)))) rfl ?_
                          refine Wk.goto o_info_141 ?_
                          first | (rw [show ((if 0 < (F 6) then ((A 3) ((F 6) - (1 : Int32))) else (0 : Int32)) : Int32) = ((A 3) ((F 6) - (1 : Int32))) from if_pos q23] at J26; exact J26) | exact J26 | (simp only [if_pos q23] at J26 ⊢; exact J26)
                      · by_cases q28 : p1 = (11 : Int32)
                        · refine Wk.tswIn o_info_1_11 q28 (by decide) (by decide) ?_
                          refine Wk.aloadN o_info_146 rfl ?_
                          refine Wk.getI (mI_codeSize) (wf_codeSize H) o_info_147 (x := (F 4)) rfl ?_
                          exact Wk.ireturn mrC rfl o_info_150 rfl (by decide) (by decide) (h29 q1 q3 q5 q7 q9 q12 q14 q16 q18 q20 q22 q28)
                        · by_cases q30 : p1 = (12 : Int32)
                          · refine Wk.tswIn o_info_1_12 q30 (by decide) (by decide) ?_
                            refine Wk.aloadN o_info_151 rfl ?_
                            refine Wk.getI (mI_qLen) (wf_qLen H) o_info_152 (x := (F 11)) rfl ?_
                            exact Wk.ireturn mrC rfl o_info_155 rfl (by decide) (by decide) (h31 q1 q3 q5 q7 q9 q12 q14 q16 q18 q20 q22 q28 q30)
                          · refine Wk.tswOut o_info_1_d (by have a0 : Int32.toInt p1 ≠ 0 := ne_toInt q1; have a1 : Int32.toInt p1 ≠ 1 := ne_toInt q3; have a2 : Int32.toInt p1 ≠ 2 := ne_toInt q5; have a3 : Int32.toInt p1 ≠ 3 := ne_toInt q7; have a4 : Int32.toInt p1 ≠ 4 := ne_toInt q9; have a5 : Int32.toInt p1 ≠ 5 := ne_toInt q12; have a6 : Int32.toInt p1 ≠ 6 := ne_toInt q14; have a7 : Int32.toInt p1 ≠ 7 := ne_toInt q16; have a8 : Int32.toInt p1 ≠ 8 := ne_toInt q18; have a9 : Int32.toInt p1 ≠ 9 := ne_toInt q20; have a10 : Int32.toInt p1 ≠ 10 := ne_toInt q22; have a11 : Int32.toInt p1 ≠ 11 := ne_toInt q28; have a12 : Int32.toInt p1 ≠ 12 := ne_toInt q30; omega) ?_
                            refine Wk.iconst o_info_156 (z := (0 : Int32)) (by decide) ?_
                            exact Wk.ireturn mrC rfl o_info_157 rfl (by decide) (by decide) (h32 q1 q3 q5 q7 q9 q12 q14 q16 q18 q20 q22 q28 q30)

def f_info (F : Nat → Int32) (A : Nat → Int32 → Int32) (p1 : Int32) : Int32 := (if p1 = (0 : Int32) then (F 3) else (if p1 = (1 : Int32) then (F 8) else (if p1 = (2 : Int32) then (F 12) else (if p1 = (3 : Int32) then (F 9) else (if p1 = (4 : Int32) then ((F 8) / (F 1)) else (if p1 = (5 : Int32) then (F 13) else (if p1 = (6 : Int32) then (F 10) else (if p1 = (7 : Int32) then (F 7) else (if p1 = (8 : Int32) then (F 5) else (if p1 = (9 : Int32) then (F 6) else (if p1 = (10 : Int32) then (if 0 < (F 6) then ((A 3) ((F 6) - (1 : Int32))) else (0 : Int32)) else (if p1 = (11 : Int32) then (F 4) else (if p1 = (12 : Int32) then (F 11) else (0 : Int32))))))))))))))
theorem e_info (F : Nat → Int32) (A : Nat → Int32 → Int32) (p1 : Int32) : f_info F A p1 = (if p1 = (0 : Int32) then (F 3) else (if p1 = (1 : Int32) then (F 8) else (if p1 = (2 : Int32) then (F 12) else (if p1 = (3 : Int32) then (F 9) else (if p1 = (4 : Int32) then ((F 8) / (F 1)) else (if p1 = (5 : Int32) then (F 13) else (if p1 = (6 : Int32) then (F 10) else (if p1 = (7 : Int32) then (F 7) else (if p1 = (8 : Int32) then (F 5) else (if p1 = (9 : Int32) then (F 6) else (if p1 = (10 : Int32) then (if 0 < (F 6) then ((A 3) ((F 6) - (1 : Int32))) else (0 : Int32)) else (if p1 = (11 : Int32) then (F 4) else (if p1 = (12 : Int32) then (F 11) else (0 : Int32)))))))))))))) := Eq.trans rfl rfl
theorem run_info {l : Launch} {Z : State} {a0 : Array Value} (H : OK Z a0) (F : Nat → Int32) (G : Nat → Int64) (A : Nat → Int32 → Int32) (B : Nat → Int32 → Int64) (p1 : Int32) (e1 : ¬ (F 1) = 0) (e2 : ¬ (16 : Int32) < (F 6)) :
    Wk l Z (MoC Z cdC) md_info 0 [.val (.ref 0), .val (.int p1)] [] (16, F, G, A, B) 0 0 (fun v w' => v = some (.int (f_info F A p1)) ∧ w' = (16, F, G, A, B)) :=
  wp_info H F G A B p1 (fun q1 => ⟨by simp only [e_info, if_pos q1], rfl⟩) (fun q1 q3 => ⟨by simp only [e_info, if_neg q1, if_pos q3], rfl⟩) (fun q1 q3 q5 => ⟨by simp only [e_info, if_neg q1, if_neg q3, if_pos q5], rfl⟩) (fun q1 q3 q5 q7 => ⟨by simp only [e_info, if_neg q1, if_neg q3, if_neg q5, if_pos q7], rfl⟩) (by intros; first | assumption | grind) (fun q1 q3 q5 q7 q9 => ⟨by simp only [e_info, if_neg q1, if_neg q3, if_neg q5, if_neg q7, if_pos q9], rfl⟩) (fun q1 q3 q5 q7 q9 q12 => ⟨by simp only [e_info, if_neg q1, if_neg q3, if_neg q5, if_neg q7, if_neg q9, if_pos q12], rfl⟩) (fun q1 q3 q5 q7 q9 q12 q14 => ⟨by simp only [e_info, if_neg q1, if_neg q3, if_neg q5, if_neg q7, if_neg q9, if_neg q12, if_pos q14], rfl⟩) (fun q1 q3 q5 q7 q9 q12 q14 q16 => ⟨by simp only [e_info, if_neg q1, if_neg q3, if_neg q5, if_neg q7, if_neg q9, if_neg q12, if_neg q14, if_pos q16], rfl⟩) (fun q1 q3 q5 q7 q9 q12 q14 q16 q18 => ⟨by simp only [e_info, if_neg q1, if_neg q3, if_neg q5, if_neg q7, if_neg q9, if_neg q12, if_neg q14, if_neg q16, if_pos q18], rfl⟩) (fun q1 q3 q5 q7 q9 q12 q14 q16 q18 q20 => ⟨by simp only [e_info, if_neg q1, if_neg q3, if_neg q5, if_neg q7, if_neg q9, if_neg q12, if_neg q14, if_neg q16, if_neg q18, if_pos q20], rfl⟩) (by intros; first | assumption | grind) (by intros; first | assumption | grind) (fun q1 q3 q5 q7 q9 q12 q14 q16 q18 q20 q22 => ⟨by simp only [e_info, if_neg q1, if_neg q3, if_neg q5, if_neg q7, if_neg q9, if_neg q12, if_neg q14, if_neg q16, if_neg q18, if_neg q20, if_pos q22], rfl⟩) (fun q1 q3 q5 q7 q9 q12 q14 q16 q18 q20 q22 q28 => ⟨by simp only [e_info, if_neg q1, if_neg q3, if_neg q5, if_neg q7, if_neg q9, if_neg q12, if_neg q14, if_neg q16, if_neg q18, if_neg q20, if_neg q22, if_pos q28], rfl⟩) (fun q1 q3 q5 q7 q9 q12 q14 q16 q18 q20 q22 q28 q30 => ⟨by simp only [e_info, if_neg q1, if_neg q3, if_neg q5, if_neg q7, if_neg q9, if_neg q12, if_neg q14, if_neg q16, if_neg q18, if_neg q20, if_neg q22, if_neg q28, if_pos q30], rfl⟩) (fun q1 q3 q5 q7 q9 q12 q14 q16 q18 q20 q22 q28 q30 => ⟨by simp only [e_info, if_neg q1, if_neg q3, if_neg q5, if_neg q7, if_neg q9, if_neg q12, if_neg q14, if_neg q16, if_neg q18, if_neg q20, if_neg q22, if_neg q28, if_neg q30], rfl⟩)
def findGo (a b : Int32 → Int32) (p f : Int32) : Nat → Int32 → Int32
  | 0, _ => -1
  | n + 1, i => if a i = p then (if b i = f then i else findGo a b p f n (i + 1)) else findGo a b p f n (i + 1)
theorem findGo_z (a b : Int32 → Int32) (p f i : Int32) : findGo a b p f 0 i = -1 := Eq.trans rfl rfl
theorem findGo_s (a b : Int32 → Int32) (p f : Int32) (n : Nat) (i : Int32) : findGo a b p f (n + 1) i = if a i = p then (if b i = f then i else findGo a b p f n (i + 1)) else findGo a b p f n (i + 1) := Eq.trans rfl rfl
theorem findGo_in (a b : Int32 → Int32) (p f c : Int32) : ∀ (n : Nat) (i : Int32), ¬ i < 0 → i.toInt + n ≤ c.toInt → findGo a b p f n i < 0 ∨ findGo a b p f n i < c
  | 0, i, _, _ => .inl (by rw [findGo_z]; decide)
  | n + 1, i, h0, hn => by
    have hlt : i < c := lt_i.mpr (by omega)
    have e := succ_toInt hlt
    have z : (0 : Int32).toInt = 0 := by decide
    have ih := findGo_in a b p f c n (i + 1) (by rw [lt_i] at h0 ⊢; omega) (by omega)
    rw [findGo_s]; split
    · split
      · exact .inr hlt
      · exact ih
    · exact ih
set_option maxRecDepth 65536 in
set_option maxHeartbeats 4000000 in
theorem wp_findInstrChild {l : Launch} {Z : State} {a0 : Array Value} (H : OK Z a0) (F : Nat → Int32) (G : Nat → Int64) (A : Nat → Int32 → Int32) (B : Nat → Int32 → Int64) (p1 : Int32) (p2 : Int32) {Q : Option Value → WO → Prop} (h1 : Wk l Z (MoC Z cdC) md_findInstrChild 2 [.val (.ref 0), .val (.int p1), .val (.int p2), .val (.int (1 : Int32))] [] (16, F, G, A, B) 0 0 Q) :
    Wk l Z (MoC Z cdC) md_findInstrChild 0 [.val (.ref 0), .val (.int p1), .val (.int p2), .unset] [] (16, F, G, A, B) 0 0 Q := by
  refine Wk.iconst o_findInstrChild_0 (z := (1 : Int32)) (by decide) ?_
  refine Wk.istoreN o_findInstrChild_1 (Or.inl rfl) (L' := [.val (.ref 0), .val (.int p1), .val (.int p2), .val (.int (1 : Int32))]) rfl ?_
  exact h1

set_option maxRecDepth 65536 in
set_option maxHeartbeats 4000000 in
theorem wp_findInstrChild_2 {l : Launch} {Z : State} {a0 : Array Value} (H : OK Z a0) (F : Nat → Int32) (G : Nat → Int64) (A : Nat → Int32 → Int32) (B : Nat → Int32 → Int64) (v1 : Int32) (v2 : Int32) (v3 : Int32) {Q : Option Value → WO → Prop} (h2 : ¬ v3 < (F 12) → Q (some (.int (-1 : Int32))) (16, F, G, A, B)) (s3 : v3 < (F 12) → ¬ v3 < 0) (s4 : v3 < (F 12) → v3 < (32 : Int32)) (h6 : v3 < (F 12) → ¬ ((A 7) v3) = v1 → Wk l Z (MoC Z cdC) md_findInstrChild 2 [.val (.ref 0), .val (.int v1), .val (.int v2), .val (.int (v3 + (1 : Int32)))] [] (16, F, G, A, B) 0 0 Q) (s7 : v3 < (F 12) → ((A 7) v3) = v1 → ¬ v3 < 0) (s8 : v3 < (F 12) → ((A 7) v3) = v1 → v3 < (32 : Int32)) (h10 : v3 < (F 12) → ((A 7) v3) = v1 → ¬ ((A 8) v3) = v2 → Wk l Z (MoC Z cdC) md_findInstrChild 2 [.val (.ref 0), .val (.int v1), .val (.int v2), .val (.int (v3 + (1 : Int32)))] [] (16, F, G, A, B) 0 0 Q) (h11 : v3 < (F 12) → ((A 7) v3) = v1 → ((A 8) v3) = v2 → Q (some (.int v3)) (16, F, G, A, B)) :
    Wk l Z (MoC Z cdC) md_findInstrChild 2 [.val (.ref 0), .val (.int v1), .val (.int v2), .val (.int v3)] [] (16, F, G, A, B) 0 0 Q := by
  refine Wk.iloadN o_findInstrChild_2 rfl ?_
  refine Wk.aloadN o_findInstrChild_3 rfl ?_
  refine Wk.getI (mI_iCount) (wf_iCount H) o_findInstrChild_4 (x := (F 12)) rfl ?_
  refine Wk.icmp_ge o_findInstrChild_7 (fun q1 => ?_) (fun q1 => ?_)
  · refine Wk.iconst o_findInstrChild_38 (z := (-1 : Int32)) (by decide) ?_
    exact Wk.ireturn mrC rfl o_findInstrChild_39 rfl (by decide) (by decide) (h2 q1)
  · refine Wk.aloadN o_findInstrChild_10 rfl ?_
    refine Wk.getA (mA_iParent) (by decide) (i' := 8) rfl (wf_iParent H) o_findInstrChild_11 ?_
    refine Wk.iloadN o_findInstrChild_14 rfl ?_
    refine Wk.iaload (mA_iParent) (by decide) (i' := 8) rfl (s3 q1) (s4 q1) o_findInstrChild_15 (y := ((A 7) v3)) rfl ?_
    refine Wk.iloadN o_findInstrChild_16 rfl ?_
    refine Wk.icmp_ne o_findInstrChild_17 (fun q5 => ?_) (fun q5 => ?_)
    · refine Wk.iinc o_findInstrChild_32 rfl (z := (v3 + (1 : Int32))) rfl (L' := [.val (.ref 0), .val (.int v1), .val (.int v2), .val (.int (v3 + (1 : Int32)))]) rfl ?_
      refine Wk.goto o_findInstrChild_35 ?_
      exact (h6 q1 q5)
    · refine Wk.aloadN o_findInstrChild_20 rfl ?_
      refine Wk.getA (mA_iFunc) (by decide) (i' := 9) rfl (wf_iFunc H) o_findInstrChild_21 ?_
      refine Wk.iloadN o_findInstrChild_24 rfl ?_
      refine Wk.iaload (mA_iFunc) (by decide) (i' := 9) rfl (s7 q1 q5) (s8 q1 q5) o_findInstrChild_25 (y := ((A 8) v3)) rfl ?_
      refine Wk.iloadN o_findInstrChild_26 rfl ?_
      refine Wk.icmp_ne o_findInstrChild_27 (fun q9 => ?_) (fun q9 => ?_)
      · refine Wk.iinc o_findInstrChild_32 rfl (z := (v3 + (1 : Int32))) rfl (L' := [.val (.ref 0), .val (.int v1), .val (.int v2), .val (.int (v3 + (1 : Int32)))]) rfl ?_
        refine Wk.goto o_findInstrChild_35 ?_
        exact (h10 q1 q5 q9)
      · refine Wk.iloadN o_findInstrChild_30 rfl ?_
        exact Wk.ireturn mrC rfl o_findInstrChild_31 rfl (by decide) (by decide) (h11 q1 q5 q9)

theorem loop_findInstrChild {l : Launch} {Z : State} {a0 : Array Value} (H : OK Z a0) (F : Nat → Int32) (G : Nat → Int64) (A : Nat → Int32 → Int32) (B : Nat → Int32 → Int64) (p1 p2 : Int32) (hc : ¬ (32 : Int32) < F 12) : ∀ (n : Nat) (i : Int32), ¬ i < 0 → ((F 12).toInt - i.toInt).toNat = n →
    Wk l Z (MoC Z cdC) md_findInstrChild 2 [.val (.ref 0), .val (.int p1), .val (.int p2), .val (.int i)] [] (16, F, G, A, B) 0 0 (fun v w' => v = some (.int (findGo (A 7) (A 8) p1 p2 n i)) ∧ w' = (16, F, G, A, B))
  | 0, i, h0, hk => by
    have hn : ¬ i < F 12 := by rw [lt_i]; omega
    exact wp_findInstrChild_2 H F G A B p1 p2 i (fun _ => ⟨by rw [findGo_z], rfl⟩) (fun q0 => absurd q0 hn) (fun q0 => absurd q0 hn) (fun q0 q1 => absurd q0 hn) (fun q0 q1 => absurd q0 hn) (fun q0 q1 => absurd q0 hn) (fun q0 q1 q2 => absurd q0 hn) (fun q0 q1 q2 => absurd q0 hn)
  | n + 1, i, h0, hk => by
    have hlt : i < F 12 := lt_i.mpr (by omega)
    have e := succ_toInt hlt
    have z : (0 : Int32).toInt = 0 := by decide
    have hi : i < 32 := by grind
    have ih := loop_findInstrChild (l := l) H F G A B p1 p2 hc n (i + 1) (by rw [lt_i] at h0 ⊢; omega) (by omega)
    exact wp_findInstrChild_2 H F G A B p1 p2 i (fun q0 => absurd hlt q0) (fun q0 => (by first | exact h0 | (exact hi))) (fun q0 => (by first | exact h0 | (exact hi))) (fun q0 q1 => by simp only [findGo_s, if_neg q1]; exact ih) (fun q0 q1 => (by first | exact h0 | (exact hi))) (fun q0 q1 => (by first | exact h0 | (exact hi))) (fun q0 q1 q2 => by simp only [findGo_s, if_pos q1, if_neg q2]; exact ih) (fun q0 q1 q2 => ⟨by rw [findGo_s, if_pos q1, if_pos q2], rfl⟩)
def f_findInstrChild (F : Nat → Int32) (A : Nat → Int32 → Int32) (p1 p2 : Int32) : Int32 := findGo (A 7) (A 8) p1 p2 ((F 12).toInt - 1).toNat 1
theorem e_findInstrChild (F : Nat → Int32) (A : Nat → Int32 → Int32) (p1 p2 : Int32) : f_findInstrChild F A p1 p2 = findGo (A 7) (A 8) p1 p2 ((F 12).toInt - 1).toNat 1 := Eq.trans rfl rfl
theorem run_findInstrChild {l : Launch} {Z : State} {a0 : Array Value} (H : OK Z a0) (F : Nat → Int32) (G : Nat → Int64) (A : Nat → Int32 → Int32) (B : Nat → Int32 → Int64) (p1 p2 : Int32) (hc : ¬ (32 : Int32) < F 12) : Wk l Z (MoC Z cdC) md_findInstrChild 0 [.val (.ref 0), .val (.int p1), .val (.int p2), .unset] [] (16, F, G, A, B) 0 0 (fun v w' => v = some (.int (f_findInstrChild F A p1 p2)) ∧ w' = (16, F, G, A, B)) :=
  wp_findInstrChild H F G A B p1 p2 (loop_findInstrChild H F G A B p1 p2 hc _ 1 (by decide) (by rw [show (1 : Int32).toInt = 1 from by decide]))
def qGo (find : Int32 → Int32 → Int32) (q : Int32 → Int32) : Nat → Int32 → Int32 → Int32
  | 0, _, v => v
  | n + 1, k, v => if find v (q k) < 0 then -1 else qGo find q n (k + 1) (find v (q k))
theorem qGo_z (find : Int32 → Int32 → Int32) (q : Int32 → Int32) (k v : Int32) : qGo find q 0 k v = v := Eq.trans rfl rfl
theorem qGo_s (find : Int32 → Int32 → Int32) (q : Int32 → Int32) (n : Nat) (k v : Int32) : qGo find q (n + 1) k v = if find v (q k) < 0 then -1 else qGo find q n (k + 1) (find v (q k)) := Eq.trans rfl rfl
theorem qGo_in (find : Int32 → Int32 → Int32) (q : Int32 → Int32) (hf : ∀ a b, find a b < 32) : ∀ (n : Nat) (k v : Int32), v < 32 → qGo find q n k v < 32
  | 0, _, _, h => by rw [qGo_z]; exact h
  | n + 1, k, v, _ => by
    rw [qGo_s]; split
    · decide
    · exact qGo_in find q hf n _ _ (hf _ _)
set_option maxRecDepth 65536 in
set_option maxHeartbeats 4000000 in
theorem wp_queryInstrNode {l : Launch} {Z : State} {a0 : Array Value} (H : OK Z a0) (F : Nat → Int32) (G : Nat → Int64) (A : Nat → Int32 → Int32) (B : Nat → Int32 → Int64) {Q : Option Value → WO → Prop} (h2 : ¬ 0 < (F 11) → Q (some (.int (-1 : Int32))) (16, F, G, A, B)) (h4 : 0 < (F 11) → ((A 15) (0 : Int32)) = 0 → Wk l Z (MoC Z cdC) md_queryInstrNode 22 [.val (.ref 0), .val (.int (0 : Int32)), .val (.int (1 : Int32)), .unset] [] (16, F, G, A, B) 0 0 Q) (h5 : 0 < (F 11) → ¬ ((A 15) (0 : Int32)) = 0 → Q (some (.int (-1 : Int32))) (16, F, G, A, B)) :
    Wk l Z (MoC Z cdC) md_queryInstrNode 0 [.val (.ref 0), .unset, .unset, .unset] [] (16, F, G, A, B) 0 0 Q := by
  refine Wk.aloadN o_queryInstrNode_0 rfl ?_
  refine Wk.getI (mI_qLen) (wf_qLen H) o_queryInstrNode_1 (x := (F 11)) rfl ?_
  refine Wk.if_le o_queryInstrNode_4 (fun q1 => ?_) (fun q1 => ?_)
  · refine Wk.iconst o_queryInstrNode_16 (z := (-1 : Int32)) (by decide) ?_
    exact Wk.ireturn mrC rfl o_queryInstrNode_17 rfl (by decide) (by decide) (h2 q1)
  · refine Wk.aloadN o_queryInstrNode_7 rfl ?_
    refine Wk.getA (mA_query) (by decide) (i' := 16) rfl (wf_query H) o_queryInstrNode_8 ?_
    refine Wk.iconst o_queryInstrNode_11 (z := (0 : Int32)) (by decide) ?_
    refine Wk.iaload (mA_query) (by decide) (i' := 16) rfl (by decide) (by decide) o_queryInstrNode_12 (y := ((A 15) (0 : Int32))) rfl ?_
    refine Wk.if_eq o_queryInstrNode_13 (fun q3 => ?_) (fun q3 => ?_)
    · refine Wk.iconst o_queryInstrNode_18 (z := (0 : Int32)) (by decide) ?_
      refine Wk.istoreN o_queryInstrNode_19 (Or.inl rfl) (L' := [.val (.ref 0), .val (.int (0 : Int32)), .unset, .unset]) rfl ?_
      refine Wk.iconst o_queryInstrNode_20 (z := (1 : Int32)) (by decide) ?_
      refine Wk.istoreN o_queryInstrNode_21 (Or.inl rfl) (L' := [.val (.ref 0), .val (.int (0 : Int32)), .val (.int (1 : Int32)), .unset]) rfl ?_
      exact (h4 q1 q3)
    · refine Wk.iconst o_queryInstrNode_16 (z := (-1 : Int32)) (by decide) ?_
      exact Wk.ireturn mrC rfl o_queryInstrNode_17 rfl (by decide) (by decide) (h5 q1 q3)

set_option maxRecDepth 65536 in
set_option maxHeartbeats 4000000 in
theorem wp_queryInstrNode_22 {l : Launch} {Z : State} {a0 : Array Value} (H : OK Z a0) (F : Nat → Int32) (G : Nat → Int64) (A : Nat → Int32 → Int32) (B : Nat → Int32 → Int64) (v1 : Int32) (v2 : Int32) {Q : Option Value → WO → Prop} (h2 : ¬ v2 < (F 11) → Q (some (.int v1)) (16, F, G, A, B)) (s3 : v2 < (F 11) → ¬ v2 < 0) (s4 : v2 < (F 11) → v2 < (16 : Int32)) (s5 : v2 < (F 11) → ¬ (32 : Int32) < F 12) (h7 : v2 < (F 11) → ¬ (f_findInstrChild F A v1 ((A 15) v2)) < 0 → Wk l Z (MoC Z cdC) md_queryInstrNode 22 [.val (.ref 0), .val (.int (f_findInstrChild F A v1 ((A 15) v2))), .val (.int (v2 + (1 : Int32))), .unset] [] (16, F, G, A, B) 0 0 Q) (h8 : v2 < (F 11) → (f_findInstrChild F A v1 ((A 15) v2)) < 0 → Q (some (.int (-1 : Int32))) (16, F, G, A, B)) :
    Wk l Z (MoC Z cdC) md_queryInstrNode 22 [.val (.ref 0), .val (.int v1), .val (.int v2), .unset] [] (16, F, G, A, B) 0 0 Q := by
  refine Wk.iloadN o_queryInstrNode_22 rfl ?_
  refine Wk.aloadN o_queryInstrNode_23 rfl ?_
  refine Wk.getI (mI_qLen) (wf_qLen H) o_queryInstrNode_24 (x := (F 11)) rfl ?_
  refine Wk.icmp_ge o_queryInstrNode_27 (fun q1 => ?_) (fun q1 => ?_)
  · refine Wk.iloadN o_queryInstrNode_56 rfl ?_
    exact Wk.ireturn mrC rfl o_queryInstrNode_57 rfl (by decide) (by decide) (h2 q1)
  · refine Wk.aloadN o_queryInstrNode_30 rfl ?_
    refine Wk.getA (mA_query) (by decide) (i' := 16) rfl (wf_query H) o_queryInstrNode_31 ?_
    refine Wk.iloadN o_queryInstrNode_34 rfl ?_
    refine Wk.iaload (mA_query) (by decide) (i' := 16) rfl (s3 q1) (s4 q1) o_queryInstrNode_35 (y := ((A 15) v2)) rfl ?_
    refine Wk.istoreN o_queryInstrNode_36 (Or.inl rfl) (L' := [.val (.ref 0), .val (.int v1), .val (.int v2), .val (.int ((A 15) v2))]) rfl ?_
    refine Wk.aloadN o_queryInstrNode_37 rfl ?_
    refine Wk.iloadN o_queryInstrNode_38 rfl ?_
    refine Wk.iloadN o_queryInstrNode_39 rfl ?_
    refine Wk.callF [.int v1, .int ((A 15) v2)] [] (H.w 126 rfl) (cv_findInstrChild H) o_queryInstrNode_40 (run_findInstrChild H F G A B v1 ((A 15) v2) (s5 q1)) (wt := 0) (cu' := 0) (su' := 0) (by decide) rfl rfl rfl rfl rfl rfl rfl ?_
    refine Wk.istoreN o_queryInstrNode_43 (Or.inr ⟨_, rfl, rfl⟩) (L' := [.val (.ref 0), .val (.int (f_findInstrChild F A v1 ((A 15) v2))), .val (.int v2), .val (.int ((A 15) v2))]) rfl ?_
    refine Wk.iloadN o_queryInstrNode_44 rfl ?_
    refine Wk.if_ge o_queryInstrNode_45 (fun q6 => ?_) (fun q6 => ?_)
    · refine Wk.iinc o_queryInstrNode_50 rfl (z := (v2 + (1 : Int32))) rfl (L' := [.val (.ref 0), .val (.int (f_findInstrChild F A v1 ((A 15) v2))), .val (.int (v2 + (1 : Int32))), .val (.int ((A 15) v2))]) rfl ?_
      refine Wk.goto o_queryInstrNode_53 ?_
      refine Wk.forget [false, false, false, true] (L' := [.val (.ref 0), .val (.int (f_findInstrChild F A v1 ((A 15) v2))), .val (.int (v2 + (1 : Int32))), .unset]) rfl rfl ?_
      exact (h7 q1 q6)
    · refine Wk.iconst o_queryInstrNode_48 (z := (-1 : Int32)) (by decide) ?_
      exact Wk.ireturn mrC rfl o_queryInstrNode_49 rfl (by decide) (by decide) (h8 q1 q6)

theorem in_findInstrChild (F : Nat → Int32) (A : Nat → Int32 → Int32) (a b : Int32) (hc : ¬ (32 : Int32) < F 12) : f_findInstrChild F A a b < 32 := by
  rw [e_findInstrChild]
  by_cases h : (F 12).toInt < 1
  · have e : ((F 12).toInt - 1).toNat = 0 := by omega
    rw [e, findGo_z]; decide
  · have t := findGo_in (A 7) (A 8) a b (F 12) ((F 12).toInt - 1).toNat 1 (by decide) (by rw [show (1 : Int32).toInt = 1 from by decide]; omega)
    rcases t with t | t
    · exact Int32.lt_trans t (by decide)
    · grind
theorem loop_queryInstrNode {l : Launch} {Z : State} {a0 : Array Value} (H : OK Z a0) (F : Nat → Int32) (G : Nat → Int64) (A : Nat → Int32 → Int32) (B : Nat → Int32 → Int64) (hq : ¬ (16 : Int32) < F 11) (hc : ¬ (32 : Int32) < F 12) : ∀ (n : Nat) (i v : Int32), ¬ i < 0 → ((F 11).toInt - i.toInt).toNat = n →
    Wk l Z (MoC Z cdC) md_queryInstrNode 22 [.val (.ref 0), .val (.int v), .val (.int i), .unset] [] (16, F, G, A, B) 0 0 (fun u w' => u = some (.int (qGo (f_findInstrChild F A) (A 15) n i v)) ∧ w' = (16, F, G, A, B))
  | 0, i, v, h0, hk => by
    have hn : ¬ i < F 11 := by rw [lt_i]; omega
    exact wp_queryInstrNode_22 H F G A B v i (fun _ => ⟨by rw [qGo_z], rfl⟩) (fun h => absurd h hn) (fun h => absurd h hn) (fun h => absurd h hn) (fun h _ => absurd h hn) (fun h _ => absurd h hn)
  | n + 1, i, v, h0, hk => by
    have hlt : i < F 11 := lt_i.mpr (by omega)
    have e := succ_toInt hlt
    have z : (0 : Int32).toInt = 0 := by decide
    have hi : i < 16 := by grind
    exact wp_queryInstrNode_22 H F G A B v i (fun h => absurd hlt h) (fun _ => h0) (fun _ => hi) (fun _ => hc)
      (fun _ q => by simp only [qGo_s, if_neg q]; exact loop_queryInstrNode (l := l) H F G A B hq hc n (i + 1) _ (by rw [lt_i] at h0 ⊢; omega) (by omega)) (fun _ q => ⟨by rw [qGo_s, if_pos q], rfl⟩)
def f_queryInstrNode (F : Nat → Int32) (A : Nat → Int32 → Int32) : Int32 := if 0 < F 11 then (if A 15 0 = 0 then qGo (f_findInstrChild F A) (A 15) ((F 11).toInt - 1).toNat 1 0 else -1) else -1
theorem e_queryInstrNode (F : Nat → Int32) (A : Nat → Int32 → Int32) : f_queryInstrNode F A = if 0 < F 11 then (if A 15 0 = 0 then qGo (f_findInstrChild F A) (A 15) ((F 11).toInt - 1).toNat 1 0 else -1) else -1 := Eq.trans rfl rfl
theorem in_queryInstrNode (F : Nat → Int32) (A : Nat → Int32 → Int32) (hc : ¬ (32 : Int32) < F 12) : f_queryInstrNode F A < 32 := by
  rw [e_queryInstrNode]
  split
  · split
    · exact qGo_in _ _ (fun a b => in_findInstrChild F A a b hc) _ _ _ (by decide)
    · decide
  · decide
theorem run_queryInstrNode {l : Launch} {Z : State} {a0 : Array Value} (H : OK Z a0) (F : Nat → Int32) (G : Nat → Int64) (A : Nat → Int32 → Int32) (B : Nat → Int32 → Int64) (hq : ¬ (16 : Int32) < F 11) (hc : ¬ (32 : Int32) < F 12) : Wk l Z (MoC Z cdC) md_queryInstrNode 0 [.val (.ref 0), .unset, .unset, .unset] [] (16, F, G, A, B) 0 0 (fun v w' => v = some (.int (f_queryInstrNode F A)) ∧ w' = (16, F, G, A, B)) :=
  wp_queryInstrNode H F G A B (fun q => ⟨by rw [e_queryInstrNode, if_neg q], rfl⟩)
    (fun q q2 => by
      simp only [e_queryInstrNode, if_pos q, if_pos q2]
      exact loop_queryInstrNode H F G A B hq hc _ 1 0 (by decide) (by rw [show (1 : Int32).toInt = 1 from by decide]))
    (fun q q2 => ⟨by rw [e_queryInstrNode, if_pos q, if_neg q2], rfl⟩)
set_option maxRecDepth 65536 in
set_option maxHeartbeats 4000000 in
theorem wp_self {l : Launch} {Z : State} {a0 : Array Value} (H : OK Z a0) (F : Nat → Int32) (G : Nat → Int64) (A : Nat → Int32 → Int32) (B : Nat → Int32 → Int64) {Q : Option Value → WO → Prop} (s1 : ¬ (16 : Int32) < F 11) (s2 : ¬ (32 : Int32) < F 12) (s4 : ¬ (f_queryInstrNode F A) < 0 → (f_queryInstrNode F A) < (32 : Int32)) (h6 : Q (some (.int (if (f_queryInstrNode F A) < 0 then (-1 : Int32) else ((A 9) (f_queryInstrNode F A))))) (16, F, G, A, B)) :
    Wk l Z (MoC Z cdC) md_self 0 [.val (.ref 0), .unset] [] (16, F, G, A, B) 0 0 Q := by
  refine Wk.aloadN o_self_0 rfl ?_
  refine Wk.callF [] [] (H.w 98 rfl) (cv_queryInstrNode H) o_self_1 (run_queryInstrNode H F G A B s1 s2) (wt := 0) (cu' := 0) (su' := 0) (by decide) rfl rfl rfl rfl rfl rfl rfl ?_
  refine Wk.istoreN o_self_4 (Or.inl rfl) (L' := [.val (.ref 0), .val (.int (f_queryInstrNode F A))]) rfl ?_
  refine Wk.iloadN o_self_5 rfl ?_
  have J5 : Wk l Z (MoC Z cdC) md_self 19 [.val (.ref 0), .val (.int (f_queryInstrNode F A))] [.int (if (f_queryInstrNode F A) < 0 then (-1 : Int32) else ((A 9) (f_queryInstrNode F A)))] (16, F, G, A, B) 0 0 Q := by
    exact Wk.ireturn mrC rfl o_self_19 rfl (by decide) (by decide) h6
  refine Wk.if_ge o_self_6 (fun q3 => ?_) (fun q3 => ?_)
  · refine Wk.aloadN o_self_13 rfl ?_
    refine Wk.getA (mA_iSelf) (by decide) (i' := 10) rfl (wf_iSelf H) o_self_14 ?_
    refine Wk.iloadN o_self_17 rfl ?_
    refine Wk.iaload (mA_iSelf) (by decide) (i' := 10) rfl q3 (s4 q3) o_self_18 (y := ((A 9) (f_queryInstrNode F A))) rfl ?_
    first | (rw [show ((if (f_queryInstrNode F A) < 0 then (-1 : Int32) else ((A 9) (f_queryInstrNode F A))) : Int32) = ((A 9) (f_queryInstrNode F A)) from if_neg q3] at J5; exact J5) | exact J5 | (simp only [if_neg q3] at J5 ⊢; exact J5)
  · refine Wk.iconst o_self_9 (z := (-1 : Int32)) (by decide) ?_
    refine Wk.goto o_self_10 ?_
    first | (rw [show ((if (f_queryInstrNode F A) < 0 then (-1 : Int32) else ((A 9) (f_queryInstrNode F A))) : Int32) = (-1 : Int32) from if_pos q3] at J5; exact J5) | exact J5 | (simp only [if_pos q3] at J5 ⊢; exact J5)

def f_self (F : Nat → Int32) (A : Nat → Int32 → Int32) : Int32 := (if (f_queryInstrNode F A) < 0 then (-1 : Int32) else ((A 9) (f_queryInstrNode F A)))
theorem e_self (F : Nat → Int32) (A : Nat → Int32 → Int32) : f_self F A = (if (f_queryInstrNode F A) < 0 then (-1 : Int32) else ((A 9) (f_queryInstrNode F A))) := Eq.trans rfl rfl
theorem run_self {l : Launch} {Z : State} {a0 : Array Value} (H : OK Z a0) (F : Nat → Int32) (G : Nat → Int64) (A : Nat → Int32 → Int32) (B : Nat → Int32 → Int64) (e1 : ¬ (16 : Int32) < (F 11)) (e2 : ¬ (32 : Int32) < (F 12)) :
    Wk l Z (MoC Z cdC) md_self 0 [.val (.ref 0), .unset] [] (16, F, G, A, B) 0 0 (fun v w' => v = some (.int (f_self F A)) ∧ w' = (16, F, G, A, B)) :=
  wp_self H F G A B (by intros; first | assumption | exact in_queryInstrNode F A (by assumption)) (by intros; first | assumption | exact in_queryInstrNode F A (by assumption)) (by intros; first | assumption | exact in_queryInstrNode F A (by assumption)) ⟨rfl, rfl⟩
set_option maxRecDepth 65536 in
set_option maxHeartbeats 4000000 in
theorem wp_inclusive {l : Launch} {Z : State} {a0 : Array Value} (H : OK Z a0) (F : Nat → Int32) (G : Nat → Int64) (A : Nat → Int32 → Int32) (B : Nat → Int32 → Int64) {Q : Option Value → WO → Prop} (s1 : ¬ (16 : Int32) < F 11) (s2 : ¬ (32 : Int32) < F 12) (s4 : ¬ (f_queryInstrNode F A) < 0 → (f_queryInstrNode F A) < (32 : Int32)) (h6 : Q (some (.int (if (f_queryInstrNode F A) < 0 then (-1 : Int32) else ((A 10) (f_queryInstrNode F A))))) (16, F, G, A, B)) :
    Wk l Z (MoC Z cdC) md_inclusive 0 [.val (.ref 0), .unset] [] (16, F, G, A, B) 0 0 Q := by
  refine Wk.aloadN o_inclusive_0 rfl ?_
  refine Wk.callF [] [] (H.w 98 rfl) (cv_queryInstrNode H) o_inclusive_1 (run_queryInstrNode H F G A B s1 s2) (wt := 0) (cu' := 0) (su' := 0) (by decide) rfl rfl rfl rfl rfl rfl rfl ?_
  refine Wk.istoreN o_inclusive_4 (Or.inl rfl) (L' := [.val (.ref 0), .val (.int (f_queryInstrNode F A))]) rfl ?_
  refine Wk.iloadN o_inclusive_5 rfl ?_
  have J5 : Wk l Z (MoC Z cdC) md_inclusive 19 [.val (.ref 0), .val (.int (f_queryInstrNode F A))] [.int (if (f_queryInstrNode F A) < 0 then (-1 : Int32) else ((A 10) (f_queryInstrNode F A)))] (16, F, G, A, B) 0 0 Q := by
    exact Wk.ireturn mrC rfl o_inclusive_19 rfl (by decide) (by decide) h6
  refine Wk.if_ge o_inclusive_6 (fun q3 => ?_) (fun q3 => ?_)
  · refine Wk.aloadN o_inclusive_13 rfl ?_
    refine Wk.getA (mA_iIncl) (by decide) (i' := 11) rfl (wf_iIncl H) o_inclusive_14 ?_
    refine Wk.iloadN o_inclusive_17 rfl ?_
    refine Wk.iaload (mA_iIncl) (by decide) (i' := 11) rfl q3 (s4 q3) o_inclusive_18 (y := ((A 10) (f_queryInstrNode F A))) rfl ?_
    first | (rw [show ((if (f_queryInstrNode F A) < 0 then (-1 : Int32) else ((A 10) (f_queryInstrNode F A))) : Int32) = ((A 10) (f_queryInstrNode F A)) from if_neg q3] at J5; exact J5) | exact J5 | (simp only [if_neg q3] at J5 ⊢; exact J5)
  · refine Wk.iconst o_inclusive_9 (z := (-1 : Int32)) (by decide) ?_
    refine Wk.goto o_inclusive_10 ?_
    first | (rw [show ((if (f_queryInstrNode F A) < 0 then (-1 : Int32) else ((A 10) (f_queryInstrNode F A))) : Int32) = (-1 : Int32) from if_pos q3] at J5; exact J5) | exact J5 | (simp only [if_pos q3] at J5 ⊢; exact J5)

def f_inclusive (F : Nat → Int32) (A : Nat → Int32 → Int32) : Int32 := (if (f_queryInstrNode F A) < 0 then (-1 : Int32) else ((A 10) (f_queryInstrNode F A)))
theorem e_inclusive (F : Nat → Int32) (A : Nat → Int32 → Int32) : f_inclusive F A = (if (f_queryInstrNode F A) < 0 then (-1 : Int32) else ((A 10) (f_queryInstrNode F A))) := Eq.trans rfl rfl
theorem run_inclusive {l : Launch} {Z : State} {a0 : Array Value} (H : OK Z a0) (F : Nat → Int32) (G : Nat → Int64) (A : Nat → Int32 → Int32) (B : Nat → Int32 → Int64) (e1 : ¬ (16 : Int32) < (F 11)) (e2 : ¬ (32 : Int32) < (F 12)) :
    Wk l Z (MoC Z cdC) md_inclusive 0 [.val (.ref 0), .unset] [] (16, F, G, A, B) 0 0 (fun v w' => v = some (.int (f_inclusive F A)) ∧ w' = (16, F, G, A, B)) :=
  wp_inclusive H F G A B (by intros; first | assumption | exact in_queryInstrNode F A (by assumption)) (by intros; first | assumption | exact in_queryInstrNode F A (by assumption)) (by intros; first | assumption | exact in_queryInstrNode F A (by assumption)) ⟨rfl, rfl⟩
set_option maxRecDepth 65536 in
set_option maxHeartbeats 4000000 in
theorem wp_lost {l : Launch} {Z : State} {a0 : Array Value} (H : OK Z a0) (F : Nat → Int32) (G : Nat → Int64) (A : Nat → Int32 → Int32) (B : Nat → Int32 → Int64) {Q : Option Value → WO → Prop} (s1 : ¬ (16 : Int32) < F 11) (s2 : ¬ (32 : Int32) < F 12) (s4 : ¬ (f_queryInstrNode F A) < 0 → (f_queryInstrNode F A) < (32 : Int32)) (h6 : Q (some (.int (if (f_queryInstrNode F A) < 0 then (-1 : Int32) else ((A 11) (f_queryInstrNode F A))))) (16, F, G, A, B)) :
    Wk l Z (MoC Z cdC) md_lost 0 [.val (.ref 0), .unset] [] (16, F, G, A, B) 0 0 Q := by
  refine Wk.aloadN o_lost_0 rfl ?_
  refine Wk.callF [] [] (H.w 98 rfl) (cv_queryInstrNode H) o_lost_1 (run_queryInstrNode H F G A B s1 s2) (wt := 0) (cu' := 0) (su' := 0) (by decide) rfl rfl rfl rfl rfl rfl rfl ?_
  refine Wk.istoreN o_lost_4 (Or.inl rfl) (L' := [.val (.ref 0), .val (.int (f_queryInstrNode F A))]) rfl ?_
  refine Wk.iloadN o_lost_5 rfl ?_
  have J5 : Wk l Z (MoC Z cdC) md_lost 19 [.val (.ref 0), .val (.int (f_queryInstrNode F A))] [.int (if (f_queryInstrNode F A) < 0 then (-1 : Int32) else ((A 11) (f_queryInstrNode F A)))] (16, F, G, A, B) 0 0 Q := by
    exact Wk.ireturn mrC rfl o_lost_19 rfl (by decide) (by decide) h6
  refine Wk.if_ge o_lost_6 (fun q3 => ?_) (fun q3 => ?_)
  · refine Wk.aloadN o_lost_13 rfl ?_
    refine Wk.getA (mA_iLost) (by decide) (i' := 12) rfl (wf_iLost H) o_lost_14 ?_
    refine Wk.iloadN o_lost_17 rfl ?_
    refine Wk.iaload (mA_iLost) (by decide) (i' := 12) rfl q3 (s4 q3) o_lost_18 (y := ((A 11) (f_queryInstrNode F A))) rfl ?_
    first | (rw [show ((if (f_queryInstrNode F A) < 0 then (-1 : Int32) else ((A 11) (f_queryInstrNode F A))) : Int32) = ((A 11) (f_queryInstrNode F A)) from if_neg q3] at J5; exact J5) | exact J5 | (simp only [if_neg q3] at J5 ⊢; exact J5)
  · refine Wk.iconst o_lost_9 (z := (-1 : Int32)) (by decide) ?_
    refine Wk.goto o_lost_10 ?_
    first | (rw [show ((if (f_queryInstrNode F A) < 0 then (-1 : Int32) else ((A 11) (f_queryInstrNode F A))) : Int32) = (-1 : Int32) from if_pos q3] at J5; exact J5) | exact J5 | (simp only [if_pos q3] at J5 ⊢; exact J5)

def f_lost (F : Nat → Int32) (A : Nat → Int32 → Int32) : Int32 := (if (f_queryInstrNode F A) < 0 then (-1 : Int32) else ((A 11) (f_queryInstrNode F A)))
theorem e_lost (F : Nat → Int32) (A : Nat → Int32 → Int32) : f_lost F A = (if (f_queryInstrNode F A) < 0 then (-1 : Int32) else ((A 11) (f_queryInstrNode F A))) := Eq.trans rfl rfl
theorem run_lost {l : Launch} {Z : State} {a0 : Array Value} (H : OK Z a0) (F : Nat → Int32) (G : Nat → Int64) (A : Nat → Int32 → Int32) (B : Nat → Int32 → Int64) (e1 : ¬ (16 : Int32) < (F 11)) (e2 : ¬ (32 : Int32) < (F 12)) :
    Wk l Z (MoC Z cdC) md_lost 0 [.val (.ref 0), .unset] [] (16, F, G, A, B) 0 0 (fun v w' => v = some (.int (f_lost F A)) ∧ w' = (16, F, G, A, B)) :=
  wp_lost H F G A B (by intros; first | assumption | exact in_queryInstrNode F A (by assumption)) (by intros; first | assumption | exact in_queryInstrNode F A (by assumption)) (by intros; first | assumption | exact in_queryInstrNode F A (by assumption)) ⟨rfl, rfl⟩
set_option maxRecDepth 65536 in
set_option maxHeartbeats 4000000 in
theorem wp_findSampledChild {l : Launch} {Z : State} {a0 : Array Value} (H : OK Z a0) (F : Nat → Int32) (G : Nat → Int64) (A : Nat → Int32 → Int32) (B : Nat → Int32 → Int64) (p1 : Int32) (p2 : Int32) {Q : Option Value → WO → Prop} (h1 : Wk l Z (MoC Z cdC) md_findSampledChild 2 [.val (.ref 0), .val (.int p1), .val (.int p2), .val (.int (1 : Int32))] [] (16, F, G, A, B) 0 0 Q) :
    Wk l Z (MoC Z cdC) md_findSampledChild 0 [.val (.ref 0), .val (.int p1), .val (.int p2), .unset] [] (16, F, G, A, B) 0 0 Q := by
  refine Wk.iconst o_findSampledChild_0 (z := (1 : Int32)) (by decide) ?_
  refine Wk.istoreN o_findSampledChild_1 (Or.inl rfl) (L' := [.val (.ref 0), .val (.int p1), .val (.int p2), .val (.int (1 : Int32))]) rfl ?_
  exact h1

set_option maxRecDepth 65536 in
set_option maxHeartbeats 4000000 in
theorem wp_findSampledChild_2 {l : Launch} {Z : State} {a0 : Array Value} (H : OK Z a0) (F : Nat → Int32) (G : Nat → Int64) (A : Nat → Int32 → Int32) (B : Nat → Int32 → Int64) (v1 : Int32) (v2 : Int32) (v3 : Int32) {Q : Option Value → WO → Prop} (h2 : ¬ v3 < (F 13) → Q (some (.int (-1 : Int32))) (16, F, G, A, B)) (s3 : v3 < (F 13) → ¬ v3 < 0) (s4 : v3 < (F 13) → v3 < (32 : Int32)) (h6 : v3 < (F 13) → ¬ ((A 12) v3) = v1 → Wk l Z (MoC Z cdC) md_findSampledChild 2 [.val (.ref 0), .val (.int v1), .val (.int v2), .val (.int (v3 + (1 : Int32)))] [] (16, F, G, A, B) 0 0 Q) (s7 : v3 < (F 13) → ((A 12) v3) = v1 → ¬ v3 < 0) (s8 : v3 < (F 13) → ((A 12) v3) = v1 → v3 < (32 : Int32)) (h10 : v3 < (F 13) → ((A 12) v3) = v1 → ¬ ((A 13) v3) = v2 → Wk l Z (MoC Z cdC) md_findSampledChild 2 [.val (.ref 0), .val (.int v1), .val (.int v2), .val (.int (v3 + (1 : Int32)))] [] (16, F, G, A, B) 0 0 Q) (h11 : v3 < (F 13) → ((A 12) v3) = v1 → ((A 13) v3) = v2 → Q (some (.int v3)) (16, F, G, A, B)) :
    Wk l Z (MoC Z cdC) md_findSampledChild 2 [.val (.ref 0), .val (.int v1), .val (.int v2), .val (.int v3)] [] (16, F, G, A, B) 0 0 Q := by
  refine Wk.iloadN o_findSampledChild_2 rfl ?_
  refine Wk.aloadN o_findSampledChild_3 rfl ?_
  refine Wk.getI (mI_sCount) (wf_sCount H) o_findSampledChild_4 (x := (F 13)) rfl ?_
  refine Wk.icmp_ge o_findSampledChild_7 (fun q1 => ?_) (fun q1 => ?_)
  · refine Wk.iconst o_findSampledChild_38 (z := (-1 : Int32)) (by decide) ?_
    exact Wk.ireturn mrC rfl o_findSampledChild_39 rfl (by decide) (by decide) (h2 q1)
  · refine Wk.aloadN o_findSampledChild_10 rfl ?_
    refine Wk.getA (mA_sParent) (by decide) (i' := 13) rfl (wf_sParent H) o_findSampledChild_11 ?_
    refine Wk.iloadN o_findSampledChild_14 rfl ?_
    refine Wk.iaload (mA_sParent) (by decide) (i' := 13) rfl (s3 q1) (s4 q1) o_findSampledChild_15 (y := ((A 12) v3)) rfl ?_
    refine Wk.iloadN o_findSampledChild_16 rfl ?_
    refine Wk.icmp_ne o_findSampledChild_17 (fun q5 => ?_) (fun q5 => ?_)
    · refine Wk.iinc o_findSampledChild_32 rfl (z := (v3 + (1 : Int32))) rfl (L' := [.val (.ref 0), .val (.int v1), .val (.int v2), .val (.int (v3 + (1 : Int32)))]) rfl ?_
      refine Wk.goto o_findSampledChild_35 ?_
      exact (h6 q1 q5)
    · refine Wk.aloadN o_findSampledChild_20 rfl ?_
      refine Wk.getA (mA_sFunc) (by decide) (i' := 14) rfl (wf_sFunc H) o_findSampledChild_21 ?_
      refine Wk.iloadN o_findSampledChild_24 rfl ?_
      refine Wk.iaload (mA_sFunc) (by decide) (i' := 14) rfl (s7 q1 q5) (s8 q1 q5) o_findSampledChild_25 (y := ((A 13) v3)) rfl ?_
      refine Wk.iloadN o_findSampledChild_26 rfl ?_
      refine Wk.icmp_ne o_findSampledChild_27 (fun q9 => ?_) (fun q9 => ?_)
      · refine Wk.iinc o_findSampledChild_32 rfl (z := (v3 + (1 : Int32))) rfl (L' := [.val (.ref 0), .val (.int v1), .val (.int v2), .val (.int (v3 + (1 : Int32)))]) rfl ?_
        refine Wk.goto o_findSampledChild_35 ?_
        exact (h10 q1 q5 q9)
      · refine Wk.iloadN o_findSampledChild_30 rfl ?_
        exact Wk.ireturn mrC rfl o_findSampledChild_31 rfl (by decide) (by decide) (h11 q1 q5 q9)

theorem loop_findSampledChild {l : Launch} {Z : State} {a0 : Array Value} (H : OK Z a0) (F : Nat → Int32) (G : Nat → Int64) (A : Nat → Int32 → Int32) (B : Nat → Int32 → Int64) (p1 p2 : Int32) (hc : ¬ (32 : Int32) < F 13) : ∀ (n : Nat) (i : Int32), ¬ i < 0 → ((F 13).toInt - i.toInt).toNat = n →
    Wk l Z (MoC Z cdC) md_findSampledChild 2 [.val (.ref 0), .val (.int p1), .val (.int p2), .val (.int i)] [] (16, F, G, A, B) 0 0 (fun v w' => v = some (.int (findGo (A 12) (A 13) p1 p2 n i)) ∧ w' = (16, F, G, A, B))
  | 0, i, h0, hk => by
    have hn : ¬ i < F 13 := by rw [lt_i]; omega
    exact wp_findSampledChild_2 H F G A B p1 p2 i (fun _ => ⟨by rw [findGo_z], rfl⟩) (fun q0 => absurd q0 hn) (fun q0 => absurd q0 hn) (fun q0 q1 => absurd q0 hn) (fun q0 q1 => absurd q0 hn) (fun q0 q1 => absurd q0 hn) (fun q0 q1 q2 => absurd q0 hn) (fun q0 q1 q2 => absurd q0 hn)
  | n + 1, i, h0, hk => by
    have hlt : i < F 13 := lt_i.mpr (by omega)
    have e := succ_toInt hlt
    have z : (0 : Int32).toInt = 0 := by decide
    have hi : i < 32 := by grind
    have ih := loop_findSampledChild (l := l) H F G A B p1 p2 hc n (i + 1) (by rw [lt_i] at h0 ⊢; omega) (by omega)
    exact wp_findSampledChild_2 H F G A B p1 p2 i (fun q0 => absurd hlt q0) (fun q0 => (by first | exact h0 | (exact hi))) (fun q0 => (by first | exact h0 | (exact hi))) (fun q0 q1 => by simp only [findGo_s, if_neg q1]; exact ih) (fun q0 q1 => (by first | exact h0 | (exact hi))) (fun q0 q1 => (by first | exact h0 | (exact hi))) (fun q0 q1 q2 => by simp only [findGo_s, if_pos q1, if_neg q2]; exact ih) (fun q0 q1 q2 => ⟨by rw [findGo_s, if_pos q1, if_pos q2], rfl⟩)
def f_findSampledChild (F : Nat → Int32) (A : Nat → Int32 → Int32) (p1 p2 : Int32) : Int32 := findGo (A 12) (A 13) p1 p2 ((F 13).toInt - 1).toNat 1
theorem e_findSampledChild (F : Nat → Int32) (A : Nat → Int32 → Int32) (p1 p2 : Int32) : f_findSampledChild F A p1 p2 = findGo (A 12) (A 13) p1 p2 ((F 13).toInt - 1).toNat 1 := Eq.trans rfl rfl
theorem run_findSampledChild {l : Launch} {Z : State} {a0 : Array Value} (H : OK Z a0) (F : Nat → Int32) (G : Nat → Int64) (A : Nat → Int32 → Int32) (B : Nat → Int32 → Int64) (p1 p2 : Int32) (hc : ¬ (32 : Int32) < F 13) : Wk l Z (MoC Z cdC) md_findSampledChild 0 [.val (.ref 0), .val (.int p1), .val (.int p2), .unset] [] (16, F, G, A, B) 0 0 (fun v w' => v = some (.int (f_findSampledChild F A p1 p2)) ∧ w' = (16, F, G, A, B)) :=
  wp_findSampledChild H F G A B p1 p2 (loop_findSampledChild H F G A B p1 p2 hc _ 1 (by decide) (by rw [show (1 : Int32).toInt = 1 from by decide]))
set_option maxRecDepth 65536 in
set_option maxHeartbeats 4000000 in
theorem wp_querySampledNode {l : Launch} {Z : State} {a0 : Array Value} (H : OK Z a0) (F : Nat → Int32) (G : Nat → Int64) (A : Nat → Int32 → Int32) (B : Nat → Int32 → Int64) {Q : Option Value → WO → Prop} (h2 : ¬ 0 < (F 11) → Q (some (.int (-1 : Int32))) (16, F, G, A, B)) (h4 : 0 < (F 11) → ((A 15) (0 : Int32)) = 0 → Wk l Z (MoC Z cdC) md_querySampledNode 22 [.val (.ref 0), .val (.int (0 : Int32)), .val (.int (1 : Int32)), .unset] [] (16, F, G, A, B) 0 0 Q) (h5 : 0 < (F 11) → ¬ ((A 15) (0 : Int32)) = 0 → Q (some (.int (-1 : Int32))) (16, F, G, A, B)) :
    Wk l Z (MoC Z cdC) md_querySampledNode 0 [.val (.ref 0), .unset, .unset, .unset] [] (16, F, G, A, B) 0 0 Q := by
  refine Wk.aloadN o_querySampledNode_0 rfl ?_
  refine Wk.getI (mI_qLen) (wf_qLen H) o_querySampledNode_1 (x := (F 11)) rfl ?_
  refine Wk.if_le o_querySampledNode_4 (fun q1 => ?_) (fun q1 => ?_)
  · refine Wk.iconst o_querySampledNode_16 (z := (-1 : Int32)) (by decide) ?_
    exact Wk.ireturn mrC rfl o_querySampledNode_17 rfl (by decide) (by decide) (h2 q1)
  · refine Wk.aloadN o_querySampledNode_7 rfl ?_
    refine Wk.getA (mA_query) (by decide) (i' := 16) rfl (wf_query H) o_querySampledNode_8 ?_
    refine Wk.iconst o_querySampledNode_11 (z := (0 : Int32)) (by decide) ?_
    refine Wk.iaload (mA_query) (by decide) (i' := 16) rfl (by decide) (by decide) o_querySampledNode_12 (y := ((A 15) (0 : Int32))) rfl ?_
    refine Wk.if_eq o_querySampledNode_13 (fun q3 => ?_) (fun q3 => ?_)
    · refine Wk.iconst o_querySampledNode_18 (z := (0 : Int32)) (by decide) ?_
      refine Wk.istoreN o_querySampledNode_19 (Or.inl rfl) (L' := [.val (.ref 0), .val (.int (0 : Int32)), .unset, .unset]) rfl ?_
      refine Wk.iconst o_querySampledNode_20 (z := (1 : Int32)) (by decide) ?_
      refine Wk.istoreN o_querySampledNode_21 (Or.inl rfl) (L' := [.val (.ref 0), .val (.int (0 : Int32)), .val (.int (1 : Int32)), .unset]) rfl ?_
      exact (h4 q1 q3)
    · refine Wk.iconst o_querySampledNode_16 (z := (-1 : Int32)) (by decide) ?_
      exact Wk.ireturn mrC rfl o_querySampledNode_17 rfl (by decide) (by decide) (h5 q1 q3)

set_option maxRecDepth 65536 in
set_option maxHeartbeats 4000000 in
theorem wp_querySampledNode_22 {l : Launch} {Z : State} {a0 : Array Value} (H : OK Z a0) (F : Nat → Int32) (G : Nat → Int64) (A : Nat → Int32 → Int32) (B : Nat → Int32 → Int64) (v1 : Int32) (v2 : Int32) {Q : Option Value → WO → Prop} (h2 : ¬ v2 < (F 11) → Q (some (.int v1)) (16, F, G, A, B)) (s3 : v2 < (F 11) → ¬ v2 < 0) (s4 : v2 < (F 11) → v2 < (16 : Int32)) (s5 : v2 < (F 11) → ¬ (32 : Int32) < F 13) (h7 : v2 < (F 11) → ¬ (f_findSampledChild F A v1 ((A 15) v2)) < 0 → Wk l Z (MoC Z cdC) md_querySampledNode 22 [.val (.ref 0), .val (.int (f_findSampledChild F A v1 ((A 15) v2))), .val (.int (v2 + (1 : Int32))), .unset] [] (16, F, G, A, B) 0 0 Q) (h8 : v2 < (F 11) → (f_findSampledChild F A v1 ((A 15) v2)) < 0 → Q (some (.int (-1 : Int32))) (16, F, G, A, B)) :
    Wk l Z (MoC Z cdC) md_querySampledNode 22 [.val (.ref 0), .val (.int v1), .val (.int v2), .unset] [] (16, F, G, A, B) 0 0 Q := by
  refine Wk.iloadN o_querySampledNode_22 rfl ?_
  refine Wk.aloadN o_querySampledNode_23 rfl ?_
  refine Wk.getI (mI_qLen) (wf_qLen H) o_querySampledNode_24 (x := (F 11)) rfl ?_
  refine Wk.icmp_ge o_querySampledNode_27 (fun q1 => ?_) (fun q1 => ?_)
  · refine Wk.iloadN o_querySampledNode_56 rfl ?_
    exact Wk.ireturn mrC rfl o_querySampledNode_57 rfl (by decide) (by decide) (h2 q1)
  · refine Wk.aloadN o_querySampledNode_30 rfl ?_
    refine Wk.getA (mA_query) (by decide) (i' := 16) rfl (wf_query H) o_querySampledNode_31 ?_
    refine Wk.iloadN o_querySampledNode_34 rfl ?_
    refine Wk.iaload (mA_query) (by decide) (i' := 16) rfl (s3 q1) (s4 q1) o_querySampledNode_35 (y := ((A 15) v2)) rfl ?_
    refine Wk.istoreN o_querySampledNode_36 (Or.inl rfl) (L' := [.val (.ref 0), .val (.int v1), .val (.int v2), .val (.int ((A 15) v2))]) rfl ?_
    refine Wk.aloadN o_querySampledNode_37 rfl ?_
    refine Wk.iloadN o_querySampledNode_38 rfl ?_
    refine Wk.iloadN o_querySampledNode_39 rfl ?_
    refine Wk.callF [.int v1, .int ((A 15) v2)] [] (H.w 130 rfl) (cv_findSampledChild H) o_querySampledNode_40 (run_findSampledChild H F G A B v1 ((A 15) v2) (s5 q1)) (wt := 0) (cu' := 0) (su' := 0) (by decide) rfl rfl rfl rfl rfl rfl rfl ?_
    refine Wk.istoreN o_querySampledNode_43 (Or.inr ⟨_, rfl, rfl⟩) (L' := [.val (.ref 0), .val (.int (f_findSampledChild F A v1 ((A 15) v2))), .val (.int v2), .val (.int ((A 15) v2))]) rfl ?_
    refine Wk.iloadN o_querySampledNode_44 rfl ?_
    refine Wk.if_ge o_querySampledNode_45 (fun q6 => ?_) (fun q6 => ?_)
    · refine Wk.iinc o_querySampledNode_50 rfl (z := (v2 + (1 : Int32))) rfl (L' := [.val (.ref 0), .val (.int (f_findSampledChild F A v1 ((A 15) v2))), .val (.int (v2 + (1 : Int32))), .val (.int ((A 15) v2))]) rfl ?_
      refine Wk.goto o_querySampledNode_53 ?_
      refine Wk.forget [false, false, false, true] (L' := [.val (.ref 0), .val (.int (f_findSampledChild F A v1 ((A 15) v2))), .val (.int (v2 + (1 : Int32))), .unset]) rfl rfl ?_
      exact (h7 q1 q6)
    · refine Wk.iconst o_querySampledNode_48 (z := (-1 : Int32)) (by decide) ?_
      exact Wk.ireturn mrC rfl o_querySampledNode_49 rfl (by decide) (by decide) (h8 q1 q6)

theorem in_findSampledChild (F : Nat → Int32) (A : Nat → Int32 → Int32) (a b : Int32) (hc : ¬ (32 : Int32) < F 13) : f_findSampledChild F A a b < 32 := by
  rw [e_findSampledChild]
  by_cases h : (F 13).toInt < 1
  · have e : ((F 13).toInt - 1).toNat = 0 := by omega
    rw [e, findGo_z]; decide
  · have t := findGo_in (A 12) (A 13) a b (F 13) ((F 13).toInt - 1).toNat 1 (by decide) (by rw [show (1 : Int32).toInt = 1 from by decide]; omega)
    rcases t with t | t
    · exact Int32.lt_trans t (by decide)
    · grind
theorem loop_querySampledNode {l : Launch} {Z : State} {a0 : Array Value} (H : OK Z a0) (F : Nat → Int32) (G : Nat → Int64) (A : Nat → Int32 → Int32) (B : Nat → Int32 → Int64) (hq : ¬ (16 : Int32) < F 11) (hc : ¬ (32 : Int32) < F 13) : ∀ (n : Nat) (i v : Int32), ¬ i < 0 → ((F 11).toInt - i.toInt).toNat = n →
    Wk l Z (MoC Z cdC) md_querySampledNode 22 [.val (.ref 0), .val (.int v), .val (.int i), .unset] [] (16, F, G, A, B) 0 0 (fun u w' => u = some (.int (qGo (f_findSampledChild F A) (A 15) n i v)) ∧ w' = (16, F, G, A, B))
  | 0, i, v, h0, hk => by
    have hn : ¬ i < F 11 := by rw [lt_i]; omega
    exact wp_querySampledNode_22 H F G A B v i (fun _ => ⟨by rw [qGo_z], rfl⟩) (fun h => absurd h hn) (fun h => absurd h hn) (fun h => absurd h hn) (fun h _ => absurd h hn) (fun h _ => absurd h hn)
  | n + 1, i, v, h0, hk => by
    have hlt : i < F 11 := lt_i.mpr (by omega)
    have e := succ_toInt hlt
    have z : (0 : Int32).toInt = 0 := by decide
    have hi : i < 16 := by grind
    exact wp_querySampledNode_22 H F G A B v i (fun h => absurd hlt h) (fun _ => h0) (fun _ => hi) (fun _ => hc)
      (fun _ q => by simp only [qGo_s, if_neg q]; exact loop_querySampledNode (l := l) H F G A B hq hc n (i + 1) _ (by rw [lt_i] at h0 ⊢; omega) (by omega)) (fun _ q => ⟨by rw [qGo_s, if_pos q], rfl⟩)
def f_querySampledNode (F : Nat → Int32) (A : Nat → Int32 → Int32) : Int32 := if 0 < F 11 then (if A 15 0 = 0 then qGo (f_findSampledChild F A) (A 15) ((F 11).toInt - 1).toNat 1 0 else -1) else -1
theorem e_querySampledNode (F : Nat → Int32) (A : Nat → Int32 → Int32) : f_querySampledNode F A = if 0 < F 11 then (if A 15 0 = 0 then qGo (f_findSampledChild F A) (A 15) ((F 11).toInt - 1).toNat 1 0 else -1) else -1 := Eq.trans rfl rfl
theorem in_querySampledNode (F : Nat → Int32) (A : Nat → Int32 → Int32) (hc : ¬ (32 : Int32) < F 13) : f_querySampledNode F A < 32 := by
  rw [e_querySampledNode]
  split
  · split
    · exact qGo_in _ _ (fun a b => in_findSampledChild F A a b hc) _ _ _ (by decide)
    · decide
  · decide
theorem run_querySampledNode {l : Launch} {Z : State} {a0 : Array Value} (H : OK Z a0) (F : Nat → Int32) (G : Nat → Int64) (A : Nat → Int32 → Int32) (B : Nat → Int32 → Int64) (hq : ¬ (16 : Int32) < F 11) (hc : ¬ (32 : Int32) < F 13) : Wk l Z (MoC Z cdC) md_querySampledNode 0 [.val (.ref 0), .unset, .unset, .unset] [] (16, F, G, A, B) 0 0 (fun v w' => v = some (.int (f_querySampledNode F A)) ∧ w' = (16, F, G, A, B)) :=
  wp_querySampledNode H F G A B (fun q => ⟨by rw [e_querySampledNode, if_neg q], rfl⟩)
    (fun q q2 => by
      simp only [e_querySampledNode, if_pos q, if_pos q2]
      exact loop_querySampledNode H F G A B hq hc _ 1 0 (by decide) (by rw [show (1 : Int32).toInt = 1 from by decide]))
    (fun q q2 => ⟨by rw [e_querySampledNode, if_pos q, if_neg q2], rfl⟩)
set_option maxRecDepth 65536 in
set_option maxHeartbeats 4000000 in
theorem wp_sampledSelf {l : Launch} {Z : State} {a0 : Array Value} (H : OK Z a0) (F : Nat → Int32) (G : Nat → Int64) (A : Nat → Int32 → Int32) (B : Nat → Int32 → Int64) {Q : Option Value → WO → Prop} (s1 : ¬ (16 : Int32) < F 11) (s2 : ¬ (32 : Int32) < F 13) (s4 : ¬ (f_querySampledNode F A) < 0 → (f_querySampledNode F A) < (32 : Int32)) (h6 : Q (some (.int (if (f_querySampledNode F A) < 0 then (-1 : Int32) else ((A 14) (f_querySampledNode F A))))) (16, F, G, A, B)) :
    Wk l Z (MoC Z cdC) md_sampledSelf 0 [.val (.ref 0), .unset] [] (16, F, G, A, B) 0 0 Q := by
  refine Wk.aloadN o_sampledSelf_0 rfl ?_
  refine Wk.callF [] [] (H.w 117 rfl) (cv_querySampledNode H) o_sampledSelf_1 (run_querySampledNode H F G A B s1 s2) (wt := 0) (cu' := 0) (su' := 0) (by decide) rfl rfl rfl rfl rfl rfl rfl ?_
  refine Wk.istoreN o_sampledSelf_4 (Or.inl rfl) (L' := [.val (.ref 0), .val (.int (f_querySampledNode F A))]) rfl ?_
  refine Wk.iloadN o_sampledSelf_5 rfl ?_
  have J5 : Wk l Z (MoC Z cdC) md_sampledSelf 19 [.val (.ref 0), .val (.int (f_querySampledNode F A))] [.int (if (f_querySampledNode F A) < 0 then (-1 : Int32) else ((A 14) (f_querySampledNode F A)))] (16, F, G, A, B) 0 0 Q := by
    exact Wk.ireturn mrC rfl o_sampledSelf_19 rfl (by decide) (by decide) h6
  refine Wk.if_ge o_sampledSelf_6 (fun q3 => ?_) (fun q3 => ?_)
  · refine Wk.aloadN o_sampledSelf_13 rfl ?_
    refine Wk.getA (mA_sSelf) (by decide) (i' := 15) rfl (wf_sSelf H) o_sampledSelf_14 ?_
    refine Wk.iloadN o_sampledSelf_17 rfl ?_
    refine Wk.iaload (mA_sSelf) (by decide) (i' := 15) rfl q3 (s4 q3) o_sampledSelf_18 (y := ((A 14) (f_querySampledNode F A))) rfl ?_
    first | (rw [show ((if (f_querySampledNode F A) < 0 then (-1 : Int32) else ((A 14) (f_querySampledNode F A))) : Int32) = ((A 14) (f_querySampledNode F A)) from if_neg q3] at J5; exact J5) | exact J5 | (simp only [if_neg q3] at J5 ⊢; exact J5)
  · refine Wk.iconst o_sampledSelf_9 (z := (-1 : Int32)) (by decide) ?_
    refine Wk.goto o_sampledSelf_10 ?_
    first | (rw [show ((if (f_querySampledNode F A) < 0 then (-1 : Int32) else ((A 14) (f_querySampledNode F A))) : Int32) = (-1 : Int32) from if_pos q3] at J5; exact J5) | exact J5 | (simp only [if_pos q3] at J5 ⊢; exact J5)

def f_sampledSelf (F : Nat → Int32) (A : Nat → Int32 → Int32) : Int32 := (if (f_querySampledNode F A) < 0 then (-1 : Int32) else ((A 14) (f_querySampledNode F A)))
theorem e_sampledSelf (F : Nat → Int32) (A : Nat → Int32 → Int32) : f_sampledSelf F A = (if (f_querySampledNode F A) < 0 then (-1 : Int32) else ((A 14) (f_querySampledNode F A))) := Eq.trans rfl rfl
theorem run_sampledSelf {l : Launch} {Z : State} {a0 : Array Value} (H : OK Z a0) (F : Nat → Int32) (G : Nat → Int64) (A : Nat → Int32 → Int32) (B : Nat → Int32 → Int64) (e1 : ¬ (16 : Int32) < (F 11)) (e2 : ¬ (32 : Int32) < (F 13)) :
    Wk l Z (MoC Z cdC) md_sampledSelf 0 [.val (.ref 0), .unset] [] (16, F, G, A, B) 0 0 (fun v w' => v = some (.int (f_sampledSelf F A)) ∧ w' = (16, F, G, A, B)) :=
  wp_sampledSelf H F G A B (by intros; first | assumption | exact in_querySampledNode F A (by assumption)) (by intros; first | assumption | exact in_querySampledNode F A (by assumption)) (by intros; first | assumption | exact in_querySampledNode F A (by assumption)) ⟨rfl, rfl⟩
set_option maxRecDepth 65536 in
set_option maxHeartbeats 4000000 in
theorem wp_clearQuery {l : Launch} {Z : State} {a0 : Array Value} (H : OK Z a0) (F : Nat → Int32) (G : Nat → Int64) (A : Nat → Int32 → Int32) (B : Nat → Int32 → Int64) {Q : Option Value → WO → Prop} (h1 : Q none (16, (ups F 11 (0 : Int32)), G, A, B)) :
    Wk l Z (MoC Z cdC) md_clearQuery 0 [.val (.ref 0)] [] (16, F, G, A, B) 0 0 Q := by
  refine Wk.aloadN o_clearQuery_0 rfl ?_
  refine Wk.iconst o_clearQuery_1 (z := (0 : Int32)) (by decide) ?_
  refine Wk.putI (coC H) (mI_qLen) (wf_qLen H) (Or.inl (wy_qLen H)) o_clearQuery_2 ?_
  exact Wk.ret mrC rfl o_clearQuery_5 rfl (by decide) (by decide) h1

def F_clearQuery (F : Nat → Int32) : Nat → Int32 := (ups F 11 (0 : Int32))
theorem eF_clearQuery (F : Nat → Int32) : F_clearQuery F = (ups F 11 (0 : Int32)) := Eq.trans rfl rfl
theorem F_clearQuery_0 (F : Nat → Int32) : F_clearQuery F 0 = (F 0) := by
  exact Eq.trans rfl rfl
theorem F_clearQuery_1 (F : Nat → Int32) : F_clearQuery F 1 = (F 1) := by
  exact Eq.trans rfl rfl
theorem F_clearQuery_2 (F : Nat → Int32) : F_clearQuery F 2 = (F 2) := by
  exact Eq.trans rfl rfl
theorem F_clearQuery_3 (F : Nat → Int32) : F_clearQuery F 3 = (F 3) := by
  exact Eq.trans rfl rfl
theorem F_clearQuery_4 (F : Nat → Int32) : F_clearQuery F 4 = (F 4) := by
  exact Eq.trans rfl rfl
theorem F_clearQuery_5 (F : Nat → Int32) : F_clearQuery F 5 = (F 5) := by
  exact Eq.trans rfl rfl
theorem F_clearQuery_6 (F : Nat → Int32) : F_clearQuery F 6 = (F 6) := by
  exact Eq.trans rfl rfl
theorem F_clearQuery_7 (F : Nat → Int32) : F_clearQuery F 7 = (F 7) := by
  exact Eq.trans rfl rfl
theorem F_clearQuery_8 (F : Nat → Int32) : F_clearQuery F 8 = (F 8) := by
  exact Eq.trans rfl rfl
theorem F_clearQuery_9 (F : Nat → Int32) : F_clearQuery F 9 = (F 9) := by
  exact Eq.trans rfl rfl
theorem F_clearQuery_10 (F : Nat → Int32) : F_clearQuery F 10 = (F 10) := by
  exact Eq.trans rfl rfl
theorem F_clearQuery_11 (F : Nat → Int32) : F_clearQuery F 11 = (0 : Int32) := by
  exact Eq.trans rfl rfl
theorem F_clearQuery_12 (F : Nat → Int32) : F_clearQuery F 12 = (F 12) := by
  exact Eq.trans rfl rfl
theorem F_clearQuery_13 (F : Nat → Int32) : F_clearQuery F 13 = (F 13) := by
  exact Eq.trans rfl rfl
theorem run_clearQuery {l : Launch} {Z : State} {a0 : Array Value} (H : OK Z a0) (F : Nat → Int32) (G : Nat → Int64) (A : Nat → Int32 → Int32) (B : Nat → Int32 → Int64) :
    Wk l Z (MoC Z cdC) md_clearQuery 0 [.val (.ref 0)] [] (16, F, G, A, B) 0 0 (fun v w' => v = none ∧ w' = (16, (F_clearQuery F), G, A, B)) :=
  wp_clearQuery H F G A B ⟨rfl, rfl⟩
set_option maxRecDepth 65536 in
set_option maxHeartbeats 4000000 in
theorem wp_L_law {l : Launch} {Z : State} {a0 : Array Value} (H : OK Z a0) (sl : Int32) (sv : Int32 → Int32) (p1 : Int32) (p2 : Int32) (p3 : Int32) (p4 : Int32) (p5 : Int32) {Q : Option Value → WL → Prop} (s9 : ¬ ((F_init p1 p2 p3) 11) < 0) (h11 : (f_pushQuery (F_init p1 p2 p3) p4) = (if p4 < 0 then (0 : Int32) else (if (7 : Int32) < p4 then (0 : Int32) else (1 : Int32)))) (s12 : ¬ ((F_pushQuery (F_init p1 p2 p3) p4) 11) < 0) (h14 : (f_pushQuery (F_pushQuery (F_init p1 p2 p3) p4) p5) = (if p5 < 0 then (0 : Int32) else (if (7 : Int32) < p5 then (0 : Int32) else (1 : Int32)))) (s19 : ¬ ((F_pushQuery (F_pushQuery (F_init p1 p2 p3) p4) p5) 1) = 0) (s20 : ¬ (16 : Int32) < ((F_pushQuery (F_pushQuery (F_init p1 p2 p3) p4) p5) 6)) (h22 : (f_info (F_pushQuery (F_pushQuery (F_init p1 p2 p3) p4) p5) (A_pushQuery (F_pushQuery (F_init p1 p2 p3) p4) (A_pushQuery (F_init p1 p2 p3) (A_init p1 p2 p3) p4) p5) (12 : Int32)) = ((if (if p4 < 0 then (0 : Int32) else (if (7 : Int32) < p4 then (0 : Int32) else (1 : Int32))) = 0 then (0 : Int32) else (1 : Int32)) + (if (if p5 < 0 then (0 : Int32) else (if (7 : Int32) < p5 then (0 : Int32) else (1 : Int32))) = 0 then (0 : Int32) else (1 : Int32)))) (s39 : ¬ (16 : Int32) < ((F_pushQuery (F_pushQuery (F_init p1 p2 p3) p4) p5) 11)) (s40 : ¬ (32 : Int32) < ((F_pushQuery (F_pushQuery (F_init p1 p2 p3) p4) p5) 12)) (h42 : (f_self (F_pushQuery (F_pushQuery (F_init p1 p2 p3) p4) p5) (A_pushQuery (F_pushQuery (F_init p1 p2 p3) p4) (A_pushQuery (F_init p1 p2 p3) (A_init p1 p2 p3) p4) p5)) = (if (if ((if (if p4 < 0 then (0 : Int32) else (if (7 : Int32) < p4 then (0 : Int32) else (1 : Int32))) = 0 then (0 : Int32) else (1 : Int32)) + (if (if p5 < 0 then (0 : Int32) else (if (7 : Int32) < p5 then (0 : Int32) else (1 : Int32))) = 0 then (0 : Int32) else (1 : Int32))) = (1 : Int32) then (if (if p4 < 0 then (0 : Int32) else (if (7 : Int32) < p4 then (0 : Int32) else (1 : Int32))) = 0 then (if (if p5 < 0 then (0 : Int32) else (if (7 : Int32) < p5 then (0 : Int32) else (1 : Int32))) = 0 then (0 : Int32) else (if p5 = 0 then (1 : Int32) else (0 : Int32))) else (if p4 = 0 then (1 : Int32) else (if (if p5 < 0 then (0 : Int32) else (if (7 : Int32) < p5 then (0 : Int32) else (1 : Int32))) = 0 then (0 : Int32) else (if p5 = 0 then (1 : Int32) else (0 : Int32))))) else (0 : Int32)) = 0 then (-1 : Int32) else (0 : Int32))) (h44 : (f_inclusive (F_pushQuery (F_pushQuery (F_init p1 p2 p3) p4) p5) (A_pushQuery (F_pushQuery (F_init p1 p2 p3) p4) (A_pushQuery (F_init p1 p2 p3) (A_init p1 p2 p3) p4) p5)) = (if (if ((if (if p4 < 0 then (0 : Int32) else (if (7 : Int32) < p4 then (0 : Int32) else (1 : Int32))) = 0 then (0 : Int32) else (1 : Int32)) + (if (if p5 < 0 then (0 : Int32) else (if (7 : Int32) < p5 then (0 : Int32) else (1 : Int32))) = 0 then (0 : Int32) else (1 : Int32))) = (1 : Int32) then (if (if p4 < 0 then (0 : Int32) else (if (7 : Int32) < p4 then (0 : Int32) else (1 : Int32))) = 0 then (if (if p5 < 0 then (0 : Int32) else (if (7 : Int32) < p5 then (0 : Int32) else (1 : Int32))) = 0 then (0 : Int32) else (if p5 = 0 then (1 : Int32) else (0 : Int32))) else (if p4 = 0 then (1 : Int32) else (if (if p5 < 0 then (0 : Int32) else (if (7 : Int32) < p5 then (0 : Int32) else (1 : Int32))) = 0 then (0 : Int32) else (if p5 = 0 then (1 : Int32) else (0 : Int32))))) else (0 : Int32)) = 0 then (-1 : Int32) else (0 : Int32))) (h46 : (f_lost (F_pushQuery (F_pushQuery (F_init p1 p2 p3) p4) p5) (A_pushQuery (F_pushQuery (F_init p1 p2 p3) p4) (A_pushQuery (F_init p1 p2 p3) (A_init p1 p2 p3) p4) p5)) = (if (if ((if (if p4 < 0 then (0 : Int32) else (if (7 : Int32) < p4 then (0 : Int32) else (1 : Int32))) = 0 then (0 : Int32) else (1 : Int32)) + (if (if p5 < 0 then (0 : Int32) else (if (7 : Int32) < p5 then (0 : Int32) else (1 : Int32))) = 0 then (0 : Int32) else (1 : Int32))) = (1 : Int32) then (if (if p4 < 0 then (0 : Int32) else (if (7 : Int32) < p4 then (0 : Int32) else (1 : Int32))) = 0 then (if (if p5 < 0 then (0 : Int32) else (if (7 : Int32) < p5 then (0 : Int32) else (1 : Int32))) = 0 then (0 : Int32) else (if p5 = 0 then (1 : Int32) else (0 : Int32))) else (if p4 = 0 then (1 : Int32) else (if (if p5 < 0 then (0 : Int32) else (if (7 : Int32) < p5 then (0 : Int32) else (1 : Int32))) = 0 then (0 : Int32) else (if p5 = 0 then (1 : Int32) else (0 : Int32))))) else (0 : Int32)) = 0 then (-1 : Int32) else (0 : Int32))) (s47 : ¬ (32 : Int32) < ((F_pushQuery (F_pushQuery (F_init p1 p2 p3) p4) p5) 13)) (h49 : (f_sampledSelf (F_pushQuery (F_pushQuery (F_init p1 p2 p3) p4) p5) (A_pushQuery (F_pushQuery (F_init p1 p2 p3) p4) (A_pushQuery (F_init p1 p2 p3) (A_init p1 p2 p3) p4) p5)) = (if (if ((if (if p4 < 0 then (0 : Int32) else (if (7 : Int32) < p4 then (0 : Int32) else (1 : Int32))) = 0 then (0 : Int32) else (1 : Int32)) + (if (if p5 < 0 then (0 : Int32) else (if (7 : Int32) < p5 then (0 : Int32) else (1 : Int32))) = 0 then (0 : Int32) else (1 : Int32))) = (1 : Int32) then (if (if p4 < 0 then (0 : Int32) else (if (7 : Int32) < p4 then (0 : Int32) else (1 : Int32))) = 0 then (if (if p5 < 0 then (0 : Int32) else (if (7 : Int32) < p5 then (0 : Int32) else (1 : Int32))) = 0 then (0 : Int32) else (if p5 = 0 then (1 : Int32) else (0 : Int32))) else (if p4 = 0 then (1 : Int32) else (if (if p5 < 0 then (0 : Int32) else (if (7 : Int32) < p5 then (0 : Int32) else (1 : Int32))) = 0 then (0 : Int32) else (if p5 = 0 then (1 : Int32) else (0 : Int32))))) else (0 : Int32)) = 0 then (-1 : Int32) else (0 : Int32))) (s50 : ¬ ((F_clearQuery (F_pushQuery (F_pushQuery (F_init p1 p2 p3) p4) p5)) 1) = 0) (s51 : ¬ (16 : Int32) < ((F_clearQuery (F_pushQuery (F_pushQuery (F_init p1 p2 p3) p4) p5)) 6)) (h53 : (f_info (F_clearQuery (F_pushQuery (F_pushQuery (F_init p1 p2 p3) p4) p5)) (A_pushQuery (F_pushQuery (F_init p1 p2 p3) p4) (A_pushQuery (F_init p1 p2 p3) (A_init p1 p2 p3) p4) p5) (12 : Int32)) = 0) (s54 : ¬ (16 : Int32) < ((F_clearQuery (F_pushQuery (F_pushQuery (F_init p1 p2 p3) p4) p5)) 11)) (s55 : ¬ (32 : Int32) < ((F_clearQuery (F_pushQuery (F_pushQuery (F_init p1 p2 p3) p4) p5)) 12)) (h57 : (f_self (F_clearQuery (F_pushQuery (F_pushQuery (F_init p1 p2 p3) p4) p5)) (A_pushQuery (F_pushQuery (F_init p1 p2 p3) p4) (A_pushQuery (F_init p1 p2 p3) (A_init p1 p2 p3) p4) p5)) = (-1 : Int32)) (h58 : Q (some (.int (1 : Int32))) (sl, sv, [(16, (F_clearQuery (F_pushQuery (F_pushQuery (F_init p1 p2 p3) p4) p5)), (fun _ => 0), (A_pushQuery (F_pushQuery (F_init p1 p2 p3) p4) (A_pushQuery (F_init p1 p2 p3) (A_init p1 p2 p3) p4) p5), (fun _ _ => 0))])) :
    Wk l Z (MoL Z cdC "ContextProfilerL2" false) md_L_law 0 [.val (.int p1), .val (.int p2), .val (.int p3), .val (.int p4), .val (.int p5), .unset, .unset, .unset, .unset, .unset, .unset] [] (sl, sv, []) 0 0 Q := by
  refine Wk.newL (coC H) (kk := 30) (H.w 0 rfl) (H.w 1 rfl) (wz_C H) o_L_law_0 trivial (i' := 1) rfl (ws' := [(0, (fun _ => 0), (fun _ => 0), (fun _ _ => 0), (fun _ _ => 0))]) rfl (cu' := 1) rfl (su' := 30) rfl (by decide) (by decide) ?_
  refine Wk.dup o_L_law_3 rfl ?_
  refine Wk.iloadN o_L_law_4 rfl ?_
  refine Wk.iloadN o_L_law_5 rfl ?_
  refine Wk.iloadN o_L_law_6 rfl ?_
  refine Wk.ctorLU (coC H) [.int p1, .int p2, .int p3] 0 [.ref 1] (i' := 1) (H.w 3 rfl) (cv_init H) o_L_law_7 (run_init H p1 p2 p3) (wt := 1) (cu' := 17) (su' := 502) (by decide) trivial rfl rfl rfl rfl rfl rfl rfl rfl rfl rfl (ws' := [(16, (F_init p1 p2 p3), (fun _ => 0), (A_init p1 p2 p3), (fun _ _ => 0))]) rfl ?_
  refine Wk.astore o_L_law_10 (Or.inl rfl) (L' := [.val (.int p1), .val (.int p2), .val (.int p3), .val (.int p4), .val (.int p5), .val (.ref 1), .unset, .unset, .unset, .unset, .unset]) rfl ?_
  refine Wk.iloadN o_L_law_12 rfl ?_
  have J4 : Wk l Z (MoL Z cdC "ContextProfilerL2" false) md_L_law 27 [.val (.int p1), .val (.int p2), .val (.int p3), .val (.int p4), .val (.int p5), .val (.ref 1), .unset, .unset, .unset, .unset, .unset] [.int (if p4 < 0 then (0 : Int32) else (if (7 : Int32) < p4 then (0 : Int32) else (1 : Int32)))] (sl, sv, [(16, (F_init p1 p2 p3), (fun _ => 0), (A_init p1 p2 p3), (fun _ _ => 0))]) 17 502 Q := by
    refine Wk.istore o_L_law_27 (Or.inl rfl) (L' := [.val (.int p1), .val (.int p2), .val (.int p3), .val (.int p4), .val (.int p5), .val (.ref 1), .val (.int (if p4 < 0 then (0 : Int32) else (if (7 : Int32) < p4 then (0 : Int32) else (1 : Int32)))), .unset, .unset, .unset, .unset]) rfl ?_
    refine Wk.iload o_L_law_29 rfl ?_
    have J8 : Wk l Z (MoL Z cdC "ContextProfilerL2" false) md_L_law 46 [.val (.int p1), .val (.int p2), .val (.int p3), .val (.int p4), .val (.int p5), .val (.ref 1), .val (.int (if p4 < 0 then (0 : Int32) else (if (7 : Int32) < p4 then (0 : Int32) else (1 : Int32)))), .unset, .unset, .unset, .unset] [.int (if p5 < 0 then (0 : Int32) else (if (7 : Int32) < p5 then (0 : Int32) else (1 : Int32)))] (sl, sv, [(16, (F_init p1 p2 p3), (fun _ => 0), (A_init p1 p2 p3), (fun _ _ => 0))]) 17 502 Q := by
      refine Wk.istore o_L_law_46 (Or.inl rfl) (L' := [.val (.int p1), .val (.int p2), .val (.int p3), .val (.int p4), .val (.int p5), .val (.ref 1), .val (.int (if p4 < 0 then (0 : Int32) else (if (7 : Int32) < p4 then (0 : Int32) else (1 : Int32)))), .val (.int (if p5 < 0 then (0 : Int32) else (if (7 : Int32) < p5 then (0 : Int32) else (1 : Int32)))), .unset, .unset, .unset]) rfl ?_
      refine Wk.aload o_L_law_48 rfl ?_
      refine Wk.iloadN o_L_law_50 rfl ?_
      refine Wk.callLF (coC H) [.int p4] 0 [] (i' := 1) (H.w 83 rfl) (cv_pushQuery H) o_L_law_51 (run_pushQuery H (F_init p1 p2 p3) (fun _ => 0) (A_init p1 p2 p3) (fun _ _ => 0) p4 s9) (wt := 0) (cu' := 17) (su' := 502) (by decide) trivial rfl rfl rfl rfl rfl rfl rfl rfl rfl rfl (ws' := [(16, (F_pushQuery (F_init p1 p2 p3) p4), (fun _ => 0), (A_pushQuery (F_init p1 p2 p3) (A_init p1 p2 p3) p4), (fun _ _ => 0))]) rfl ?_
      refine Wk.iload o_L_law_54 rfl ?_
      refine Wk.icmp_eq o_L_law_56 (fun q10 => ?_) (fun q => absurd h11 q)
      refine Wk.aload o_L_law_61 rfl ?_
      refine Wk.iload o_L_law_63 rfl ?_
      refine Wk.callLF (coC H) [.int p5] 0 [] (i' := 1) (H.w 83 rfl) (cv_pushQuery H) o_L_law_65 (run_pushQuery H (F_pushQuery (F_init p1 p2 p3) p4) (fun _ => 0) (A_pushQuery (F_init p1 p2 p3) (A_init p1 p2 p3) p4) (fun _ _ => 0) p5 s12) (wt := 0) (cu' := 17) (su' := 502) (by decide) trivial rfl rfl rfl rfl rfl rfl rfl rfl rfl rfl (ws' := [(16, (F_pushQuery (F_pushQuery (F_init p1 p2 p3) p4) p5), (fun _ => 0), (A_pushQuery (F_pushQuery (F_init p1 p2 p3) p4) (A_pushQuery (F_init p1 p2 p3) (A_init p1 p2 p3) p4) p5), (fun _ _ => 0))]) rfl ?_
      refine Wk.iload o_L_law_68 rfl ?_
      refine Wk.icmp_eq o_L_law_70 (fun q13 => ?_) (fun q => absurd h14 q)
      refine Wk.iload o_L_law_75 rfl ?_
      have J16 : Wk l Z (MoL Z cdC "ContextProfilerL2" false) md_L_law 85 [.val (.int p1), .val (.int p2), .val (.int p3), .val (.int p4), .val (.int p5), .val (.ref 1), .val (.int (if p4 < 0 then (0 : Int32) else (if (7 : Int32) < p4 then (0 : Int32) else (1 : Int32)))), .val (.int (if p5 < 0 then (0 : Int32) else (if (7 : Int32) < p5 then (0 : Int32) else (1 : Int32)))), .unset, .unset, .unset] [.int (if (if p4 < 0 then (0 : Int32) else (if (7 : Int32) < p4 then (0 : Int32) else (1 : Int32))) = 0 then (0 : Int32) else (1 : Int32))] (sl, sv, [(16, (F_pushQuery (F_pushQuery (F_init p1 p2 p3) p4) p5), (fun _ => 0), (A_pushQuery (F_pushQuery (F_init p1 p2 p3) p4) (A_pushQuery (F_init p1 p2 p3) (A_init p1 p2 p3) p4) p5), (fun _ _ => 0))]) 17 502 Q := by
        refine Wk.iload o_L_law_85 rfl ?_
        have J18 : Wk l Z (MoL Z cdC "ContextProfilerL2" false) md_L_law 95 [.val (.int p1), .val (.int p2), .val (.int p3), .val (.int p4), .val (.int p5), .val (.ref 1), .val (.int (if p4 < 0 then (0 : Int32) else (if (7 : Int32) < p4 then (0 : Int32) else (1 : Int32)))), .val (.int (if p5 < 0 then (0 : Int32) else (if (7 : Int32) < p5 then (0 : Int32) else (1 : Int32)))), .unset, .unset, .unset] [.int (if (if p5 < 0 then (0 : Int32) else (if (7 : Int32) < p5 then (0 : Int32) else (1 : Int32))) = 0 then (0 : Int32) else (1 : Int32)), .int (if (if p4 < 0 then (0 : Int32) else (if (7 : Int32) < p4 then (0 : Int32) else (1 : Int32))) = 0 then (0 : Int32) else (1 : Int32))] (sl, sv, [(16, (F_pushQuery (F_pushQuery (F_init p1 p2 p3) p4) p5), (fun _ => 0), (A_pushQuery (F_pushQuery (F_init p1 p2 p3) p4) (A_pushQuery (F_init p1 p2 p3) (A_init p1 p2 p3) p4) p5), (fun _ _ => 0))]) 17 502 Q := by
          refine Wk.iadd o_L_law_95 ?_
          refine Wk.istore o_L_law_96 (Or.inl rfl) (L' := [.val (.int p1), .val (.int p2), .val (.int p3), .val (.int p4), .val (.int p5), .val (.ref 1), .val (.int (if p4 < 0 then (0 : Int32) else (if (7 : Int32) < p4 then (0 : Int32) else (1 : Int32)))), .val (.int (if p5 < 0 then (0 : Int32) else (if (7 : Int32) < p5 then (0 : Int32) else (1 : Int32)))), .val (.int ((if (if p4 < 0 then (0 : Int32) else (if (7 : Int32) < p4 then (0 : Int32) else (1 : Int32))) = 0 then (0 : Int32) else (1 : Int32)) + (if (if p5 < 0 then (0 : Int32) else (if (7 : Int32) < p5 then (0 : Int32) else (1 : Int32))) = 0 then (0 : Int32) else (1 : Int32)))), .unset, .unset]) rfl ?_
          refine Wk.aload o_L_law_98 rfl ?_
          refine Wk.bipush o_L_law_100 (z := (12 : Int32)) (by decide) ?_
          refine Wk.callLF (coC H) [.int (12 : Int32)] 0 [] (i' := 1) (H.w 88 rfl) (cv_info H) o_L_law_102 (run_info H (F_pushQuery (F_pushQuery (F_init p1 p2 p3) p4) p5) (fun _ => 0) (A_pushQuery (F_pushQuery (F_init p1 p2 p3) p4) (A_pushQuery (F_init p1 p2 p3) (A_init p1 p2 p3) p4) p5) (fun _ _ => 0) (12 : Int32) s19 s20) (wt := 0) (cu' := 17) (su' := 502) (by decide) trivial rfl rfl rfl rfl rfl rfl rfl rfl rfl rfl (ws' := [(16, (F_pushQuery (F_pushQuery (F_init p1 p2 p3) p4) p5), (fun _ => 0), (A_pushQuery (F_pushQuery (F_init p1 p2 p3) p4) (A_pushQuery (F_init p1 p2 p3) (A_init p1 p2 p3) p4) p5), (fun _ _ => 0))]) rfl ?_
          refine Wk.iload o_L_law_105 rfl ?_
          refine Wk.icmp_eq o_L_law_107 (fun q21 => ?_) (fun q => absurd h22 q)
          refine Wk.iload o_L_law_112 rfl ?_
          refine Wk.iconst o_L_law_114 (z := (1 : Int32)) (by decide) ?_
          have J36 : Wk l Z (MoL Z cdC "ContextProfilerL2" false) md_L_law 142 [.val (.int p1), .val (.int p2), .val (.int p3), .val (.int p4), .val (.int p5), .val (.ref 1), .val (.int (if p4 < 0 then (0 : Int32) else (if (7 : Int32) < p4 then (0 : Int32) else (1 : Int32)))), .val (.int (if p5 < 0 then (0 : Int32) else (if (7 : Int32) < p5 then (0 : Int32) else (1 : Int32)))), .val (.int ((if (if p4 < 0 then (0 : Int32) else (if (7 : Int32) < p4 then (0 : Int32) else (1 : Int32))) = 0 then (0 : Int32) else (1 : Int32)) + (if (if p5 < 0 then (0 : Int32) else (if (7 : Int32) < p5 then (0 : Int32) else (1 : Int32))) = 0 then (0 : Int32) else (1 : Int32)))), .unset, .unset] [.int (if ((if (if p4 < 0 then (0 : Int32) else (if (7 : Int32) < p4 then (0 : Int32) else (1 : Int32))) = 0 then (0 : Int32) else (1 : Int32)) + (if (if p5 < 0 then (0 : Int32) else (if (7 : Int32) < p5 then (0 : Int32) else (1 : Int32))) = 0 then (0 : Int32) else (1 : Int32))) = (1 : Int32) then (if (if p4 < 0 then (0 : Int32) else (if (7 : Int32) < p4 then (0 : Int32) else (1 : Int32))) = 0 then (if (if p5 < 0 then (0 : Int32) else (if (7 : Int32) < p5 then (0 : Int32) else (1 : Int32))) = 0 then (0 : Int32) else (if p5 = 0 then (1 : Int32) else (0 : Int32))) else (if p4 = 0 then (1 : Int32) else (if (if p5 < 0 then (0 : Int32) else (if (7 : Int32) < p5 then (0 : Int32) else (1 : Int32))) = 0 then (0 : Int32) else (if p5 = 0 then (1 : Int32) else (0 : Int32))))) else (0 : Int32))] (sl, sv, [(16, (F_pushQuery (F_pushQuery (F_init p1 p2 p3) p4) p5), (fun _ => 0), (A_pushQuery (F_pushQuery (F_init p1 p2 p3) p4) (A_pushQuery (F_init p1 p2 p3) (A_init p1 p2 p3) p4) p5), (fun _ _ => 0))]) 17 502 Q := by
            refine Wk.istore o_L_law_142 (Or.inl rfl) (L' := [.val (.int p1), .val (.int p2), .val (.int p3), .val (.int p4), .val (.int p5), .val (.ref 1), .val (.int (if p4 < 0 then (0 : Int32) else (if (7 : Int32) < p4 then (0 : Int32) else (1 : Int32)))), .val (.int (if p5 < 0 then (0 : Int32) else (if (7 : Int32) < p5 then (0 : Int32) else (1 : Int32)))), .val (.int ((if (if p4 < 0 then (0 : Int32) else (if (7 : Int32) < p4 then (0 : Int32) else (1 : Int32))) = 0 then (0 : Int32) else (1 : Int32)) + (if (if p5 < 0 then (0 : Int32) else (if (7 : Int32) < p5 then (0 : Int32) else (1 : Int32))) = 0 then (0 : Int32) else (1 : Int32)))), .val (.int (if ((if (if p4 < 0 then (0 : Int32) else (if (7 : Int32) < p4 then (0 : Int32) else (1 : Int32))) = 0 then (0 : Int32) else (1 : Int32)) + (if (if p5 < 0 then (0 : Int32) else (if (7 : Int32) < p5 then (0 : Int32) else (1 : Int32))) = 0 then (0 : Int32) else (1 : Int32))) = (1 : Int32) then (if (if p4 < 0 then (0 : Int32) else (if (7 : Int32) < p4 then (0 : Int32) else (1 : Int32))) = 0 then (if (if p5 < 0 then (0 : Int32) else (if (7 : Int32) < p5 then (0 : Int32) else (1 : Int32))) = 0 then (0 : Int32) else (if p5 = 0 then (1 : Int32) else (0 : Int32))) else (if p4 = 0 then (1 : Int32) else (if (if p5 < 0 then (0 : Int32) else (if (7 : Int32) < p5 then (0 : Int32) else (1 : Int32))) = 0 then (0 : Int32) else (if p5 = 0 then (1 : Int32) else (0 : Int32))))) else (0 : Int32))), .unset]) rfl ?_
            refine Wk.iload o_L_law_144 rfl ?_
            have J38 : Wk l Z (MoL Z cdC "ContextProfilerL2" false) md_L_law 154 [.val (.int p1), .val (.int p2), .val (.int p3), .val (.int p4), .val (.int p5), .val (.ref 1), .val (.int (if p4 < 0 then (0 : Int32) else (if (7 : Int32) < p4 then (0 : Int32) else (1 : Int32)))), .val (.int (if p5 < 0 then (0 : Int32) else (if (7 : Int32) < p5 then (0 : Int32) else (1 : Int32)))), .val (.int ((if (if p4 < 0 then (0 : Int32) else (if (7 : Int32) < p4 then (0 : Int32) else (1 : Int32))) = 0 then (0 : Int32) else (1 : Int32)) + (if (if p5 < 0 then (0 : Int32) else (if (7 : Int32) < p5 then (0 : Int32) else (1 : Int32))) = 0 then (0 : Int32) else (1 : Int32)))), .val (.int (if ((if (if p4 < 0 then (0 : Int32) else (if (7 : Int32) < p4 then (0 : Int32) else (1 : Int32))) = 0 then (0 : Int32) else (1 : Int32)) + (if (if p5 < 0 then (0 : Int32) else (if (7 : Int32) < p5 then (0 : Int32) else (1 : Int32))) = 0 then (0 : Int32) else (1 : Int32))) = (1 : Int32) then (if (if p4 < 0 then (0 : Int32) else (if (7 : Int32) < p4 then (0 : Int32) else (1 : Int32))) = 0 then (if (if p5 < 0 then (0 : Int32) else (if (7 : Int32) < p5 then (0 : Int32) else (1 : Int32))) = 0 then (0 : Int32) else (if p5 = 0 then (1 : Int32) else (0 : Int32))) else (if p4 = 0 then (1 : Int32) else (if (if p5 < 0 then (0 : Int32) else (if (7 : Int32) < p5 then (0 : Int32) else (1 : Int32))) = 0 then (0 : Int32) else (if p5 = 0 then (1 : Int32) else (0 : Int32))))) else (0 : Int32))), .unset] [.int (if (if ((if (if p4 < 0 then (0 : Int32) else (if (7 : Int32) < p4 then (0 : Int32) else (1 : Int32))) = 0 then (0 : Int32) else (1 : Int32)) + (if (if p5 < 0 then (0 : Int32) else (if (7 : Int32) < p5 then (0 : Int32) else (1 : Int32))) = 0 then (0 : Int32) else (1 : Int32))) = (1 : Int32) then (if (if p4 < 0 then (0 : Int32) else (if (7 : Int32) < p4 then (0 : Int32) else (1 : Int32))) = 0 then (if (if p5 < 0 then (0 : Int32) else (if (7 : Int32) < p5 then (0 : Int32) else (1 : Int32))) = 0 then (0 : Int32) else (if p5 = 0 then (1 : Int32) else (0 : Int32))) else (if p4 = 0 then (1 : Int32) else (if (if p5 < 0 then (0 : Int32) else (if (7 : Int32) < p5 then (0 : Int32) else (1 : Int32))) = 0 then (0 : Int32) else (if p5 = 0 then (1 : Int32) else (0 : Int32))))) else (0 : Int32)) = 0 then (-1 : Int32) else (0 : Int32))] (sl, sv, [(16, (F_pushQuery (F_pushQuery (F_init p1 p2 p3) p4) p5), (fun _ => 0), (A_pushQuery (F_pushQuery (F_init p1 p2 p3) p4) (A_pushQuery (F_init p1 p2 p3) (A_init p1 p2 p3) p4) p5), (fun _ _ => 0))]) 17 502 Q := by
              refine Wk.istore o_L_law_154 (Or.inl rfl) (L' := [.val (.int p1), .val (.int p2), .val (.int p3), .val (.int p4), .val (.int p5), .val (.ref 1), .val (.int (if p4 < 0 then (0 : Int32) else (if (7 : Int32) < p4 then (0 : Int32) else (1 : Int32)))), .val (.int (if p5 < 0 then (0 : Int32) else (if (7 : Int32) < p5 then (0 : Int32) else (1 : Int32)))), .val (.int ((if (if p4 < 0 then (0 : Int32) else (if (7 : Int32) < p4 then (0 : Int32) else (1 : Int32))) = 0 then (0 : Int32) else (1 : Int32)) + (if (if p5 < 0 then (0 : Int32) else (if (7 : Int32) < p5 then (0 : Int32) else (1 : Int32))) = 0 then (0 : Int32) else (1 : Int32)))), .val (.int (if ((if (if p4 < 0 then (0 : Int32) else (if (7 : Int32) < p4 then (0 : Int32) else (1 : Int32))) = 0 then (0 : Int32) else (1 : Int32)) + (if (if p5 < 0 then (0 : Int32) else (if (7 : Int32) < p5 then (0 : Int32) else (1 : Int32))) = 0 then (0 : Int32) else (1 : Int32))) = (1 : Int32) then (if (if p4 < 0 then (0 : Int32) else (if (7 : Int32) < p4 then (0 : Int32) else (1 : Int32))) = 0 then (if (if p5 < 0 then (0 : Int32) else (if (7 : Int32) < p5 then (0 : Int32) else (1 : Int32))) = 0 then (0 : Int32) else (if p5 = 0 then (1 : Int32) else (0 : Int32))) else (if p4 = 0 then (1 : Int32) else (if (if p5 < 0 then (0 : Int32) else (if (7 : Int32) < p5 then (0 : Int32) else (1 : Int32))) = 0 then (0 : Int32) else (if p5 = 0 then (1 : Int32) else (0 : Int32))))) else (0 : Int32))), .val (.int (if (if ((if (if p4 < 0 then (0 : Int32) else (if (7 : Int32) < p4 then (0 : Int32) else (1 : Int32))) = 0 then (0 : Int32) else (1 : Int32)) + (if (if p5 < 0 then (0 : Int32) else (if (7 : Int32) < p5 then (0 : Int32) else (1 : Int32))) = 0 then (0 : Int32) else (1 : Int32))) = (1 : Int32) then (if (if p4 < 0 then (0 : Int32) else (if (7 : Int32) < p4 then (0 : Int32) else (1 : Int32))) = 0 then (if (if p5 < 0 then (0 : Int32) else (if (7 : Int32) < p5 then (0 : Int32) else (1 : Int32))) = 0 then (0 : Int32) else (if p5 = 0 then (1 : Int32) else (0 : Int32))) else (if p4 = 0 then (1 : Int32) else (if (if p5 < 0 then (0 : Int32) else (if (7 : Int32) < p5 then (0 : Int32) else (1 : Int32))) = 0 then (0 : Int32) else (if p5 = 0 then (1 : Int32) else (0 : Int32))))) else (0 : Int32)) = 0 then (-1 : Int32) else (0 : Int32)))]) rfl ?_
              refine Wk.aload o_L_law_156 rfl ?_
              refine Wk.callLF (coC H) [] 0 [] (i' := 1) (H.w 93 rfl) (cv_self H) o_L_law_158 (run_self H (F_pushQuery (F_pushQuery (F_init p1 p2 p3) p4) p5) (fun _ => 0) (A_pushQuery (F_pushQuery (F_init p1 p2 p3) p4) (A_pushQuery (F_init p1 p2 p3) (A_init p1 p2 p3) p4) p5) (fun _ _ => 0) s39 s40) (wt := 0) (cu' := 17) (su' := 502) (by decide) trivial rfl rfl rfl rfl rfl rfl rfl rfl rfl rfl (ws' := [(16, (F_pushQuery (F_pushQuery (F_init p1 p2 p3) p4) p5), (fun _ => 0), (A_pushQuery (F_pushQuery (F_init p1 p2 p3) p4) (A_pushQuery (F_init p1 p2 p3) (A_init p1 p2 p3) p4) p5), (fun _ _ => 0))]) rfl ?_
              refine Wk.iload o_L_law_161 rfl ?_
              refine Wk.icmp_eq o_L_law_163 (fun q41 => ?_) (fun q => absurd h42 q)
              refine Wk.aload o_L_law_168 rfl ?_
              refine Wk.callLF (coC H) [] 0 [] (i' := 1) (H.w 102 rfl) (cv_inclusive H) o_L_law_170 (run_inclusive H (F_pushQuery (F_pushQuery (F_init p1 p2 p3) p4) p5) (fun _ => 0) (A_pushQuery (F_pushQuery (F_init p1 p2 p3) p4) (A_pushQuery (F_init p1 p2 p3) (A_init p1 p2 p3) p4) p5) (fun _ _ => 0) s39 s40) (wt := 0) (cu' := 17) (su' := 502) (by decide) trivial rfl rfl rfl rfl rfl rfl rfl rfl rfl rfl (ws' := [(16, (F_pushQuery (F_pushQuery (F_init p1 p2 p3) p4) p5), (fun _ => 0), (A_pushQuery (F_pushQuery (F_init p1 p2 p3) p4) (A_pushQuery (F_init p1 p2 p3) (A_init p1 p2 p3) p4) p5), (fun _ _ => 0))]) rfl ?_
              refine Wk.iload o_L_law_173 rfl ?_
              refine Wk.icmp_eq o_L_law_175 (fun q43 => ?_) (fun q => absurd h44 q)
              refine Wk.aload o_L_law_180 rfl ?_
              refine Wk.callLF (coC H) [] 0 [] (i' := 1) (H.w 107 rfl) (cv_lost H) o_L_law_182 (run_lost H (F_pushQuery (F_pushQuery (F_init p1 p2 p3) p4) p5) (fun _ => 0) (A_pushQuery (F_pushQuery (F_init p1 p2 p3) p4) (A_pushQuery (F_init p1 p2 p3) (A_init p1 p2 p3) p4) p5) (fun _ _ => 0) s39 s40) (wt := 0) (cu' := 17) (su' := 502) (by decide) trivial rfl rfl rfl rfl rfl rfl rfl rfl rfl rfl (ws' := [(16, (F_pushQuery (F_pushQuery (F_init p1 p2 p3) p4) p5), (fun _ => 0), (A_pushQuery (F_pushQuery (F_init p1 p2 p3) p4) (A_pushQuery (F_init p1 p2 p3) (A_init p1 p2 p3) p4) p5), (fun _ _ => 0))]) rfl ?_
              refine Wk.iload o_L_law_185 rfl ?_
              refine Wk.icmp_eq o_L_law_187 (fun q45 => ?_) (fun q => absurd h46 q)
              refine Wk.aload o_L_law_192 rfl ?_
              refine Wk.callLF (coC H) [] 0 [] (i' := 1) (H.w 112 rfl) (cv_sampledSelf H) o_L_law_194 (run_sampledSelf H (F_pushQuery (F_pushQuery (F_init p1 p2 p3) p4) p5) (fun _ => 0) (A_pushQuery (F_pushQuery (F_init p1 p2 p3) p4) (A_pushQuery (F_init p1 p2 p3) (A_init p1 p2 p3) p4) p5) (fun _ _ => 0) s39 s47) (wt := 0) (cu' := 17) (su' := 502) (by decide) trivial rfl rfl rfl rfl rfl rfl rfl rfl rfl rfl (ws' := [(16, (F_pushQuery (F_pushQuery (F_init p1 p2 p3) p4) p5), (fun _ => 0), (A_pushQuery (F_pushQuery (F_init p1 p2 p3) p4) (A_pushQuery (F_init p1 p2 p3) (A_init p1 p2 p3) p4) p5), (fun _ _ => 0))]) rfl ?_
              refine Wk.iload o_L_law_197 rfl ?_
              refine Wk.icmp_eq o_L_law_199 (fun q48 => ?_) (fun q => absurd h49 q)
              refine Wk.aload o_L_law_204 rfl ?_
              refine Wk.callLU (coC H) [] 0 [] (i' := 1) (H.w 121 rfl) (cv_clearQuery H) o_L_law_206 (run_clearQuery H (F_pushQuery (F_pushQuery (F_init p1 p2 p3) p4) p5) (fun _ => 0) (A_pushQuery (F_pushQuery (F_init p1 p2 p3) p4) (A_pushQuery (F_init p1 p2 p3) (A_init p1 p2 p3) p4) p5) (fun _ _ => 0)) (wt := 0) (cu' := 17) (su' := 502) (by decide) trivial rfl rfl rfl rfl rfl rfl rfl rfl rfl rfl (ws' := [(16, (F_clearQuery (F_pushQuery (F_pushQuery (F_init p1 p2 p3) p4) p5)), (fun _ => 0), (A_pushQuery (F_pushQuery (F_init p1 p2 p3) p4) (A_pushQuery (F_init p1 p2 p3) (A_init p1 p2 p3) p4) p5), (fun _ _ => 0))]) rfl ?_
              refine Wk.aload o_L_law_209 rfl ?_
              refine Wk.bipush o_L_law_211 (z := (12 : Int32)) (by decide) ?_
              refine Wk.callLF (coC H) [.int (12 : Int32)] 0 [] (i' := 1) (H.w 88 rfl) (cv_info H) o_L_law_213 (run_info H (F_clearQuery (F_pushQuery (F_pushQuery (F_init p1 p2 p3) p4) p5)) (fun _ => 0) (A_pushQuery (F_pushQuery (F_init p1 p2 p3) p4) (A_pushQuery (F_init p1 p2 p3) (A_init p1 p2 p3) p4) p5) (fun _ _ => 0) (12 : Int32) s50 s51) (wt := 0) (cu' := 17) (su' := 502) (by decide) trivial rfl rfl rfl rfl rfl rfl rfl rfl rfl rfl (ws' := [(16, (F_clearQuery (F_pushQuery (F_pushQuery (F_init p1 p2 p3) p4) p5)), (fun _ => 0), (A_pushQuery (F_pushQuery (F_init p1 p2 p3) p4) (A_pushQuery (F_init p1 p2 p3) (A_init p1 p2 p3) p4) p5), (fun _ _ => 0))]) rfl ?_
              refine Wk.if_ne o_L_law_216 (fun q => absurd h53 q) (fun q52 => ?_)
              refine Wk.aload o_L_law_219 rfl ?_
              refine Wk.callLF (coC H) [] 0 [] (i' := 1) (H.w 93 rfl) (cv_self H) o_L_law_221 (run_self H (F_clearQuery (F_pushQuery (F_pushQuery (F_init p1 p2 p3) p4) p5)) (fun _ => 0) (A_pushQuery (F_pushQuery (F_init p1 p2 p3) p4) (A_pushQuery (F_init p1 p2 p3) (A_init p1 p2 p3) p4) p5) (fun _ _ => 0) s54 s55) (wt := 0) (cu' := 17) (su' := 502) (by decide) trivial rfl rfl rfl rfl rfl rfl rfl rfl rfl rfl (ws' := [(16, (F_clearQuery (F_pushQuery (F_pushQuery (F_init p1 p2 p3) p4) p5)), (fun _ => 0), (A_pushQuery (F_pushQuery (F_init p1 p2 p3) p4) (A_pushQuery (F_init p1 p2 p3) (A_init p1 p2 p3) p4) p5), (fun _ _ => 0))]) rfl ?_
              refine Wk.iconst o_L_law_224 (z := (-1 : Int32)) (by decide) ?_
              refine Wk.icmp_ne o_L_law_225 (fun q => absurd h57 q) (fun q56 => ?_)
              refine Wk.iconst o_L_law_228 (z := (1 : Int32)) (by decide) ?_
              refine Wk.goto o_L_law_229 ?_
              exact Wk.zreturn mrL rfl o_L_law_233 rfl (by decide) (by decide) (y := (1 : Int32)) (by decide) h58
            refine Wk.if_eq o_L_law_146 (fun q37 => ?_) (fun q37 => ?_)
            · refine Wk.iconst o_L_law_153 (z := (-1 : Int32)) (by decide) ?_
              first | (rw [show ((if (if ((if (if p4 < 0 then (0 : Int32) else (if (7 : Int32) < p4 then (0 : Int32) else (1 : Int32))) = 0 then (0 : Int32) else (1 : Int32)) + (if (if p5 < 0 then (0 : Int32) else (if (7 : Int32) < p5 then (0 : Int32) else (1 : Int32))) = 0 then (0 : Int32) else (1 : Int32))) = (1 : Int32) then (if (if p4 < 0 then (0 : Int32) else (if (7 : Int32) < p4 then (0 : Int32) else (1 : Int32))) = 0 then (if (if p5 < 0 then (0 : Int32) else (if (7 : Int32) < p5 then (0 : Int32) else (1 : Int32))) = 0 then (0 : Int32) else (if p5 = 0 then (1 : Int32) else (0 : Int32))) else (if p4 = 0 then (1 : Int32) else (if (if p5 < 0 then (0 : Int32) else (if (7 : Int32) < p5 then (0 : Int32) else (1 : Int32))) = 0 then (0 : Int32) else (if p5 = 0 then (1 : Int32) else (0 : Int32))))) else (0 : Int32)) = 0 then (-1 : Int32) else (0 : Int32)) : Int32) = (-1 : Int32) from if_pos q37] at J38; exact J38) | exact J38 | (simp only [if_pos q37] at J38 ⊢; exact J38)
            · refine Wk.iconst o_L_law_149 (z := (0 : Int32)) (by decide) ?_
              refine Wk.goto o_L_law_150 ?_
              first | (rw [show ((if (if ((if (if p4 < 0 then (0 : Int32) else (if (7 : Int32) < p4 then (0 : Int32) else (1 : Int32))) = 0 then (0 : Int32) else (1 : Int32)) + (if (if p5 < 0 then (0 : Int32) else (if (7 : Int32) < p5 then (0 : Int32) else (1 : Int32))) = 0 then (0 : Int32) else (1 : Int32))) = (1 : Int32) then (if (if p4 < 0 then (0 : Int32) else (if (7 : Int32) < p4 then (0 : Int32) else (1 : Int32))) = 0 then (if (if p5 < 0 then (0 : Int32) else (if (7 : Int32) < p5 then (0 : Int32) else (1 : Int32))) = 0 then (0 : Int32) else (if p5 = 0 then (1 : Int32) else (0 : Int32))) else (if p4 = 0 then (1 : Int32) else (if (if p5 < 0 then (0 : Int32) else (if (7 : Int32) < p5 then (0 : Int32) else (1 : Int32))) = 0 then (0 : Int32) else (if p5 = 0 then (1 : Int32) else (0 : Int32))))) else (0 : Int32)) = 0 then (-1 : Int32) else (0 : Int32)) : Int32) = (0 : Int32) from if_neg q37] at J38; exact J38) | exact J38 | (simp only [if_neg q37] at J38 ⊢; exact J38)
          refine Wk.icmp_ne o_L_law_115 (fun q23 => ?_) (fun q23 => ?_)
          · refine Wk.iconst o_L_law_141 (z := (0 : Int32)) (by decide) ?_
            first | (rw [show ((if ((if (if p4 < 0 then (0 : Int32) else (if (7 : Int32) < p4 then (0 : Int32) else (1 : Int32))) = 0 then (0 : Int32) else (1 : Int32)) + (if (if p5 < 0 then (0 : Int32) else (if (7 : Int32) < p5 then (0 : Int32) else (1 : Int32))) = 0 then (0 : Int32) else (1 : Int32))) = (1 : Int32) then (if (if p4 < 0 then (0 : Int32) else (if (7 : Int32) < p4 then (0 : Int32) else (1 : Int32))) = 0 then (if (if p5 < 0 then (0 : Int32) else (if (7 : Int32) < p5 then (0 : Int32) else (1 : Int32))) = 0 then (0 : Int32) else (if p5 = 0 then (1 : Int32) else (0 : Int32))) else (if p4 = 0 then (1 : Int32) else (if (if p5 < 0 then (0 : Int32) else (if (7 : Int32) < p5 then (0 : Int32) else (1 : Int32))) = 0 then (0 : Int32) else (if p5 = 0 then (1 : Int32) else (0 : Int32))))) else (0 : Int32)) : Int32) = (0 : Int32) from if_neg q23] at J36; exact J36) | exact J36 | (simp only [if_neg q23] at J36 ⊢; exact J36)
          · refine Wk.iload o_L_law_118 rfl ?_
            refine Wk.if_eq o_L_law_120 (fun q24 => ?_) (fun q24 => ?_)
            · refine Wk.iload o_L_law_127 rfl ?_
              refine Wk.if_eq o_L_law_129 (fun q25 => ?_) (fun q25 => ?_)
              · refine Wk.iconst o_L_law_141 (z := (0 : Int32)) (by decide) ?_
                first | (rw [show ((if ((if (if p4 < 0 then (0 : Int32) else (if (7 : Int32) < p4 then (0 : Int32) else (1 : Int32))) = 0 then (0 : Int32) else (1 : Int32)) + (if (if p5 < 0 then (0 : Int32) else (if (7 : Int32) < p5 then (0 : Int32) else (1 : Int32))) = 0 then (0 : Int32) else (1 : Int32))) = (1 : Int32) then (if (if p4 < 0 then (0 : Int32) else (if (7 : Int32) < p4 then (0 : Int32) else (1 : Int32))) = 0 then (if (if p5 < 0 then (0 : Int32) else (if (7 : Int32) < p5 then (0 : Int32) else (1 : Int32))) = 0 then (0 : Int32) else (if p5 = 0 then (1 : Int32) else (0 : Int32))) else (if p4 = 0 then (1 : Int32) else (if (if p5 < 0 then (0 : Int32) else (if (7 : Int32) < p5 then (0 : Int32) else (1 : Int32))) = 0 then (0 : Int32) else (if p5 = 0 then (1 : Int32) else (0 : Int32))))) else (0 : Int32)) : Int32) = (0 : Int32) from Eq.trans (if_pos q23) <| Eq.trans (if_pos q24) <| if_pos q25] at J36; exact J36) | exact J36 | (simp only [if_pos q23, if_pos q24, if_pos q25] at J36 ⊢; exact J36)
              · refine Wk.iload o_L_law_132 rfl ?_
                refine Wk.if_ne o_L_law_134 (fun q26 => ?_) (fun q26 => ?_)
                · refine Wk.iconst o_L_law_141 (z := (0 : Int32)) (by decide) ?_
                  first | (rw [show ((if ((if (if p4 < 0 then (0 : Int32) else (if (7 : Int32) < p4 then (0 : Int32) else (1 : Int32))) = 0 then (0 : Int32) else (1 : Int32)) + (if (if p5 < 0 then (0 : Int32) else (if (7 : Int32) < p5 then (0 : Int32) else (1 : Int32))) = 0 then (0 : Int32) else (1 : Int32))) = (1 : Int32) then (if (if p4 < 0 then (0 : Int32) else (if (7 : Int32) < p4 then (0 : Int32) else (1 : Int32))) = 0 then (if (if p5 < 0 then (0 : Int32) else (if (7 : Int32) < p5 then (0 : Int32) else (1 : Int32))) = 0 then (0 : Int32) else (if p5 = 0 then (1 : Int32) else (0 : Int32))) else (if p4 = 0 then (1 : Int32) else (if (if p5 < 0 then (0 : Int32) else (if (7 : Int32) < p5 then (0 : Int32) else (1 : Int32))) = 0 then (0 : Int32) else (if p5 = 0 then (1 : Int32) else (0 : Int32))))) else (0 : Int32)) : Int32) = (0 : Int32) from Eq.trans (if_pos q23) <| Eq.trans (if_pos q24) <| Eq.trans (if_neg q25) <| if_neg q26] at J36; exact J36) | exact J36 | (simp only [if_pos q23, if_pos q24, if_neg q25, if_neg q26] at J36 ⊢; exact J36)
                · refine Wk.iconst o_L_law_137 (z := (1 : Int32)) (by decide) ?_
                  refine Wk.goto o_L_law_138 ?_
                  first | (rw [show ((if ((if (if p4 < 0 then (0 : Int32) else (if (7 : Int32) < p4 then (0 : Int32) else (1 : Int32))) = 0 then (0 : Int32) else (1 : Int32)) + (if (if p5 < 0 then (0 : Int32) else (if (7 : Int32) < p5 then (0 : Int32) else (1 : Int32))) = 0 then (0 : Int32) else (1 : Int32))) = (1 : Int32) then (if (if p4 < 0 then (0 : Int32) else (if (7 : Int32) < p4 then (0 : Int32) else (1 : Int32))) = 0 then (if (if p5 < 0 then (0 : Int32) else (if (7 : Int32) < p5 then (0 : Int32) else (1 : Int32))) = 0 then (0 : Int32) else (if p5 = 0 then (1 : Int32) else (0 : Int32))) else (if p4 = 0 then (1 : Int32) else (if (if p5 < 0 then (0 : Int32) else (if (7 : Int32) < p5 then (0 : Int32) else (1 : Int32))) = 0 then (0 : Int32) else (if p5 = 0 then (1 : Int32) else (0 : Int32))))) else (0 : Int32)) : Int32) = (1 : Int32) from Eq.trans (if_pos q23) <| Eq.trans (if_pos q24) <| Eq.trans (if_neg q25) <| if_pos q26] at J36; exact J36) | exact J36 | (simp only [if_pos q23, if_pos q24, if_neg q25, if_pos q26] at J36 ⊢; exact J36)
            · refine Wk.iloadN o_L_law_123 rfl ?_
              refine Wk.if_eq o_L_law_124 (fun q29 => ?_) (fun q29 => ?_)
              · refine Wk.iconst o_L_law_137 (z := (1 : Int32)) (by decide) ?_
                refine Wk.goto o_L_law_138 ?_
                first | (rw [show ((if ((if (if p4 < 0 then (0 : Int32) else (if (7 : Int32) < p4 then (0 : Int32) else (1 : Int32))) = 0 then (0 : Int32) else (1 : Int32)) + (if (if p5 < 0 then (0 : Int32) else (if (7 : Int32) < p5 then (0 : Int32) else (1 : Int32))) = 0 then (0 : Int32) else (1 : Int32))) = (1 : Int32) then (if (if p4 < 0 then (0 : Int32) else (if (7 : Int32) < p4 then (0 : Int32) else (1 : Int32))) = 0 then (if (if p5 < 0 then (0 : Int32) else (if (7 : Int32) < p5 then (0 : Int32) else (1 : Int32))) = 0 then (0 : Int32) else (if p5 = 0 then (1 : Int32) else (0 : Int32))) else (if p4 = 0 then (1 : Int32) else (if (if p5 < 0 then (0 : Int32) else (if (7 : Int32) < p5 then (0 : Int32) else (1 : Int32))) = 0 then (0 : Int32) else (if p5 = 0 then (1 : Int32) else (0 : Int32))))) else (0 : Int32)) : Int32) = (1 : Int32) from Eq.trans (if_pos q23) <| Eq.trans (if_neg q24) <| if_pos q29] at J36; exact J36) | exact J36 | (simp only [if_pos q23, if_neg q24, if_pos q29] at J36 ⊢; exact J36)
              · refine Wk.iload o_L_law_127 rfl ?_
                refine Wk.if_eq o_L_law_129 (fun q30 => ?_) (fun q30 => ?_)
                · refine Wk.iconst o_L_law_141 (z := (0 : Int32)) (by decide) ?_
                  first | (rw [show ((if ((if (if p4 < 0 then (0 : Int32) else (if (7 : Int32) < p4 then (0 : Int32) else (1 : Int32))) = 0 then (0 : Int32) else (1 : Int32)) + (if (if p5 < 0 then (0 : Int32) else (if (7 : Int32) < p5 then (0 : Int32) else (1 : Int32))) = 0 then (0 : Int32) else (1 : Int32))) = (1 : Int32) then (if (if p4 < 0 then (0 : Int32) else (if (7 : Int32) < p4 then (0 : Int32) else (1 : Int32))) = 0 then (if (if p5 < 0 then (0 : Int32) else (if (7 : Int32) < p5 then (0 : Int32) else (1 : Int32))) = 0 then (0 : Int32) else (if p5 = 0 then (1 : Int32) else (0 : Int32))) else (if p4 = 0 then (1 : Int32) else (if (if p5 < 0 then (0 : Int32) else (if (7 : Int32) < p5 then (0 : Int32) else (1 : Int32))) = 0 then (0 : Int32) else (if p5 = 0 then (1 : Int32) else (0 : Int32))))) else (0 : Int32)) : Int32) = (0 : Int32) from Eq.trans (if_pos q23) <| Eq.trans (if_neg q24) <| Eq.trans (if_neg q29) <| if_pos q30] at J36; exact J36) | exact J36 | (simp only [if_pos q23, if_neg q24, if_neg q29, if_pos q30] at J36 ⊢; exact J36)
                · refine Wk.iload o_L_law_132 rfl ?_
                  refine Wk.if_ne o_L_law_134 (fun q31 => ?_) (fun q31 => ?_)
                  · refine Wk.iconst o_L_law_141 (z := (0 : Int32)) (by decide) ?_
                    first | (rw [show ((if ((if (if p4 < 0 then (0 : Int32) else (if (7 : Int32) < p4 then (0 : Int32) else (1 : Int32))) = 0 then (0 : Int32) else (1 : Int32)) + (if (if p5 < 0 then (0 : Int32) else (if (7 : Int32) < p5 then (0 : Int32) else (1 : Int32))) = 0 then (0 : Int32) else (1 : Int32))) = (1 : Int32) then (if (if p4 < 0 then (0 : Int32) else (if (7 : Int32) < p4 then (0 : Int32) else (1 : Int32))) = 0 then (if (if p5 < 0 then (0 : Int32) else (if (7 : Int32) < p5 then (0 : Int32) else (1 : Int32))) = 0 then (0 : Int32) else (if p5 = 0 then (1 : Int32) else (0 : Int32))) else (if p4 = 0 then (1 : Int32) else (if (if p5 < 0 then (0 : Int32) else (if (7 : Int32) < p5 then (0 : Int32) else (1 : Int32))) = 0 then (0 : Int32) else (if p5 = 0 then (1 : Int32) else (0 : Int32))))) else (0 : Int32)) : Int32) = (0 : Int32) from Eq.trans (if_pos q23) <| Eq.trans (if_neg q24) <| Eq.trans (if_neg q29) <| Eq.trans (if_neg q30) <| if_neg q31] at J36; exact J36) | exact J36 | (simp only [if_pos q23, if_neg q24, if_neg q29, if_neg q30, if_neg q31] at J36 ⊢; exact J36)
                  · refine Wk.iconst o_L_law_137 (z := (1 : Int32)) (by decide) ?_
                    refine Wk.goto o_L_law_138 ?_
                    first | (rw [show ((if ((if (if p4 < 0 then (0 : Int32) else (if (7 : Int32) < p4 then (0 : Int32) else (1 : Int32))) = 0 then (0 : Int32) else (1 : Int32)) + (if (if p5 < 0 then (0 : Int32) else (if (7 : Int32) < p5 then (0 : Int32) else (1 : Int32))) = 0 then (0 : Int32) else (1 : Int32))) = (1 : Int32) then (if (if p4 < 0 then (0 : Int32) else (if (7 : Int32) < p4 then (0 : Int32) else (1 : Int32))) = 0 then (if (if p5 < 0 then (0 : Int32) else (if (7 : Int32) < p5 then (0 : Int32) else (1 : Int32))) = 0 then (0 : Int32) else (if p5 = 0 then (1 : Int32) else (0 : Int32))) else (if p4 = 0 then (1 : Int32) else (if (if p5 < 0 then (0 : Int32) else (if (7 : Int32) < p5 then (0 : Int32) else (1 : Int32))) = 0 then (0 : Int32) else (if p5 = 0 then (1 : Int32) else (0 : Int32))))) else (0 : Int32)) : Int32) = (1 : Int32) from Eq.trans (if_pos q23) <| Eq.trans (if_neg q24) <| Eq.trans (if_neg q29) <| Eq.trans (if_neg q30) <| if_pos q31] at J36; exact J36) | exact J36 | (simp only [if_pos q23, if_neg q24, if_neg q29, if_neg q30, if_pos q31] at J36 ⊢; exact J36)
        refine Wk.if_eq o_L_law_87 (fun q17 => ?_) (fun q17 => ?_)
        · refine Wk.iconst o_L_law_94 (z := (0 : Int32)) (by decide) ?_
          first | (rw [show ((if (if p5 < 0 then (0 : Int32) else (if (7 : Int32) < p5 then (0 : Int32) else (1 : Int32))) = 0 then (0 : Int32) else (1 : Int32)) : Int32) = (0 : Int32) from if_pos q17] at J18; exact J18) | exact J18 | (simp only [if_pos q17] at J18 ⊢; exact J18)
        · refine Wk.iconst o_L_law_90 (z := (1 : Int32)) (by decide) ?_
          refine Wk.goto o_L_law_91 ?_
          first | (rw [show ((if (if p5 < 0 then (0 : Int32) else (if (7 : Int32) < p5 then (0 : Int32) else (1 : Int32))) = 0 then (0 : Int32) else (1 : Int32)) : Int32) = (1 : Int32) from if_neg q17] at J18; exact J18) | exact J18 | (simp only [if_neg q17] at J18 ⊢; exact J18)
      refine Wk.if_eq o_L_law_77 (fun q15 => ?_) (fun q15 => ?_)
      · refine Wk.iconst o_L_law_84 (z := (0 : Int32)) (by decide) ?_
        first | (rw [show ((if (if p4 < 0 then (0 : Int32) else (if (7 : Int32) < p4 then (0 : Int32) else (1 : Int32))) = 0 then (0 : Int32) else (1 : Int32)) : Int32) = (0 : Int32) from if_pos q15] at J16; exact J16) | exact J16 | (simp only [if_pos q15] at J16 ⊢; exact J16)
      · refine Wk.iconst o_L_law_80 (z := (1 : Int32)) (by decide) ?_
        refine Wk.goto o_L_law_81 ?_
        first | (rw [show ((if (if p4 < 0 then (0 : Int32) else (if (7 : Int32) < p4 then (0 : Int32) else (1 : Int32))) = 0 then (0 : Int32) else (1 : Int32)) : Int32) = (1 : Int32) from if_neg q15] at J16; exact J16) | exact J16 | (simp only [if_neg q15] at J16 ⊢; exact J16)
    refine Wk.if_lt o_L_law_31 (fun q5 => ?_) (fun q5 => ?_)
    · refine Wk.iconst o_L_law_45 (z := (0 : Int32)) (by decide) ?_
      first | (rw [show ((if p5 < 0 then (0 : Int32) else (if (7 : Int32) < p5 then (0 : Int32) else (1 : Int32))) : Int32) = (0 : Int32) from if_pos q5] at J8; exact J8) | exact J8 | (simp only [if_pos q5] at J8 ⊢; exact J8)
    · refine Wk.iload o_L_law_34 rfl ?_
      refine Wk.bipush o_L_law_36 (z := (7 : Int32)) (by decide) ?_
      refine Wk.icmp_gt o_L_law_38 (fun q6 => ?_) (fun q6 => ?_)
      · refine Wk.iconst o_L_law_45 (z := (0 : Int32)) (by decide) ?_
        first | (rw [show ((if p5 < 0 then (0 : Int32) else (if (7 : Int32) < p5 then (0 : Int32) else (1 : Int32))) : Int32) = (0 : Int32) from Eq.trans (if_neg q5) <| if_pos q6] at J8; exact J8) | exact J8 | (simp only [if_neg q5, if_pos q6] at J8 ⊢; exact J8)
      · refine Wk.iconst o_L_law_41 (z := (1 : Int32)) (by decide) ?_
        refine Wk.goto o_L_law_42 ?_
        first | (rw [show ((if p5 < 0 then (0 : Int32) else (if (7 : Int32) < p5 then (0 : Int32) else (1 : Int32))) : Int32) = (1 : Int32) from Eq.trans (if_neg q5) <| if_neg q6] at J8; exact J8) | exact J8 | (simp only [if_neg q5, if_neg q6] at J8 ⊢; exact J8)
  refine Wk.if_lt o_L_law_13 (fun q1 => ?_) (fun q1 => ?_)
  · refine Wk.iconst o_L_law_26 (z := (0 : Int32)) (by decide) ?_
    first | (rw [show ((if p4 < 0 then (0 : Int32) else (if (7 : Int32) < p4 then (0 : Int32) else (1 : Int32))) : Int32) = (0 : Int32) from if_pos q1] at J4; exact J4) | exact J4 | (simp only [if_pos q1] at J4 ⊢; exact J4)
  · refine Wk.iloadN o_L_law_16 rfl ?_
    refine Wk.bipush o_L_law_17 (z := (7 : Int32)) (by decide) ?_
    refine Wk.icmp_gt o_L_law_19 (fun q2 => ?_) (fun q2 => ?_)
    · refine Wk.iconst o_L_law_26 (z := (0 : Int32)) (by decide) ?_
      first | (rw [show ((if p4 < 0 then (0 : Int32) else (if (7 : Int32) < p4 then (0 : Int32) else (1 : Int32))) : Int32) = (0 : Int32) from Eq.trans (if_neg q1) <| if_pos q2] at J4; exact J4) | exact J4 | (simp only [if_neg q1, if_pos q2] at J4 ⊢; exact J4)
    · refine Wk.iconst o_L_law_22 (z := (1 : Int32)) (by decide) ?_
      refine Wk.goto o_L_law_23 ?_
      first | (rw [show ((if p4 < 0 then (0 : Int32) else (if (7 : Int32) < p4 then (0 : Int32) else (1 : Int32))) : Int32) = (1 : Int32) from Eq.trans (if_neg q1) <| if_neg q2] at J4; exact J4) | exact J4 | (simp only [if_neg q1, if_neg q2] at J4 ⊢; exact J4)
theorem zA (p1 p2 p3 : Int32) : A_init p1 p2 p3 9 0 = 0 ∧ A_init p1 p2 p3 10 0 = 0 ∧ A_init p1 p2 p3 11 0 = 0 ∧ A_init p1 p2 p3 14 0 = 0 := by
  rw [eA_init, eA_reset, eA_clearTrees]
  refine ⟨?_, ?_, ?_, ?_⟩ <;> simp [ups, Jvm.Own.fill]
theorem per (p : Int32) : ¬ f_clamp p 1 16 = 0 := by rw [e_clamp]; grind
theorem fI1 (F : Nat → Int32) (A : Nat → Int32 → Int32) (a b : Int32) (h : F 12 = 1) : f_findInstrChild F A a b = -1 := by
  rw [e_findInstrChild, h]; exact findGo_z _ _ _ _ _
theorem fS1 (F : Nat → Int32) (A : Nat → Int32 → Int32) (a b : Int32) (h : F 13 = 1) : f_findSampledChild F A a b = -1 := by
  rw [e_findSampledChild, h]; exact findGo_z _ _ _ _ _
theorem qI (F : Nat → Int32) (A : Nat → Int32 → Int32) (h : F 12 = 1) : f_queryInstrNode F A = if F 11 = 1 then (if A 15 0 = 0 then 0 else -1) else if F 11 = 2 then -1 else f_queryInstrNode F A := by
  by_cases a : F 11 = 1
  · rw [if_pos a, e_queryInstrNode, a, if_pos (by decide)]
    have e : ((1 : Int32).toInt - 1).toNat = 0 := by decide
    rw [e, qGo_z]
  · rw [if_neg a]
    by_cases b : F 11 = 2
    · rw [if_pos b, e_queryInstrNode, b, if_pos (by decide)]
      have e : ((2 : Int32).toInt - 1).toNat = 0 + 1 := by decide
      rw [e, qGo_s, fI1 F A _ _ h, if_pos (show (-1 : Int32) < 0 from by decide), ite_self]
    · rw [if_neg b]
theorem qS (F : Nat → Int32) (A : Nat → Int32 → Int32) (h : F 13 = 1) : f_querySampledNode F A = if F 11 = 1 then (if A 15 0 = 0 then 0 else -1) else if F 11 = 2 then -1 else f_querySampledNode F A := by
  by_cases a : F 11 = 1
  · rw [if_pos a, e_querySampledNode, a, if_pos (by decide)]
    have e : ((1 : Int32).toInt - 1).toNat = 0 := by decide
    rw [e, qGo_z]
  · rw [if_neg a]
    by_cases b : F 11 = 2
    · rw [if_pos b, e_querySampledNode, b, if_pos (by decide)]
      have e : ((2 : Int32).toInt - 1).toNat = 0 + 1 := by decide
      rw [e, qGo_s, fS1 F A _ _ h, if_pos (show (-1 : Int32) < 0 from by decide), ite_self]
    · rw [if_neg b]
theorem q0I (F : Nat → Int32) (A : Nat → Int32 → Int32) (h : F 11 = 0) : f_queryInstrNode F A = -1 := by
  rw [e_queryInstrNode, h, if_neg (by decide)]
theorem q0S (F : Nat → Int32) (A : Nat → Int32 → Int32) (h : F 11 = 0) : f_querySampledNode F A = -1 := by
  rw [e_querySampledNode, h, if_neg (by decide)]
/-- what two pushes leave -/
theorem two (p1 p2 p3 p4 p5 : Int32) (F : Nat → Int32) (A : Nat → Int32 → Int32) (hF : F = F_pushQuery (F_pushQuery (F_init p1 p2 p3) p4) p5)
    (hA : A = A_pushQuery (F_pushQuery (F_init p1 p2 p3) p4) (A_pushQuery (F_init p1 p2 p3) (A_init p1 p2 p3) p4) p5) :
    F 12 = 1 ∧ F 13 = 1 ∧ A 9 0 = 0 ∧ A 10 0 = 0 ∧ A 11 0 = 0 ∧ A 14 0 = 0 ∧
    F 11 = (if p4 < 0 then 0 else if 7 < p4 then 0 else 1) + (if p5 < 0 then 0 else if 7 < p5 then 0 else 1) ∧
    A 15 0 = (if p4 < 0 ∨ 7 < p4 then (if p5 < 0 ∨ 7 < p5 then A_init p1 p2 p3 15 0 else p5) else p4) := by
  have z := zA p1 p2 p3
  have n : ∀ (F : Nat → Int32) (A : Nat → Int32 → Int32) (p : Int32) (j : Nat), j ≠ 15 → A_pushQuery F A p j = A j := by
    intro F A p j hj
    rw [eA_pushQuery]; (repeat' split) <;> first | rfl | exact ups_ne _ _ hj
  subst hF hA
  refine ⟨by rw [F_pushQuery_12, F_pushQuery_12, F_init_12], by rw [F_pushQuery_13, F_pushQuery_13, F_init_13], by rw [n _ _ _ 9 (by decide), n _ _ _ 9 (by decide)]; exact z.1,
    by rw [n _ _ _ 10 (by decide), n _ _ _ 10 (by decide)]; exact z.2.1, by rw [n _ _ _ 11 (by decide), n _ _ _ 11 (by decide)]; exact z.2.2.1,
    by rw [n _ _ _ 14 (by decide), n _ _ _ 14 (by decide)]; exact z.2.2.2, ?_, ?_⟩
  · rw [F_pushQuery_11, F_pushQuery_11, F_init_11]
    by_cases a : p4 < 0 <;> by_cases b : 7 < p4 <;> by_cases c : p5 < 0 <;> by_cases d : 7 < p5 <;> simp [a, b, c, d]
  · rw [eA_pushQuery, eA_pushQuery, F_pushQuery_11, F_init_11]
    by_cases a : p4 < 0 <;> by_cases b : 7 < p4 <;> by_cases c : p5 < 0 <;> by_cases d : 7 < p5 <;> simp [a, b, c, d, ups]
set_option maxRecDepth 65536 in
set_option maxHeartbeats 4000000 in
theorem own_s9 (p1 : Int32) (p2 : Int32) (p3 : Int32) (p4 : Int32) (p5 : Int32) : ¬ ((F_init p1 p2 p3) 11) < 0 := by
  simp only [F_pushQuery_1, F_pushQuery_6, F_pushQuery_11, F_pushQuery_12, F_pushQuery_13, F_init_1, F_init_6, F_init_11, F_init_12, F_init_13, F_clearQuery_1, F_clearQuery_6, F_clearQuery_11, F_clearQuery_12, e_pushQuery, e_info]
  first | exact per p2 | decide | skip
  all_goals (by_cases a : p4 < 0 <;> by_cases b : 7 < p4 <;> by_cases c : p5 < 0 <;> by_cases d : 7 < p5 <;> simp [a, b, c, d])
set_option maxRecDepth 65536 in
set_option maxHeartbeats 4000000 in
theorem own_h11 (p1 : Int32) (p2 : Int32) (p3 : Int32) (p4 : Int32) (p5 : Int32) : (f_pushQuery (F_init p1 p2 p3) p4) = (if p4 < 0 then (0 : Int32) else (if (7 : Int32) < p4 then (0 : Int32) else (1 : Int32))) := by
  simp only [F_pushQuery_1, F_pushQuery_6, F_pushQuery_11, F_pushQuery_12, F_pushQuery_13, F_init_1, F_init_6, F_init_11, F_init_12, F_init_13, F_clearQuery_1, F_clearQuery_6, F_clearQuery_11, F_clearQuery_12, e_pushQuery, e_info]
  first | exact per p2 | decide | skip
  all_goals (by_cases a : p4 < 0 <;> by_cases b : 7 < p4 <;> by_cases c : p5 < 0 <;> by_cases d : 7 < p5 <;> simp [a, b, c, d])
set_option maxRecDepth 65536 in
set_option maxHeartbeats 4000000 in
theorem own_s12 (p1 : Int32) (p2 : Int32) (p3 : Int32) (p4 : Int32) (p5 : Int32) : ¬ ((F_pushQuery (F_init p1 p2 p3) p4) 11) < 0 := by
  simp only [F_pushQuery_1, F_pushQuery_6, F_pushQuery_11, F_pushQuery_12, F_pushQuery_13, F_init_1, F_init_6, F_init_11, F_init_12, F_init_13, F_clearQuery_1, F_clearQuery_6, F_clearQuery_11, F_clearQuery_12, e_pushQuery, e_info]
  first | exact per p2 | decide | skip
  all_goals (by_cases a : p4 < 0 <;> by_cases b : 7 < p4 <;> by_cases c : p5 < 0 <;> by_cases d : 7 < p5 <;> simp [a, b, c, d])
set_option maxRecDepth 65536 in
set_option maxHeartbeats 4000000 in
theorem own_h14 (p1 : Int32) (p2 : Int32) (p3 : Int32) (p4 : Int32) (p5 : Int32) : (f_pushQuery (F_pushQuery (F_init p1 p2 p3) p4) p5) = (if p5 < 0 then (0 : Int32) else (if (7 : Int32) < p5 then (0 : Int32) else (1 : Int32))) := by
  simp only [F_pushQuery_1, F_pushQuery_6, F_pushQuery_11, F_pushQuery_12, F_pushQuery_13, F_init_1, F_init_6, F_init_11, F_init_12, F_init_13, F_clearQuery_1, F_clearQuery_6, F_clearQuery_11, F_clearQuery_12, e_pushQuery, e_info]
  first | exact per p2 | decide | skip
  all_goals (by_cases a : p4 < 0 <;> by_cases b : 7 < p4 <;> by_cases c : p5 < 0 <;> by_cases d : 7 < p5 <;> simp [a, b, c, d])
set_option maxRecDepth 65536 in
set_option maxHeartbeats 4000000 in
theorem own_s19 (p1 : Int32) (p2 : Int32) (p3 : Int32) (p4 : Int32) (p5 : Int32) : ¬ ((F_pushQuery (F_pushQuery (F_init p1 p2 p3) p4) p5) 1) = 0 := by
  simp only [F_pushQuery_1, F_pushQuery_6, F_pushQuery_11, F_pushQuery_12, F_pushQuery_13, F_init_1, F_init_6, F_init_11, F_init_12, F_init_13, F_clearQuery_1, F_clearQuery_6, F_clearQuery_11, F_clearQuery_12, e_pushQuery, e_info]
  first | exact per p2 | decide | skip
  all_goals (by_cases a : p4 < 0 <;> by_cases b : 7 < p4 <;> by_cases c : p5 < 0 <;> by_cases d : 7 < p5 <;> simp [a, b, c, d])
set_option maxRecDepth 65536 in
set_option maxHeartbeats 4000000 in
theorem own_s20 (p1 : Int32) (p2 : Int32) (p3 : Int32) (p4 : Int32) (p5 : Int32) : ¬ (16 : Int32) < ((F_pushQuery (F_pushQuery (F_init p1 p2 p3) p4) p5) 6) := by
  simp only [F_pushQuery_1, F_pushQuery_6, F_pushQuery_11, F_pushQuery_12, F_pushQuery_13, F_init_1, F_init_6, F_init_11, F_init_12, F_init_13, F_clearQuery_1, F_clearQuery_6, F_clearQuery_11, F_clearQuery_12, e_pushQuery, e_info]
  first | exact per p2 | decide | skip
  all_goals (by_cases a : p4 < 0 <;> by_cases b : 7 < p4 <;> by_cases c : p5 < 0 <;> by_cases d : 7 < p5 <;> simp [a, b, c, d])
set_option maxRecDepth 65536 in
set_option maxHeartbeats 4000000 in
theorem own_h22 (p1 : Int32) (p2 : Int32) (p3 : Int32) (p4 : Int32) (p5 : Int32) : (f_info (F_pushQuery (F_pushQuery (F_init p1 p2 p3) p4) p5) (A_pushQuery (F_pushQuery (F_init p1 p2 p3) p4) (A_pushQuery (F_init p1 p2 p3) (A_init p1 p2 p3) p4) p5) (12 : Int32)) = ((if (if p4 < 0 then (0 : Int32) else (if (7 : Int32) < p4 then (0 : Int32) else (1 : Int32))) = 0 then (0 : Int32) else (1 : Int32)) + (if (if p5 < 0 then (0 : Int32) else (if (7 : Int32) < p5 then (0 : Int32) else (1 : Int32))) = 0 then (0 : Int32) else (1 : Int32))) := by
  simp only [F_pushQuery_1, F_pushQuery_6, F_pushQuery_11, F_pushQuery_12, F_pushQuery_13, F_init_1, F_init_6, F_init_11, F_init_12, F_init_13, F_clearQuery_1, F_clearQuery_6, F_clearQuery_11, F_clearQuery_12, e_pushQuery, e_info]
  first | exact per p2 | decide | skip
  all_goals (by_cases a : p4 < 0 <;> by_cases b : 7 < p4 <;> by_cases c : p5 < 0 <;> by_cases d : 7 < p5 <;> simp [a, b, c, d])
set_option maxRecDepth 65536 in
set_option maxHeartbeats 4000000 in
theorem own_s39 (p1 : Int32) (p2 : Int32) (p3 : Int32) (p4 : Int32) (p5 : Int32) : ¬ (16 : Int32) < ((F_pushQuery (F_pushQuery (F_init p1 p2 p3) p4) p5) 11) := by
  simp only [F_pushQuery_1, F_pushQuery_6, F_pushQuery_11, F_pushQuery_12, F_pushQuery_13, F_init_1, F_init_6, F_init_11, F_init_12, F_init_13, F_clearQuery_1, F_clearQuery_6, F_clearQuery_11, F_clearQuery_12, e_pushQuery, e_info]
  first | exact per p2 | decide | skip
  all_goals (by_cases a : p4 < 0 <;> by_cases b : 7 < p4 <;> by_cases c : p5 < 0 <;> by_cases d : 7 < p5 <;> simp [a, b, c, d])
set_option maxRecDepth 65536 in
set_option maxHeartbeats 4000000 in
theorem own_s40 (p1 : Int32) (p2 : Int32) (p3 : Int32) (p4 : Int32) (p5 : Int32) : ¬ (32 : Int32) < ((F_pushQuery (F_pushQuery (F_init p1 p2 p3) p4) p5) 12) := by
  simp only [F_pushQuery_1, F_pushQuery_6, F_pushQuery_11, F_pushQuery_12, F_pushQuery_13, F_init_1, F_init_6, F_init_11, F_init_12, F_init_13, F_clearQuery_1, F_clearQuery_6, F_clearQuery_11, F_clearQuery_12, e_pushQuery, e_info]
  first | exact per p2 | decide | skip
  all_goals (by_cases a : p4 < 0 <;> by_cases b : 7 < p4 <;> by_cases c : p5 < 0 <;> by_cases d : 7 < p5 <;> simp [a, b, c, d])
set_option maxRecDepth 65536 in
set_option maxHeartbeats 4000000 in
theorem own_h42 (p1 : Int32) (p2 : Int32) (p3 : Int32) (p4 : Int32) (p5 : Int32) : (f_self (F_pushQuery (F_pushQuery (F_init p1 p2 p3) p4) p5) (A_pushQuery (F_pushQuery (F_init p1 p2 p3) p4) (A_pushQuery (F_init p1 p2 p3) (A_init p1 p2 p3) p4) p5)) = (if (if ((if (if p4 < 0 then (0 : Int32) else (if (7 : Int32) < p4 then (0 : Int32) else (1 : Int32))) = 0 then (0 : Int32) else (1 : Int32)) + (if (if p5 < 0 then (0 : Int32) else (if (7 : Int32) < p5 then (0 : Int32) else (1 : Int32))) = 0 then (0 : Int32) else (1 : Int32))) = (1 : Int32) then (if (if p4 < 0 then (0 : Int32) else (if (7 : Int32) < p4 then (0 : Int32) else (1 : Int32))) = 0 then (if (if p5 < 0 then (0 : Int32) else (if (7 : Int32) < p5 then (0 : Int32) else (1 : Int32))) = 0 then (0 : Int32) else (if p5 = 0 then (1 : Int32) else (0 : Int32))) else (if p4 = 0 then (1 : Int32) else (if (if p5 < 0 then (0 : Int32) else (if (7 : Int32) < p5 then (0 : Int32) else (1 : Int32))) = 0 then (0 : Int32) else (if p5 = 0 then (1 : Int32) else (0 : Int32))))) else (0 : Int32)) = 0 then (-1 : Int32) else (0 : Int32)) := by
  obtain ⟨h12, h13, z9, z10, z11, z14, h11, h15⟩ := two p1 p2 p3 p4 p5 _ _ rfl rfl
  generalize F_pushQuery (F_pushQuery (F_init p1 p2 p3) p4) p5 = F at *
  generalize A_pushQuery (F_pushQuery (F_init p1 p2 p3) p4) (A_pushQuery (F_init p1 p2 p3) (A_init p1 p2 p3) p4) p5 = A at *
  rw [e_self]
  by_cases a : p4 < 0 <;> by_cases b : 7 < p4 <;> by_cases c : p5 < 0 <;> by_cases d : 7 < p5 <;> simp only [a, b, c, d, if_true, if_false, or_true, true_or, or_self] at h11 h15
  all_goals first
    | (rw [q0I F A (h11.trans (by decide))]; simp [a, b, c, d]; done)
    | (rw [qI F A h12, if_pos (h11.trans (by decide)), h15]; simp [a, b, c, d]; (try split) <;> simp_all; done)
    | (have e := qI F A h12; rw [if_neg (show ¬ F 11 = 1 by rw [h11]; decide), if_pos (show F 11 = 2 from h11.trans (by decide))] at e; rw [e]; simp [a, b, c, d]; done)
    | (exfalso; grind)
set_option maxRecDepth 65536 in
set_option maxHeartbeats 4000000 in
theorem own_h44 (p1 : Int32) (p2 : Int32) (p3 : Int32) (p4 : Int32) (p5 : Int32) : (f_inclusive (F_pushQuery (F_pushQuery (F_init p1 p2 p3) p4) p5) (A_pushQuery (F_pushQuery (F_init p1 p2 p3) p4) (A_pushQuery (F_init p1 p2 p3) (A_init p1 p2 p3) p4) p5)) = (if (if ((if (if p4 < 0 then (0 : Int32) else (if (7 : Int32) < p4 then (0 : Int32) else (1 : Int32))) = 0 then (0 : Int32) else (1 : Int32)) + (if (if p5 < 0 then (0 : Int32) else (if (7 : Int32) < p5 then (0 : Int32) else (1 : Int32))) = 0 then (0 : Int32) else (1 : Int32))) = (1 : Int32) then (if (if p4 < 0 then (0 : Int32) else (if (7 : Int32) < p4 then (0 : Int32) else (1 : Int32))) = 0 then (if (if p5 < 0 then (0 : Int32) else (if (7 : Int32) < p5 then (0 : Int32) else (1 : Int32))) = 0 then (0 : Int32) else (if p5 = 0 then (1 : Int32) else (0 : Int32))) else (if p4 = 0 then (1 : Int32) else (if (if p5 < 0 then (0 : Int32) else (if (7 : Int32) < p5 then (0 : Int32) else (1 : Int32))) = 0 then (0 : Int32) else (if p5 = 0 then (1 : Int32) else (0 : Int32))))) else (0 : Int32)) = 0 then (-1 : Int32) else (0 : Int32)) := by
  obtain ⟨h12, h13, z9, z10, z11, z14, h11, h15⟩ := two p1 p2 p3 p4 p5 _ _ rfl rfl
  generalize F_pushQuery (F_pushQuery (F_init p1 p2 p3) p4) p5 = F at *
  generalize A_pushQuery (F_pushQuery (F_init p1 p2 p3) p4) (A_pushQuery (F_init p1 p2 p3) (A_init p1 p2 p3) p4) p5 = A at *
  rw [e_inclusive]
  by_cases a : p4 < 0 <;> by_cases b : 7 < p4 <;> by_cases c : p5 < 0 <;> by_cases d : 7 < p5 <;> simp only [a, b, c, d, if_true, if_false, or_true, true_or, or_self] at h11 h15
  all_goals first
    | (rw [q0I F A (h11.trans (by decide))]; simp [a, b, c, d]; done)
    | (rw [qI F A h12, if_pos (h11.trans (by decide)), h15]; simp [a, b, c, d]; (try split) <;> simp_all; done)
    | (have e := qI F A h12; rw [if_neg (show ¬ F 11 = 1 by rw [h11]; decide), if_pos (show F 11 = 2 from h11.trans (by decide))] at e; rw [e]; simp [a, b, c, d]; done)
    | (exfalso; grind)
set_option maxRecDepth 65536 in
set_option maxHeartbeats 4000000 in
theorem own_h46 (p1 : Int32) (p2 : Int32) (p3 : Int32) (p4 : Int32) (p5 : Int32) : (f_lost (F_pushQuery (F_pushQuery (F_init p1 p2 p3) p4) p5) (A_pushQuery (F_pushQuery (F_init p1 p2 p3) p4) (A_pushQuery (F_init p1 p2 p3) (A_init p1 p2 p3) p4) p5)) = (if (if ((if (if p4 < 0 then (0 : Int32) else (if (7 : Int32) < p4 then (0 : Int32) else (1 : Int32))) = 0 then (0 : Int32) else (1 : Int32)) + (if (if p5 < 0 then (0 : Int32) else (if (7 : Int32) < p5 then (0 : Int32) else (1 : Int32))) = 0 then (0 : Int32) else (1 : Int32))) = (1 : Int32) then (if (if p4 < 0 then (0 : Int32) else (if (7 : Int32) < p4 then (0 : Int32) else (1 : Int32))) = 0 then (if (if p5 < 0 then (0 : Int32) else (if (7 : Int32) < p5 then (0 : Int32) else (1 : Int32))) = 0 then (0 : Int32) else (if p5 = 0 then (1 : Int32) else (0 : Int32))) else (if p4 = 0 then (1 : Int32) else (if (if p5 < 0 then (0 : Int32) else (if (7 : Int32) < p5 then (0 : Int32) else (1 : Int32))) = 0 then (0 : Int32) else (if p5 = 0 then (1 : Int32) else (0 : Int32))))) else (0 : Int32)) = 0 then (-1 : Int32) else (0 : Int32)) := by
  obtain ⟨h12, h13, z9, z10, z11, z14, h11, h15⟩ := two p1 p2 p3 p4 p5 _ _ rfl rfl
  generalize F_pushQuery (F_pushQuery (F_init p1 p2 p3) p4) p5 = F at *
  generalize A_pushQuery (F_pushQuery (F_init p1 p2 p3) p4) (A_pushQuery (F_init p1 p2 p3) (A_init p1 p2 p3) p4) p5 = A at *
  rw [e_lost]
  by_cases a : p4 < 0 <;> by_cases b : 7 < p4 <;> by_cases c : p5 < 0 <;> by_cases d : 7 < p5 <;> simp only [a, b, c, d, if_true, if_false, or_true, true_or, or_self] at h11 h15
  all_goals first
    | (rw [q0I F A (h11.trans (by decide))]; simp [a, b, c, d]; done)
    | (rw [qI F A h12, if_pos (h11.trans (by decide)), h15]; simp [a, b, c, d]; (try split) <;> simp_all; done)
    | (have e := qI F A h12; rw [if_neg (show ¬ F 11 = 1 by rw [h11]; decide), if_pos (show F 11 = 2 from h11.trans (by decide))] at e; rw [e]; simp [a, b, c, d]; done)
    | (exfalso; grind)
set_option maxRecDepth 65536 in
set_option maxHeartbeats 4000000 in
theorem own_s47 (p1 : Int32) (p2 : Int32) (p3 : Int32) (p4 : Int32) (p5 : Int32) : ¬ (32 : Int32) < ((F_pushQuery (F_pushQuery (F_init p1 p2 p3) p4) p5) 13) := by
  simp only [F_pushQuery_1, F_pushQuery_6, F_pushQuery_11, F_pushQuery_12, F_pushQuery_13, F_init_1, F_init_6, F_init_11, F_init_12, F_init_13, F_clearQuery_1, F_clearQuery_6, F_clearQuery_11, F_clearQuery_12, e_pushQuery, e_info]
  first | exact per p2 | decide | skip
  all_goals (by_cases a : p4 < 0 <;> by_cases b : 7 < p4 <;> by_cases c : p5 < 0 <;> by_cases d : 7 < p5 <;> simp [a, b, c, d])
set_option maxRecDepth 65536 in
set_option maxHeartbeats 4000000 in
theorem own_h49 (p1 : Int32) (p2 : Int32) (p3 : Int32) (p4 : Int32) (p5 : Int32) : (f_sampledSelf (F_pushQuery (F_pushQuery (F_init p1 p2 p3) p4) p5) (A_pushQuery (F_pushQuery (F_init p1 p2 p3) p4) (A_pushQuery (F_init p1 p2 p3) (A_init p1 p2 p3) p4) p5)) = (if (if ((if (if p4 < 0 then (0 : Int32) else (if (7 : Int32) < p4 then (0 : Int32) else (1 : Int32))) = 0 then (0 : Int32) else (1 : Int32)) + (if (if p5 < 0 then (0 : Int32) else (if (7 : Int32) < p5 then (0 : Int32) else (1 : Int32))) = 0 then (0 : Int32) else (1 : Int32))) = (1 : Int32) then (if (if p4 < 0 then (0 : Int32) else (if (7 : Int32) < p4 then (0 : Int32) else (1 : Int32))) = 0 then (if (if p5 < 0 then (0 : Int32) else (if (7 : Int32) < p5 then (0 : Int32) else (1 : Int32))) = 0 then (0 : Int32) else (if p5 = 0 then (1 : Int32) else (0 : Int32))) else (if p4 = 0 then (1 : Int32) else (if (if p5 < 0 then (0 : Int32) else (if (7 : Int32) < p5 then (0 : Int32) else (1 : Int32))) = 0 then (0 : Int32) else (if p5 = 0 then (1 : Int32) else (0 : Int32))))) else (0 : Int32)) = 0 then (-1 : Int32) else (0 : Int32)) := by
  obtain ⟨h12, h13, z9, z10, z11, z14, h11, h15⟩ := two p1 p2 p3 p4 p5 _ _ rfl rfl
  generalize F_pushQuery (F_pushQuery (F_init p1 p2 p3) p4) p5 = F at *
  generalize A_pushQuery (F_pushQuery (F_init p1 p2 p3) p4) (A_pushQuery (F_init p1 p2 p3) (A_init p1 p2 p3) p4) p5 = A at *
  rw [e_sampledSelf]
  by_cases a : p4 < 0 <;> by_cases b : 7 < p4 <;> by_cases c : p5 < 0 <;> by_cases d : 7 < p5 <;> simp only [a, b, c, d, if_true, if_false, or_true, true_or, or_self] at h11 h15
  all_goals first
    | (rw [q0S F A (h11.trans (by decide))]; simp [a, b, c, d]; done)
    | (rw [qS F A h13, if_pos (h11.trans (by decide)), h15]; simp [a, b, c, d]; (try split) <;> simp_all; done)
    | (have e := qS F A h13; rw [if_neg (show ¬ F 11 = 1 by rw [h11]; decide), if_pos (show F 11 = 2 from h11.trans (by decide))] at e; rw [e]; simp [a, b, c, d]; done)
    | (exfalso; grind)
set_option maxRecDepth 65536 in
set_option maxHeartbeats 4000000 in
theorem own_s50 (p1 : Int32) (p2 : Int32) (p3 : Int32) (p4 : Int32) (p5 : Int32) : ¬ ((F_clearQuery (F_pushQuery (F_pushQuery (F_init p1 p2 p3) p4) p5)) 1) = 0 := by
  simp only [F_pushQuery_1, F_pushQuery_6, F_pushQuery_11, F_pushQuery_12, F_pushQuery_13, F_init_1, F_init_6, F_init_11, F_init_12, F_init_13, F_clearQuery_1, F_clearQuery_6, F_clearQuery_11, F_clearQuery_12, e_pushQuery, e_info]
  first | exact per p2 | decide | skip
  all_goals (by_cases a : p4 < 0 <;> by_cases b : 7 < p4 <;> by_cases c : p5 < 0 <;> by_cases d : 7 < p5 <;> simp [a, b, c, d])
set_option maxRecDepth 65536 in
set_option maxHeartbeats 4000000 in
theorem own_s51 (p1 : Int32) (p2 : Int32) (p3 : Int32) (p4 : Int32) (p5 : Int32) : ¬ (16 : Int32) < ((F_clearQuery (F_pushQuery (F_pushQuery (F_init p1 p2 p3) p4) p5)) 6) := by
  simp only [F_pushQuery_1, F_pushQuery_6, F_pushQuery_11, F_pushQuery_12, F_pushQuery_13, F_init_1, F_init_6, F_init_11, F_init_12, F_init_13, F_clearQuery_1, F_clearQuery_6, F_clearQuery_11, F_clearQuery_12, e_pushQuery, e_info]
  first | exact per p2 | decide | skip
  all_goals (by_cases a : p4 < 0 <;> by_cases b : 7 < p4 <;> by_cases c : p5 < 0 <;> by_cases d : 7 < p5 <;> simp [a, b, c, d])
set_option maxRecDepth 65536 in
set_option maxHeartbeats 4000000 in
theorem own_h53 (p1 : Int32) (p2 : Int32) (p3 : Int32) (p4 : Int32) (p5 : Int32) : (f_info (F_clearQuery (F_pushQuery (F_pushQuery (F_init p1 p2 p3) p4) p5)) (A_pushQuery (F_pushQuery (F_init p1 p2 p3) p4) (A_pushQuery (F_init p1 p2 p3) (A_init p1 p2 p3) p4) p5) (12 : Int32)) = 0 := by
  simp only [F_pushQuery_1, F_pushQuery_6, F_pushQuery_11, F_pushQuery_12, F_pushQuery_13, F_init_1, F_init_6, F_init_11, F_init_12, F_init_13, F_clearQuery_1, F_clearQuery_6, F_clearQuery_11, F_clearQuery_12, e_pushQuery, e_info]
  first | exact per p2 | decide | skip
  all_goals (by_cases a : p4 < 0 <;> by_cases b : 7 < p4 <;> by_cases c : p5 < 0 <;> by_cases d : 7 < p5 <;> simp [a, b, c, d])
set_option maxRecDepth 65536 in
set_option maxHeartbeats 4000000 in
theorem own_s54 (p1 : Int32) (p2 : Int32) (p3 : Int32) (p4 : Int32) (p5 : Int32) : ¬ (16 : Int32) < ((F_clearQuery (F_pushQuery (F_pushQuery (F_init p1 p2 p3) p4) p5)) 11) := by
  simp only [F_pushQuery_1, F_pushQuery_6, F_pushQuery_11, F_pushQuery_12, F_pushQuery_13, F_init_1, F_init_6, F_init_11, F_init_12, F_init_13, F_clearQuery_1, F_clearQuery_6, F_clearQuery_11, F_clearQuery_12, e_pushQuery, e_info]
  first | exact per p2 | decide | skip
  all_goals (by_cases a : p4 < 0 <;> by_cases b : 7 < p4 <;> by_cases c : p5 < 0 <;> by_cases d : 7 < p5 <;> simp [a, b, c, d])
set_option maxRecDepth 65536 in
set_option maxHeartbeats 4000000 in
theorem own_s55 (p1 : Int32) (p2 : Int32) (p3 : Int32) (p4 : Int32) (p5 : Int32) : ¬ (32 : Int32) < ((F_clearQuery (F_pushQuery (F_pushQuery (F_init p1 p2 p3) p4) p5)) 12) := by
  simp only [F_pushQuery_1, F_pushQuery_6, F_pushQuery_11, F_pushQuery_12, F_pushQuery_13, F_init_1, F_init_6, F_init_11, F_init_12, F_init_13, F_clearQuery_1, F_clearQuery_6, F_clearQuery_11, F_clearQuery_12, e_pushQuery, e_info]
  first | exact per p2 | decide | skip
  all_goals (by_cases a : p4 < 0 <;> by_cases b : 7 < p4 <;> by_cases c : p5 < 0 <;> by_cases d : 7 < p5 <;> simp [a, b, c, d])
set_option maxRecDepth 65536 in
set_option maxHeartbeats 4000000 in
theorem own_h57 (p1 : Int32) (p2 : Int32) (p3 : Int32) (p4 : Int32) (p5 : Int32) : (f_self (F_clearQuery (F_pushQuery (F_pushQuery (F_init p1 p2 p3) p4) p5)) (A_pushQuery (F_pushQuery (F_init p1 p2 p3) p4) (A_pushQuery (F_init p1 p2 p3) (A_init p1 p2 p3) p4) p5)) = (-1 : Int32) := by
  rw [e_self, q0I _ _ (F_clearQuery_11 _), if_pos (show (-1 : Int32) < 0 from by decide)]
theorem law_ok {l : Launch} {Z : State} {a0 : Array Value} (H : OK Z a0) (p1 : Int32) (p2 : Int32) (p3 : Int32) (p4 : Int32) (p5 : Int32) :
    Wk l Z (MoL Z cdC "ContextProfilerL2" false) md_L_law 0 [.val (.int p1), .val (.int p2), .val (.int p3), .val (.int p4), .val (.int p5), .unset, .unset, .unset, .unset, .unset, .unset] [] (0, (fun _ => 0), []) 0 0 (fun v _ => v = some (.int 1)) :=
  wp_L_law H 0 (fun _ => 0) p1 p2 p3 p4 p5 (own_s9 p1 p2 p3 p4 p5) (own_h11 p1 p2 p3 p4 p5) (own_s12 p1 p2 p3 p4 p5) (own_h14 p1 p2 p3 p4 p5) (own_s19 p1 p2 p3 p4 p5) (own_s20 p1 p2 p3 p4 p5) (own_h22 p1 p2 p3 p4 p5) (own_s39 p1 p2 p3 p4 p5) (own_s40 p1 p2 p3 p4 p5) (own_h42 p1 p2 p3 p4 p5) (own_h44 p1 p2 p3 p4 p5) (own_h46 p1 p2 p3 p4 p5) (own_s47 p1 p2 p3 p4 p5) (own_h49 p1 p2 p3 p4 p5) (own_s50 p1 p2 p3 p4 p5) (own_s51 p1 p2 p3 p4 p5) (own_h53 p1 p2 p3 p4 p5) (own_s54 p1 p2 p3 p4 p5) (own_s55 p1 p2 p3 p4 p5) (own_h57 p1 p2 p3 p4 p5) rfl
set_option maxRecDepth 65536 in
set_option maxHeartbeats 40000000 in
theorem comes_1 {Post : Tables → Env → Array Value → State → Outcome → State → Prop} (hpost : ∀ tb e args s v u, (limb_1_1.after args s (.returned v) u = true ∧ limb_1_2.after args s (.returned v) u = true ∧ True) → FrameEnd s (.returned v) u (Jvm.fieldLocs frame_1_writes args s ++ Jvm.arrayLocs frame_1_arrays args s ++ Jvm.staticLocs frame_1_statics s) room_1.cells room_1.slots → Post tb e args s (.returned v) u) :
    ArmFor flags0 classFile x code maxLocals ret World_1 tables_1 room_1 Calls_1 rest_1 Pre_1 Post := by
  intro l hfl _ _ p e ha hc hk s m args below hf hA hF happ hP
  obtain ⟨hcalls, hrest, hpre⟩ := hP
  obtain ⟨-, -, -, hnamed, -, -, -, hat⟩ := (Spec.applies_iff hf).mp happ
  obtain ⟨hg, hn⟩ := and_e (Cond.before_iff.mp (show (Jvm.Cond.and given_1 narrow_1).before args s = true from hpre))
  obtain ⟨h1, h2⟩ := and_e hg
  obtain ⟨w0, w1, w2, w3, w4, rfl⟩ : ∃ w0 w1 w2 w3 w4 : Value, args = #[w0, w1, w2, w3, w4] := by
    have hs : args.size = 5 := by simpa [Cond.value, given_1] using h1
    obtain ⟨L⟩ := args
    match L, hs with
    | [w0, w1, w2, w3, w4], _ => exact ⟨w0, w1, w2, w3, w4, rfl⟩
  have hw : OK s #[w0, w1, w2, w3, w4] := fun d (hd : d ∈ tables_1) => atoms_spec (ws := Jvm.Cond.code x code maxLocals ret :: tables_1) hat d (List.mem_cons_of_mem _ hd)
  obtain ⟨g0, r0⟩ := and_e h2
  obtain ⟨g1, r1⟩ := and_e r0
  obtain ⟨g2, r2⟩ := and_e r1
  obtain ⟨g3, r3⟩ := and_e r2
  have g4 := r3
  obtain ⟨i0, e0⟩ := is_v g0
  obtain rfl : w0 = (.int i0) := Option.some.inj e0
  obtain ⟨i1, e1⟩ := is_v g1
  obtain rfl : w1 = (.int i1) := Option.some.inj e1
  obtain ⟨i2, e2⟩ := is_v g2
  obtain rfl : w2 = (.int i2) := Option.some.inj e2
  obtain ⟨i3, e3⟩ := is_v g3
  obtain rfl : w3 = (.int i3) := Option.some.inj e3
  obtain ⟨i4, e4⟩ := is_v g4
  obtain rfl : w4 = (.int i4) := Option.some.inj e4
  have rel0 : relL s cdC false (s.heap.size, 0) (0, (fun _ => 0), []) s.heap := ⟨fun q => (by cases q), fun i x q => (by simp at q), (by simp)⟩
  obtain ⟨n, o, h1, h2, h3, v, L, rfl, ⟨w', hv, hrel, hfrm, N, hsz, hnr⟩, hq⟩ := (law_ok hw i0 i1 i2 i3 i4).met (M := MoL s cdC "ContextProfilerL2" false) (l := l) pn_ContextProfilerL2 rfl (en := (s.heap.size, 0)) rel0 [.int i0, .int i1, .int i2, .int i3, .int i4] rfl rfl tables_1 p e ha hc hk s m _ below hf ((Spec.applies_iff_loose hf).mp happ).1 ⟨rfl, State.Warmed39.refl s, rfl⟩ trivial
  subst hv
  exact ⟨n, _, h1, h2, h3, hpost _ _ _ _ _ _ ⟨Cond.after_iff.mpr rfl, Cond.after_iff.mpr (eq_i res_at (Term.int_eval (1)) rfl), trivial⟩ ⟨hq.1, hq.2.1, (hq.2.2.sift fun y hy => Or.inr (N y hy)).mono (Nat.le_refl _) (Nat.le_refl _)⟩⟩
theorem main_1_1 : Claimed_1_1 := comes_1 fun _ _ _ _ _ _ h hF => ⟨h.1, hF⟩
theorem main_1_2 : Claimed_1_2 := comes_1 fun _ _ _ _ _ _ h hF => ⟨h.2.1, hF⟩
end Jvm.Pilot.@@N@@
namespace Jvm.Pilot.@@N@@
open Jvm Jvm.ClassFile Sem Op Lib Jvm.Free Jvm.Stand Jvm.Pilot.@@N@@.Jvm.D
/-! MADE BY PROGRAM (witnessworld.py) out of the Statement's table words and the real class files: 9 classes; the members and pool entries that the words name. The judged class is class 1, her method 1. -/
namespace start1
open Jvm.ClassFile
def u (s : String) : CpInfo := .utf8 (stringToUtf16 s)
/-- a pool by its gaps: so many unusable entries, then the entry; so many at the end -/
def gap : Nat → List CpInfo → List CpInfo
  | 0, r => r
  | n + 1, r => .unusable :: gap n r
def poolList (es : List (Nat × CpInfo)) (last : Nat) : List CpInfo := es.foldr (fun e r => gap e.1 (e.2 :: r)) (gap last [])
def pool (es : List (Nat × CpInfo)) (last : Nat) : Array CpInfo := ⟨poolList es last⟩
def fileOf (pool : Array CpInfo) (this : Nat) (attrs : Array Attribute := #[]) (ms : Array MethodInfo := #[]) (fl : Nat := 33) (sup : Nat := 0) (ifs : Array Nat := #[]) (fds : Array FieldInfo := #[]) : ClassFile where
  minorVersion := 0
  majorVersion := 65
  constantPool := pool
  accessFlags := fl
  thisClass := this
  superClass := sup
  interfaces := ifs
  fields := fds
  methods := ms
  attributes := attrs
def plain (name : String) (sup : Option ClassId) : Class where
  name := name
  kind := .ordinary
  loader := none
  accessFlags := 33
  super := sup
  interfaces := #[]
  cf := none
  fields := #[]
  methods := #[]
  instanceTypes := #[]
  staticTypes := #[]
  resolved := #[]
  callSites := []
  init := .initialized
  statics := none
  mirror := none

def pool0 : Array CpInfo := pool [(5, u "<init>"), (0, u "()V"), (1, .class_ 10), (1, u "java/lang/Object")] 113

def k0c0 : Code := { maxStack := 0, maxLocals := 1, code := object_method_1_code, exceptionTable := #[], attributes := #[] }
def k0m0 : Method := { name := "<init>", desc := "()V", sig := { parameters := [], returnType := none }, accessFlags := 1, code := some k0c0 }
/-- java/lang/Object -/
def k0 : Class := { plain "java/lang/Object" none with
  accessFlags := 33
  interfaces := #[]
  cf := some (fileOf pool0 8 #[] #[{ accessFlags := 1, nameIndex := 5, descriptorIndex := 6, attributes := #[] }] 33 0 #[] #[])
  fields := #[]
  methods := #[k0m0]
  instanceTypes := #[]
  staticTypes := #[]
  resolved := Array.replicate 124 none
  statics := none }

def pool1 : Array CpInfo := pool [(2, .class_ 4), (1, u "java/lang/Object"), (0, u "<init>"), (0, u "()V"), (0, .class_ 8), (0, u "ContextProfiler"), (0, .methodref 7 10), (0, .nameAndType 5 11), (0, u "(III)V"), (0, .methodref 7 13), (0, .nameAndType 14 15), (0, u "pushQuery"), (0, u "(I)Z"), (0, .methodref 7 17), (0, .nameAndType 18 19), (0, u "info"), (0, u "(I)I"), (0, .methodref 7 21), (0, .nameAndType 22 23), (0, u "self"), (0, u "()I"), (0, .methodref 7 25), (0, .nameAndType 26 23), (0, u "inclusive"), (0, .methodref 7 28), (0, .nameAndType 29 23), (0, u "lost"), (0, .methodref 7 31), (0, .nameAndType 32 23), (0, u "sampledSelf"), (0, .methodref 7 34), (0, .nameAndType 35 6), (0, u "clearQuery"), (0, .class_ 37), (0, u "ContextProfilerL2"), (2, u "law"), (0, u "(IIIII)Z")] 3

def k1m0 : Method := { name := "<init>", desc := "()V", sig := { parameters := [], returnType := none }, accessFlags := 1, code := none }
def k1c1 : Code := { maxStack := 5, maxLocals := 11, code := code, exceptionTable := #[], attributes := #[] }
def k1m1 : Method := { name := "law", desc := "(IIIII)Z", sig := { parameters := [.int, .int, .int, .int, .int], returnType := some .boolean }, accessFlags := 9, code := some k1c1 }
/-- ContextProfilerL2 -/
def k1 : Class := { plain "ContextProfilerL2" (some 0) with
  accessFlags := 49
  interfaces := #[]
  cf := some (fileOf pool1 36 #[] #[{ accessFlags := 1, nameIndex := 5, descriptorIndex := 6, attributes := #[] }, { accessFlags := 9, nameIndex := 40, descriptorIndex := 41, attributes := #[] }] 49 2 #[] #[])
  fields := #[]
  methods := #[k1m0, k1m1]
  instanceTypes := #[]
  staticTypes := #[]
  resolved := Array.replicate 45 none
  statics := none }

def pool2 : Array CpInfo := pool [(1, .methodref 2 3), (0, .class_ 4), (0, .nameAndType 5 6), (0, u "java/lang/Object"), (0, u "<init>"), (0, u "()V"), (0, .fieldref 8 9), (0, .class_ 10), (0, .nameAndType 11 12), (0, u "ContextProfiler"), (0, u "ops"), (0, u "[I"), (0, .fieldref 8 14), (0, .nameAndType 15 12), (0, u "args"), (0, .fieldref 8 17), (0, .nameAndType 18 12), (0, u "entries"), (0, .fieldref 8 20), (0, .nameAndType 21 12), (0, u "stack"), (0, .fieldref 8 23), (0, .nameAndType 24 12), (0, u "frameFunc"), (0, .fieldref 8 26), (0, .nameAndType 27 12), (0, u "frameRet"), (0, .fieldref 8 29), (0, .nameAndType 30 12), (0, u "frameNode"), (0, .fieldref 8 32), (0, .nameAndType 33 12), (0, u "iParent"), (0, .fieldref 8 35), (0, .nameAndType 36 12), (0, u "iFunc"), (0, .fieldref 8 38), (0, .nameAndType 39 12), (0, u "iSelf"), (0, .fieldref 8 41), (0, .nameAndType 42 12), (0, u "iIncl"), (0, .fieldref 8 44), (0, .nameAndType 45 12), (0, u "iLost"), (0, .fieldref 8 47), (0, .nameAndType 48 12), (0, u "sParent"), (0, .fieldref 8 50), (0, .nameAndType 51 12), (0, u "sFunc"), (0, .fieldref 8 53), (0, .nameAndType 54 12), (0, u "sSelf"), (0, .fieldref 8 56), (0, .nameAndType 57 12), (0, u "query"), (0, .methodref 8 59), (0, .nameAndType 60 61), (0, u "clamp"), (0, u "(III)I"), (0, .fieldref 8 63), (0, .nameAndType 64 65), (0, u "capacity"), (0, u "I"), (0, .fieldref 8 67), (0, .nameAndType 68 65), (0, u "period"), (0, .fieldref 8 70), (0, .nameAndType 71 65), (0, u "maxDepth"), (0, .methodref 8 73), (0, .nameAndType 74 6), (0, u "reset"), (0, .fieldref 8 76), (0, .nameAndType 77 65), (0, u "status"), (0, .fieldref 8 79), (0, .nameAndType 80 65), (0, u "codeSize"), (0, .fieldref 8 82), (0, .nameAndType 83 65), (0, u "pc"), (0, .fieldref 8 85), (0, .nameAndType 86 65), (0, u "sp"), (0, .fieldref 8 88), (0, .nameAndType 89 65), (0, u "depth"), (0, .fieldref 8 91), (0, .nameAndType 92 65), (0, u "executed"), (0, .fieldref 8 94), (0, .nameAndType 95 65), (0, u "overflow"), (0, .fieldref 8 97), (0, .nameAndType 98 65), (0, u "sampledOverflow"), (0, .fieldref 8 100), (0, .nameAndType 101 65), (0, u "qLen"), (0, .methodref 8 103), (0, .nameAndType 104 6), (0, u "clearTrees"), (0, .fieldref 8 106), (0, .nameAndType 107 65), (0, u "iCount"), (0, .fieldref 8 109), (0, .nameAndType 110 65), (0, u "sCount"), (21, u "(I)Z"), (14, .methodref 8 148), (0, .nameAndType 149 150), (0, u "findInstrChild"), (0, u "(II)I"), (6, u "()I"), (6, .methodref 8 165), (0, .nameAndType 166 150), (0, u "findSampledChild"), (3, .methodref 8 171), (0, .nameAndType 172 157), (0, u "queryInstrNode"), (0, .methodref 8 174), (0, .nameAndType 175 157), (0, u "querySampledNode"), (0, u "NOP"), (2, u "PUSH"), (1, u "ADD"), (1, u "SUB"), (1, u "DUP"), (1, u "DROP"), (1, u "JMP"), (1, u "JZ"), (1, u "CALL"), (1, u "RET"), (1, u "HALT"), (1, u "LOAD"), (0, u "RUNNING"), (0, u "DONE"), (0, u "FAULT"), (0, u "K_STATUS"), (0, u "K_EXECUTED"), (0, u "K_NODES"), (0, u "K_OVERFLOW"), (0, u "K_SAMPLES"), (0, u "K_SAMPLED_NODES"), (0, u "K_SAMPLED_OVERFLOW"), (0, u "K_DEPTH"), (0, u "K_PC"), (0, u "K_STACK_SIZE"), (0, u "K_TOP"), (0, u "K_CODE_SIZE"), (1, u "K_QUERY_LENGTH"), (1, u "(III)V"), (6, u "(I)I"), (1, u "clearQuery"), (0, u "pushQuery"), (0, u "self"), (0, u "inclusive"), (0, u "lost"), (0, u "sampledSelf"), (1, u "info")] 2

def k2c0 : Code := { maxStack := 5, maxLocals := 4, code := prog_1_method_1_code, exceptionTable := #[], attributes := #[] }
def k2m0 : Method := { name := "<init>", desc := "(III)V", sig := { parameters := [.int, .int, .int], returnType := none }, accessFlags := 1, code := some k2c0 }
def k2c1 : Code := { maxStack := 2, maxLocals := 4, code := prog_1_method_2_code, exceptionTable := #[], attributes := #[] }
def k2m1 : Method := { name := "clamp", desc := "(III)I", sig := { parameters := [.int, .int, .int], returnType := some .int }, accessFlags := 2, code := some k2c1 }
def k2c2 : Code := { maxStack := 3, maxLocals := 2, code := prog_1_method_3_code, exceptionTable := #[], attributes := #[] }
def k2m2 : Method := { name := "reset", desc := "()V", sig := { parameters := [], returnType := none }, accessFlags := 1, code := some k2c2 }
def k2c3 : Code := { maxStack := 3, maxLocals := 2, code := prog_1_method_4_code, exceptionTable := #[], attributes := #[] }
def k2m3 : Method := { name := "clearTrees", desc := "()V", sig := { parameters := [], returnType := none }, accessFlags := 2, code := some k2c3 }
def k2c4 : Code := { maxStack := 2, maxLocals := 4, code := prog_1_method_20_code, exceptionTable := #[], attributes := #[] }
def k2m4 : Method := { name := "findInstrChild", desc := "(II)I", sig := { parameters := [.int, .int], returnType := some .int }, accessFlags := 2, code := some k2c4 }
def k2c5 : Code := { maxStack := 2, maxLocals := 4, code := prog_1_method_23_code, exceptionTable := #[], attributes := #[] }
def k2m5 : Method := { name := "findSampledChild", desc := "(II)I", sig := { parameters := [.int, .int], returnType := some .int }, accessFlags := 2, code := some k2c5 }
def k2c6 : Code := { maxStack := 2, maxLocals := 1, code := prog_1_method_25_code, exceptionTable := #[], attributes := #[] }
def k2m6 : Method := { name := "clearQuery", desc := "()V", sig := { parameters := [], returnType := none }, accessFlags := 1, code := some k2c6 }
def k2c7 : Code := { maxStack := 3, maxLocals := 2, code := prog_1_method_26_code, exceptionTable := #[], attributes := #[] }
def k2m7 : Method := { name := "pushQuery", desc := "(I)Z", sig := { parameters := [.int], returnType := some .boolean }, accessFlags := 1, code := some k2c7 }
def k2c8 : Code := { maxStack := 3, maxLocals := 4, code := prog_1_method_27_code, exceptionTable := #[], attributes := #[] }
def k2m8 : Method := { name := "queryInstrNode", desc := "()I", sig := { parameters := [], returnType := some .int }, accessFlags := 2, code := some k2c8 }
def k2c9 : Code := { maxStack := 3, maxLocals := 4, code := prog_1_method_28_code, exceptionTable := #[], attributes := #[] }
def k2m9 : Method := { name := "querySampledNode", desc := "()I", sig := { parameters := [], returnType := some .int }, accessFlags := 2, code := some k2c9 }
def k2c10 : Code := { maxStack := 2, maxLocals := 2, code := prog_1_method_29_code, exceptionTable := #[], attributes := #[] }
def k2m10 : Method := { name := "self", desc := "()I", sig := { parameters := [], returnType := some .int }, accessFlags := 1, code := some k2c10 }
def k2c11 : Code := { maxStack := 2, maxLocals := 2, code := prog_1_method_30_code, exceptionTable := #[], attributes := #[] }
def k2m11 : Method := { name := "inclusive", desc := "()I", sig := { parameters := [], returnType := some .int }, accessFlags := 1, code := some k2c11 }
def k2c12 : Code := { maxStack := 2, maxLocals := 2, code := prog_1_method_31_code, exceptionTable := #[], attributes := #[] }
def k2m12 : Method := { name := "lost", desc := "()I", sig := { parameters := [], returnType := some .int }, accessFlags := 1, code := some k2c12 }
def k2c13 : Code := { maxStack := 2, maxLocals := 2, code := prog_1_method_32_code, exceptionTable := #[], attributes := #[] }
def k2m13 : Method := { name := "sampledSelf", desc := "()I", sig := { parameters := [], returnType := some .int }, accessFlags := 1, code := some k2c13 }
def k2c14 : Code := { maxStack := 3, maxLocals := 2, code := prog_1_method_34_code, exceptionTable := #[], attributes := #[] }
def k2m14 : Method := { name := "info", desc := "(I)I", sig := { parameters := [.int], returnType := some .int }, accessFlags := 1, code := some k2c14 }
/-- ContextProfiler -/
def k2 : Class := { plain "ContextProfiler" (some 0) with
  accessFlags := 49
  interfaces := #[]
  cf := some (fileOf pool2 8 #[] #[{ accessFlags := 1, nameIndex := 5, descriptorIndex := 218, attributes := #[] }, { accessFlags := 2, nameIndex := 60, descriptorIndex := 61, attributes := #[] }, { accessFlags := 1, nameIndex := 74, descriptorIndex := 6, attributes := #[] }, { accessFlags := 2, nameIndex := 104, descriptorIndex := 6, attributes := #[] }, { accessFlags := 2, nameIndex := 149, descriptorIndex := 150, attributes := #[] }, { accessFlags := 2, nameIndex := 166, descriptorIndex := 150, attributes := #[] }, { accessFlags := 1, nameIndex := 227, descriptorIndex := 6, attributes := #[] }, { accessFlags := 1, nameIndex := 228, descriptorIndex := 132, attributes := #[] }, { accessFlags := 2, nameIndex := 172, descriptorIndex := 157, attributes := #[] }, { accessFlags := 2, nameIndex := 175, descriptorIndex := 157, attributes := #[] }, { accessFlags := 1, nameIndex := 229, descriptorIndex := 157, attributes := #[] }, { accessFlags := 1, nameIndex := 230, descriptorIndex := 157, attributes := #[] }, { accessFlags := 1, nameIndex := 231, descriptorIndex := 157, attributes := #[] }, { accessFlags := 1, nameIndex := 232, descriptorIndex := 157, attributes := #[] }, { accessFlags := 1, nameIndex := 234, descriptorIndex := 225, attributes := #[] }] 49 2 #[] #[{ accessFlags := 25, nameIndex := 176, descriptorIndex := 65, attributes := #[] }, { accessFlags := 25, nameIndex := 179, descriptorIndex := 65, attributes := #[] }, { accessFlags := 25, nameIndex := 181, descriptorIndex := 65, attributes := #[] }, { accessFlags := 25, nameIndex := 183, descriptorIndex := 65, attributes := #[] }, { accessFlags := 25, nameIndex := 185, descriptorIndex := 65, attributes := #[] }, { accessFlags := 25, nameIndex := 187, descriptorIndex := 65, attributes := #[] }, { accessFlags := 25, nameIndex := 189, descriptorIndex := 65, attributes := #[] }, { accessFlags := 25, nameIndex := 191, descriptorIndex := 65, attributes := #[] }, { accessFlags := 25, nameIndex := 193, descriptorIndex := 65, attributes := #[] }, { accessFlags := 25, nameIndex := 195, descriptorIndex := 65, attributes := #[] }, { accessFlags := 25, nameIndex := 197, descriptorIndex := 65, attributes := #[] }, { accessFlags := 25, nameIndex := 199, descriptorIndex := 65, attributes := #[] }, { accessFlags := 25, nameIndex := 200, descriptorIndex := 65, attributes := #[] }, { accessFlags := 25, nameIndex := 201, descriptorIndex := 65, attributes := #[] }, { accessFlags := 25, nameIndex := 202, descriptorIndex := 65, attributes := #[] }, { accessFlags := 25, nameIndex := 203, descriptorIndex := 65, attributes := #[] }, { accessFlags := 25, nameIndex := 204, descriptorIndex := 65, attributes := #[] }, { accessFlags := 25, nameIndex := 205, descriptorIndex := 65, attributes := #[] }, { accessFlags := 25, nameIndex := 206, descriptorIndex := 65, attributes := #[] }, { accessFlags := 25, nameIndex := 207, descriptorIndex := 65, attributes := #[] }, { accessFlags := 25, nameIndex := 208, descriptorIndex := 65, attributes := #[] }, { accessFlags := 25, nameIndex := 209, descriptorIndex := 65, attributes := #[] }, { accessFlags := 25, nameIndex := 210, descriptorIndex := 65, attributes := #[] }, { accessFlags := 25, nameIndex := 211, descriptorIndex := 65, attributes := #[] }, { accessFlags := 25, nameIndex := 212, descriptorIndex := 65, attributes := #[] }, { accessFlags := 25, nameIndex := 213, descriptorIndex := 65, attributes := #[] }, { accessFlags := 25, nameIndex := 214, descriptorIndex := 65, attributes := #[] }, { accessFlags := 25, nameIndex := 216, descriptorIndex := 65, attributes := #[] }, { accessFlags := 2, nameIndex := 64, descriptorIndex := 65, attributes := #[] }, { accessFlags := 2, nameIndex := 68, descriptorIndex := 65, attributes := #[] }, { accessFlags := 2, nameIndex := 71, descriptorIndex := 65, attributes := #[] }, { accessFlags := 2, nameIndex := 77, descriptorIndex := 65, attributes := #[] }, { accessFlags := 2, nameIndex := 80, descriptorIndex := 65, attributes := #[] }, { accessFlags := 2, nameIndex := 83, descriptorIndex := 65, attributes := #[] }, { accessFlags := 2, nameIndex := 86, descriptorIndex := 65, attributes := #[] }, { accessFlags := 2, nameIndex := 89, descriptorIndex := 65, attributes := #[] }, { accessFlags := 2, nameIndex := 92, descriptorIndex := 65, attributes := #[] }, { accessFlags := 2, nameIndex := 95, descriptorIndex := 65, attributes := #[] }, { accessFlags := 2, nameIndex := 98, descriptorIndex := 65, attributes := #[] }, { accessFlags := 2, nameIndex := 101, descriptorIndex := 65, attributes := #[] }, { accessFlags := 2, nameIndex := 11, descriptorIndex := 12, attributes := #[] }, { accessFlags := 2, nameIndex := 15, descriptorIndex := 12, attributes := #[] }, { accessFlags := 2, nameIndex := 18, descriptorIndex := 12, attributes := #[] }, { accessFlags := 2, nameIndex := 21, descriptorIndex := 12, attributes := #[] }, { accessFlags := 2, nameIndex := 24, descriptorIndex := 12, attributes := #[] }, { accessFlags := 2, nameIndex := 27, descriptorIndex := 12, attributes := #[] }, { accessFlags := 2, nameIndex := 30, descriptorIndex := 12, attributes := #[] }, { accessFlags := 2, nameIndex := 33, descriptorIndex := 12, attributes := #[] }, { accessFlags := 2, nameIndex := 36, descriptorIndex := 12, attributes := #[] }, { accessFlags := 2, nameIndex := 39, descriptorIndex := 12, attributes := #[] }, { accessFlags := 2, nameIndex := 42, descriptorIndex := 12, attributes := #[] }, { accessFlags := 2, nameIndex := 45, descriptorIndex := 12, attributes := #[] }, { accessFlags := 2, nameIndex := 107, descriptorIndex := 65, attributes := #[] }, { accessFlags := 2, nameIndex := 48, descriptorIndex := 12, attributes := #[] }, { accessFlags := 2, nameIndex := 51, descriptorIndex := 12, attributes := #[] }, { accessFlags := 2, nameIndex := 54, descriptorIndex := 12, attributes := #[] }, { accessFlags := 2, nameIndex := 110, descriptorIndex := 65, attributes := #[] }, { accessFlags := 2, nameIndex := 57, descriptorIndex := 12, attributes := #[] }])
  fields := #[{ name := "NOP", type := .int, accessFlags := 25, slot := 0, constantValue := 0 }, { name := "PUSH", type := .int, accessFlags := 25, slot := 1, constantValue := 0 }, { name := "ADD", type := .int, accessFlags := 25, slot := 2, constantValue := 0 }, { name := "SUB", type := .int, accessFlags := 25, slot := 3, constantValue := 0 }, { name := "DUP", type := .int, accessFlags := 25, slot := 4, constantValue := 0 }, { name := "DROP", type := .int, accessFlags := 25, slot := 5, constantValue := 0 }, { name := "JMP", type := .int, accessFlags := 25, slot := 6, constantValue := 0 }, { name := "JZ", type := .int, accessFlags := 25, slot := 7, constantValue := 0 }, { name := "CALL", type := .int, accessFlags := 25, slot := 8, constantValue := 0 }, { name := "RET", type := .int, accessFlags := 25, slot := 9, constantValue := 0 }, { name := "HALT", type := .int, accessFlags := 25, slot := 10, constantValue := 0 }, { name := "LOAD", type := .int, accessFlags := 25, slot := 11, constantValue := 0 }, { name := "RUNNING", type := .int, accessFlags := 25, slot := 12, constantValue := 0 }, { name := "DONE", type := .int, accessFlags := 25, slot := 13, constantValue := 0 }, { name := "FAULT", type := .int, accessFlags := 25, slot := 14, constantValue := 0 }, { name := "K_STATUS", type := .int, accessFlags := 25, slot := 15, constantValue := 0 }, { name := "K_EXECUTED", type := .int, accessFlags := 25, slot := 16, constantValue := 0 }, { name := "K_NODES", type := .int, accessFlags := 25, slot := 17, constantValue := 0 }, { name := "K_OVERFLOW", type := .int, accessFlags := 25, slot := 18, constantValue := 0 }, { name := "K_SAMPLES", type := .int, accessFlags := 25, slot := 19, constantValue := 0 }, { name := "K_SAMPLED_NODES", type := .int, accessFlags := 25, slot := 20, constantValue := 0 }, { name := "K_SAMPLED_OVERFLOW", type := .int, accessFlags := 25, slot := 21, constantValue := 0 }, { name := "K_DEPTH", type := .int, accessFlags := 25, slot := 22, constantValue := 0 }, { name := "K_PC", type := .int, accessFlags := 25, slot := 23, constantValue := 0 }, { name := "K_STACK_SIZE", type := .int, accessFlags := 25, slot := 24, constantValue := 0 }, { name := "K_TOP", type := .int, accessFlags := 25, slot := 25, constantValue := 0 }, { name := "K_CODE_SIZE", type := .int, accessFlags := 25, slot := 26, constantValue := 0 }, { name := "K_QUERY_LENGTH", type := .int, accessFlags := 25, slot := 27, constantValue := 0 }, { name := "capacity", type := .int, accessFlags := 2, slot := 0, constantValue := 0 }, { name := "period", type := .int, accessFlags := 2, slot := 1, constantValue := 0 }, { name := "maxDepth", type := .int, accessFlags := 2, slot := 2, constantValue := 0 }, { name := "status", type := .int, accessFlags := 2, slot := 3, constantValue := 0 }, { name := "codeSize", type := .int, accessFlags := 2, slot := 4, constantValue := 0 }, { name := "pc", type := .int, accessFlags := 2, slot := 5, constantValue := 0 }, { name := "sp", type := .int, accessFlags := 2, slot := 6, constantValue := 0 }, { name := "depth", type := .int, accessFlags := 2, slot := 7, constantValue := 0 }, { name := "executed", type := .int, accessFlags := 2, slot := 8, constantValue := 0 }, { name := "overflow", type := .int, accessFlags := 2, slot := 9, constantValue := 0 }, { name := "sampledOverflow", type := .int, accessFlags := 2, slot := 10, constantValue := 0 }, { name := "qLen", type := .int, accessFlags := 2, slot := 11, constantValue := 0 }, { name := "ops", type := (.array .int), accessFlags := 2, slot := 12, constantValue := 0 }, { name := "args", type := (.array .int), accessFlags := 2, slot := 13, constantValue := 0 }, { name := "entries", type := (.array .int), accessFlags := 2, slot := 14, constantValue := 0 }, { name := "stack", type := (.array .int), accessFlags := 2, slot := 15, constantValue := 0 }, { name := "frameFunc", type := (.array .int), accessFlags := 2, slot := 16, constantValue := 0 }, { name := "frameRet", type := (.array .int), accessFlags := 2, slot := 17, constantValue := 0 }, { name := "frameNode", type := (.array .int), accessFlags := 2, slot := 18, constantValue := 0 }, { name := "iParent", type := (.array .int), accessFlags := 2, slot := 19, constantValue := 0 }, { name := "iFunc", type := (.array .int), accessFlags := 2, slot := 20, constantValue := 0 }, { name := "iSelf", type := (.array .int), accessFlags := 2, slot := 21, constantValue := 0 }, { name := "iIncl", type := (.array .int), accessFlags := 2, slot := 22, constantValue := 0 }, { name := "iLost", type := (.array .int), accessFlags := 2, slot := 23, constantValue := 0 }, { name := "iCount", type := .int, accessFlags := 2, slot := 24, constantValue := 0 }, { name := "sParent", type := (.array .int), accessFlags := 2, slot := 25, constantValue := 0 }, { name := "sFunc", type := (.array .int), accessFlags := 2, slot := 26, constantValue := 0 }, { name := "sSelf", type := (.array .int), accessFlags := 2, slot := 27, constantValue := 0 }, { name := "sCount", type := .int, accessFlags := 2, slot := 28, constantValue := 0 }, { name := "query", type := (.array .int), accessFlags := 2, slot := 29, constantValue := 0 }]
  methods := #[k2m0, k2m1, k2m2, k2m3, k2m4, k2m5, k2m6, k2m7, k2m8, k2m9, k2m10, k2m11, k2m12, k2m13, k2m14]
  instanceTypes := #[.int, .int, .int, .int, .int, .int, .int, .int, .int, .int, .int, .int, (.array .int), (.array .int), (.array .int), (.array .int), (.array .int), (.array .int), (.array .int), (.array .int), (.array .int), (.array .int), (.array .int), (.array .int), .int, (.array .int), (.array .int), (.array .int), .int, (.array .int)]
  staticTypes := #[.int, .int, .int, .int, .int, .int, .int, .int, .int, .int, .int, .int, .int, .int, .int, .int, .int, .int, .int, .int, .int, .int, .int, .int, .int, .int, .int, .int]
  resolved := Array.replicate 237 none
  statics := none }

def pool3 : Array CpInfo := pool [(1, u "java/lang/Cloneable"), (0, .class_ 1), (0, u "java/lang/Object"), (0, .class_ 3)] 3

/-- java/lang/Cloneable -/
def k3 : Class := { plain "java/lang/Cloneable" (some 0) with
  accessFlags := 1537
  interfaces := #[]
  cf := some (fileOf pool3 2 #[] #[] 1537 4 #[] #[])
  fields := #[]
  methods := #[]
  instanceTypes := #[]
  staticTypes := #[]
  resolved := Array.replicate 8 none
  statics := none }

def pool4 : Array CpInfo := pool [(1, u "java/io/Serializable"), (0, .class_ 1), (0, u "java/lang/Object"), (0, .class_ 3)] 3

/-- java/io/Serializable -/
def k4 : Class := { plain "java/io/Serializable" (some 0) with
  accessFlags := 1537
  interfaces := #[]
  cf := some (fileOf pool4 2 #[] #[] 1537 4 #[] #[])
  fields := #[]
  methods := #[]
  instanceTypes := #[]
  staticTypes := #[]
  resolved := Array.replicate 8 none
  statics := none }

/-- the primitive byte -/
def k5 : Class := { plain "byte" none with kind := .primitive 'B', accessFlags := 0x411 }
/-- [B -/
def k6 : Class := { plain "[B" (some 0) with kind := .array 5 .byte, interfaces := #[3, 4], accessFlags := 1041 }

/-- the primitive int -/
def k7 : Class := { plain "int" none with kind := .primitive 'I', accessFlags := 0x411 }
/-- [I -/
def k8 : Class := { plain "[I" (some 0) with kind := .array 7 .int, interfaces := #[3, 4], accessFlags := 1041 }

def heap : Heap := #[]
def classes : Array Class := #[k0, k1, k2, k3, k4, k5, k6, k7, k8]
def interned : List (Array UInt16 × Addr) := []
def slotsUsed : Nat := 0
def theMethod : MethodId := ⟨1, 1⟩
def args0 : Array Value := #[.int 5, .int 5, .int 5, .int 0, .int 9]
def aboutOver (below : List Frame) : State where
  vm := { classes := classes, interned := interned.toArray }
  heap := heap
  slotsUsed := slotsUsed
  threads := #[{ frames := .invoking theMethod args0 :: below }]
def below0 : List Frame := [.native { method := ⟨0, 0⟩, args := #[] }]
def about1 : State := aboutOver below0
def p0 : Program := .bare "" "" ""
def e0 : Env := launch0.env 0 0 0
theorem w_frames : about1.frames = Frame.invoking theMethod args0 :: below0 := rfl
set_option maxRecDepth 65536 in
theorem w_args : argsFit about1.vm theMethod args0 = true := by decide +kernel
set_option maxRecDepth 65536 in
theorem w_heap : heapFits about1 = true := by decide +kernel
set_option maxRecDepth 65536 in
theorem w_runnable : about1.curStatus? = some .runnable := by decide +kernel
set_option maxRecDepth 65536 in
theorem w_alone : about1.alone = true := by decide +kernel
set_option maxRecDepth 65536 in
theorem w_named : about1.methodNamed? x = some theMethod := by decide +kernel
set_option maxRecDepth 65536 in
theorem w_hears : about1.hears theMethod below0 = true := by decide +kernel
set_option maxRecDepth 65536 in
theorem w_ripe : about1.ripe theMethod args0 below0 = true := by decide +kernel
theorem w_running : about1.status = .running := rfl
set_option maxRecDepth 65536 in
theorem w_room : about1.hasRoom e0.platform room_1 = true :=
  launch0.hasRoom_least _ room_1 (by decide +kernel) (by decide +kernel) (by decide +kernel) (by decide +kernel) (by decide +kernel) (by decide +kernel)
theorem allAtoms_all (ts : List Jvm.Cond) (a : Array Jvm.Value) (st : Jvm.State) : (allAtoms ts).before a st = ts.all (fun c => c.before a st) := by
  induction ts with
  | nil => rfl
  | cons c t ih =>
    show (Jvm.Cond.and c (allAtoms t)).before a st = _
    rw [Jvm.Cond.before_and, ih, List.all_cons]
def words1 : List Jvm.Cond := Jvm.Cond.code x code maxLocals ret :: tables_1
/-- a 'code' word, met by the world's own term for the bytes: nothing is compared byte by byte -/
theorem code_word {y : MethodName} {bytes : ByteArray} {mx : Nat} {rt : Option FieldType} {a : Array Value} {s : State} {m : MethodId} {meth : Method} {c : Code} (h1 : s.methodNamed? y = some m) (h2 : s.vm.method? m = some meth) (h3 : meth.code = some c) (h4 : c.code = bytes)
    (h5 : (c.maxLocals == mx && c.exceptionTable.isEmpty && decide (c.maxStack ≤ mostOperands) && decide (meth.sig.returnType = rt) && !meth.locks && decide (parseMethodDescriptor y.desc = some meth.sig)) = true) : (Jvm.Cond.code y bytes mx rt).before a s = true := by
  simp only [Bool.and_eq_true, beq_iff_eq, Bool.not_eq_true', decide_eq_true_eq] at h5
  obtain ⟨⟨⟨⟨⟨g1, g2⟩, g3⟩, g4⟩, g5⟩, g6⟩ := h5
  simp [Cond.before, Cond.holds, Cond.value, h1, h2, h3, h4, g1, g2, g3, g4, g5, g6]
def isCode : Jvm.Cond → Bool
  | .code _ _ _ _ => true
  | _ => false
theorem all_split {L : List Jvm.Cond} {P : Jvm.Cond → Bool} (h1 : L.all (fun c => isCode c || P c) = true) (h2 : ∀ c ∈ L.filter isCode, P c = true) : L.all P = true := by
  refine List.all_eq_true.mpr fun c hc => ?_
  have h := List.all_eq_true.mp h1 c hc
  rcases Bool.eq_false_or_eq_true (isCode c) with hi | hi
  · exact h2 c (List.mem_filter.mpr ⟨hc, hi⟩)
  · simpa [hi] using h
set_option maxRecDepth 65536 in
theorem w_c0 : (Jvm.Cond.code x code maxLocals ret).before args0 about1 = true := code_word (m := ⟨1, 1⟩) (meth := k1m1) (c := k1c1) (by decide +kernel) rfl rfl rfl (by decide +kernel)
set_option maxRecDepth 65536 in
theorem w_c1 : (Jvm.Cond.code ({ cls := "ContextProfiler", name := "<init>", desc := "(III)V" } : Jvm.MethodName) prog_1_method_1_code (4 : Nat) (Option.none : Option Jvm.ClassFile.FieldType)).before args0 about1 = true := code_word (m := ⟨2, 0⟩) (meth := k2m0) (c := k2c0) (by decide +kernel) rfl rfl rfl (by decide +kernel)
set_option maxRecDepth 65536 in
theorem w_c2 : (Jvm.Cond.code ({ cls := "java/lang/Object", name := "<init>", desc := "()V" } : Jvm.MethodName) object_method_1_code (1 : Nat) (Option.none : Option Jvm.ClassFile.FieldType)).before args0 about1 = true := code_word (m := ⟨0, 0⟩) (meth := k0m0) (c := k0c0) (by decide +kernel) rfl rfl rfl (by decide +kernel)
set_option maxRecDepth 65536 in
theorem w_c3 : (Jvm.Cond.code ({ cls := "ContextProfiler", name := "clamp", desc := "(III)I" } : Jvm.MethodName) prog_1_method_2_code (4 : Nat) (Option.some Jvm.ClassFile.FieldType.int)).before args0 about1 = true := code_word (m := ⟨2, 1⟩) (meth := k2m1) (c := k2c1) (by decide +kernel) rfl rfl rfl (by decide +kernel)
set_option maxRecDepth 65536 in
theorem w_c4 : (Jvm.Cond.code ({ cls := "ContextProfiler", name := "reset", desc := "()V" } : Jvm.MethodName) prog_1_method_3_code (2 : Nat) (Option.none : Option Jvm.ClassFile.FieldType)).before args0 about1 = true := code_word (m := ⟨2, 2⟩) (meth := k2m2) (c := k2c2) (by decide +kernel) rfl rfl rfl (by decide +kernel)
set_option maxRecDepth 65536 in
theorem w_c5 : (Jvm.Cond.code ({ cls := "ContextProfiler", name := "clearTrees", desc := "()V" } : Jvm.MethodName) prog_1_method_4_code (2 : Nat) (Option.none : Option Jvm.ClassFile.FieldType)).before args0 about1 = true := code_word (m := ⟨2, 3⟩) (meth := k2m3) (c := k2c3) (by decide +kernel) rfl rfl rfl (by decide +kernel)
set_option maxRecDepth 65536 in
theorem w_c6 : (Jvm.Cond.code ({ cls := "ContextProfiler", name := "pushQuery", desc := "(I)Z" } : Jvm.MethodName) prog_1_method_26_code (2 : Nat) (Option.some Jvm.ClassFile.FieldType.boolean)).before args0 about1 = true := code_word (m := ⟨2, 7⟩) (meth := k2m7) (c := k2c7) (by decide +kernel) rfl rfl rfl (by decide +kernel)
set_option maxRecDepth 65536 in
theorem w_c7 : (Jvm.Cond.code ({ cls := "ContextProfiler", name := "info", desc := "(I)I" } : Jvm.MethodName) prog_1_method_34_code (2 : Nat) (Option.some Jvm.ClassFile.FieldType.int)).before args0 about1 = true := code_word (m := ⟨2, 14⟩) (meth := k2m14) (c := k2c14) (by decide +kernel) rfl rfl rfl (by decide +kernel)
set_option maxRecDepth 65536 in
theorem w_c8 : (Jvm.Cond.code ({ cls := "ContextProfiler", name := "self", desc := "()I" } : Jvm.MethodName) prog_1_method_29_code (2 : Nat) (Option.some Jvm.ClassFile.FieldType.int)).before args0 about1 = true := code_word (m := ⟨2, 10⟩) (meth := k2m10) (c := k2c10) (by decide +kernel) rfl rfl rfl (by decide +kernel)
set_option maxRecDepth 65536 in
theorem w_c9 : (Jvm.Cond.code ({ cls := "ContextProfiler", name := "queryInstrNode", desc := "()I" } : Jvm.MethodName) prog_1_method_27_code (4 : Nat) (Option.some Jvm.ClassFile.FieldType.int)).before args0 about1 = true := code_word (m := ⟨2, 8⟩) (meth := k2m8) (c := k2c8) (by decide +kernel) rfl rfl rfl (by decide +kernel)
set_option maxRecDepth 65536 in
theorem w_c10 : (Jvm.Cond.code ({ cls := "ContextProfiler", name := "inclusive", desc := "()I" } : Jvm.MethodName) prog_1_method_30_code (2 : Nat) (Option.some Jvm.ClassFile.FieldType.int)).before args0 about1 = true := code_word (m := ⟨2, 11⟩) (meth := k2m11) (c := k2c11) (by decide +kernel) rfl rfl rfl (by decide +kernel)
set_option maxRecDepth 65536 in
theorem w_c11 : (Jvm.Cond.code ({ cls := "ContextProfiler", name := "lost", desc := "()I" } : Jvm.MethodName) prog_1_method_31_code (2 : Nat) (Option.some Jvm.ClassFile.FieldType.int)).before args0 about1 = true := code_word (m := ⟨2, 12⟩) (meth := k2m12) (c := k2c12) (by decide +kernel) rfl rfl rfl (by decide +kernel)
set_option maxRecDepth 65536 in
theorem w_c12 : (Jvm.Cond.code ({ cls := "ContextProfiler", name := "sampledSelf", desc := "()I" } : Jvm.MethodName) prog_1_method_32_code (2 : Nat) (Option.some Jvm.ClassFile.FieldType.int)).before args0 about1 = true := code_word (m := ⟨2, 13⟩) (meth := k2m13) (c := k2c13) (by decide +kernel) rfl rfl rfl (by decide +kernel)
set_option maxRecDepth 65536 in
theorem w_c13 : (Jvm.Cond.code ({ cls := "ContextProfiler", name := "querySampledNode", desc := "()I" } : Jvm.MethodName) prog_1_method_28_code (4 : Nat) (Option.some Jvm.ClassFile.FieldType.int)).before args0 about1 = true := code_word (m := ⟨2, 9⟩) (meth := k2m9) (c := k2c9) (by decide +kernel) rfl rfl rfl (by decide +kernel)
set_option maxRecDepth 65536 in
theorem w_c14 : (Jvm.Cond.code ({ cls := "ContextProfiler", name := "clearQuery", desc := "()V" } : Jvm.MethodName) prog_1_method_25_code (1 : Nat) (Option.none : Option Jvm.ClassFile.FieldType)).before args0 about1 = true := code_word (m := ⟨2, 6⟩) (meth := k2m6) (c := k2c6) (by decide +kernel) rfl rfl rfl (by decide +kernel)
set_option maxRecDepth 65536 in
theorem w_c15 : (Jvm.Cond.code ({ cls := "ContextProfiler", name := "findInstrChild", desc := "(II)I" } : Jvm.MethodName) prog_1_method_20_code (4 : Nat) (Option.some Jvm.ClassFile.FieldType.int)).before args0 about1 = true := code_word (m := ⟨2, 4⟩) (meth := k2m4) (c := k2c4) (by decide +kernel) rfl rfl rfl (by decide +kernel)
set_option maxRecDepth 65536 in
theorem w_c16 : (Jvm.Cond.code ({ cls := "ContextProfiler", name := "findSampledChild", desc := "(II)I" } : Jvm.MethodName) prog_1_method_23_code (4 : Nat) (Option.some Jvm.ClassFile.FieldType.int)).before args0 about1 = true := code_word (m := ⟨2, 5⟩) (meth := k2m5) (c := k2c5) (by decide +kernel) rfl rfl rfl (by decide +kernel)
def codes1 : List Jvm.Cond := [Jvm.Cond.code x code maxLocals ret, Jvm.Cond.code ({ cls := "ContextProfiler", name := "<init>", desc := "(III)V" } : Jvm.MethodName) prog_1_method_1_code (4 : Nat) (Option.none : Option Jvm.ClassFile.FieldType), Jvm.Cond.code ({ cls := "java/lang/Object", name := "<init>", desc := "()V" } : Jvm.MethodName) object_method_1_code (1 : Nat) (Option.none : Option Jvm.ClassFile.FieldType), Jvm.Cond.code ({ cls := "ContextProfiler", name := "clamp", desc := "(III)I" } : Jvm.MethodName) prog_1_method_2_code (4 : Nat) (Option.some Jvm.ClassFile.FieldType.int), Jvm.Cond.code ({ cls := "ContextProfiler", name := "reset", desc := "()V" } : Jvm.MethodName) prog_1_method_3_code (2 : Nat) (Option.none : Option Jvm.ClassFile.FieldType), Jvm.Cond.code ({ cls := "ContextProfiler", name := "clearTrees", desc := "()V" } : Jvm.MethodName) prog_1_method_4_code (2 : Nat) (Option.none : Option Jvm.ClassFile.FieldType), Jvm.Cond.code ({ cls := "ContextProfiler", name := "pushQuery", desc := "(I)Z" } : Jvm.MethodName) prog_1_method_26_code (2 : Nat) (Option.some Jvm.ClassFile.FieldType.boolean), Jvm.Cond.code ({ cls := "ContextProfiler", name := "info", desc := "(I)I" } : Jvm.MethodName) prog_1_method_34_code (2 : Nat) (Option.some Jvm.ClassFile.FieldType.int), Jvm.Cond.code ({ cls := "ContextProfiler", name := "self", desc := "()I" } : Jvm.MethodName) prog_1_method_29_code (2 : Nat) (Option.some Jvm.ClassFile.FieldType.int), Jvm.Cond.code ({ cls := "ContextProfiler", name := "queryInstrNode", desc := "()I" } : Jvm.MethodName) prog_1_method_27_code (4 : Nat) (Option.some Jvm.ClassFile.FieldType.int), Jvm.Cond.code ({ cls := "ContextProfiler", name := "inclusive", desc := "()I" } : Jvm.MethodName) prog_1_method_30_code (2 : Nat) (Option.some Jvm.ClassFile.FieldType.int), Jvm.Cond.code ({ cls := "ContextProfiler", name := "lost", desc := "()I" } : Jvm.MethodName) prog_1_method_31_code (2 : Nat) (Option.some Jvm.ClassFile.FieldType.int), Jvm.Cond.code ({ cls := "ContextProfiler", name := "sampledSelf", desc := "()I" } : Jvm.MethodName) prog_1_method_32_code (2 : Nat) (Option.some Jvm.ClassFile.FieldType.int), Jvm.Cond.code ({ cls := "ContextProfiler", name := "querySampledNode", desc := "()I" } : Jvm.MethodName) prog_1_method_28_code (4 : Nat) (Option.some Jvm.ClassFile.FieldType.int), Jvm.Cond.code ({ cls := "ContextProfiler", name := "clearQuery", desc := "()V" } : Jvm.MethodName) prog_1_method_25_code (1 : Nat) (Option.none : Option Jvm.ClassFile.FieldType), Jvm.Cond.code ({ cls := "ContextProfiler", name := "findInstrChild", desc := "(II)I" } : Jvm.MethodName) prog_1_method_20_code (4 : Nat) (Option.some Jvm.ClassFile.FieldType.int), Jvm.Cond.code ({ cls := "ContextProfiler", name := "findSampledChild", desc := "(II)I" } : Jvm.MethodName) prog_1_method_23_code (4 : Nat) (Option.some Jvm.ClassFile.FieldType.int)]
set_option maxRecDepth 65536 in
theorem codes_eq : words1.filter isCode = codes1 := rfl
theorem w_codes : ∀ c ∈ words1.filter isCode, c.before args0 about1 = true := by
  rw [codes_eq]
  intro c hc
  simp only [codes1, List.mem_cons, List.not_mem_nil, or_false] at hc
  rcases hc with rfl | rfl | rfl | rfl | rfl | rfl | rfl | rfl | rfl | rfl | rfl | rfl | rfl | rfl | rfl | rfl | rfl
  · exact w_c0
  · exact w_c1
  · exact w_c2
  · exact w_c3
  · exact w_c4
  · exact w_c5
  · exact w_c6
  · exact w_c7
  · exact w_c8
  · exact w_c9
  · exact w_c10
  · exact w_c11
  · exact w_c12
  · exact w_c13
  · exact w_c14
  · exact w_c15
  · exact w_c16
set_option maxRecDepth 65536 in
theorem w_t1 : (words1.take 24).all (fun c => isCode c || c.before args0 about1) = true := by decide +kernel
set_option maxRecDepth 65536 in
theorem w_t2 : ((words1.drop 24).take 24).all (fun c => isCode c || c.before args0 about1) = true := by decide +kernel
set_option maxRecDepth 65536 in
theorem w_t3 : (((words1.drop 24).drop 24).take 24).all (fun c => isCode c || c.before args0 about1) = true := by decide +kernel
set_option maxRecDepth 65536 in
theorem w_t4 : ((((words1.drop 24).drop 24).drop 24).take 24).all (fun c => isCode c || c.before args0 about1) = true := by decide +kernel
set_option maxRecDepth 65536 in
theorem w_t5 : (((((words1.drop 24).drop 24).drop 24).drop 24).take 24).all (fun c => isCode c || c.before args0 about1) = true := by decide +kernel
set_option maxRecDepth 65536 in
theorem w_t6 : (((((words1.drop 24).drop 24).drop 24).drop 24).drop 24).all (fun c => isCode c || c.before args0 about1) = true := by decide +kernel
theorem w_tables : (allAtoms (Jvm.Cond.code x code maxLocals ret :: tables_1)).before args0 about1 = true := by
  rw [allAtoms_all]
  show words1.all (fun c => c.before args0 about1) = true
  refine all_split ?_ w_codes
  rw [← List.take_append_drop 24 words1, List.all_append, w_t1, ← List.take_append_drop 24 (words1.drop 24), List.all_append, w_t2, ← List.take_append_drop 24 ((words1.drop 24).drop 24), List.all_append, w_t3, ← List.take_append_drop 24 (((words1.drop 24).drop 24).drop 24), List.all_append, w_t4, ← List.take_append_drop 24 ((((words1.drop 24).drop 24).drop 24).drop 24), List.all_append, w_t5, w_t6]
  rfl
set_option maxRecDepth 65536 in
theorem w_case : (Jvm.Cond.and given_1 narrow_1).before args0 about1 = true := by decide +kernel
theorem w_applies : (headSpec (Jvm.Cond.code x code maxLocals ret :: tables_1) room_1).applies x e0.platform about1 = true :=
  (Spec.applies_iff w_frames).mpr ⟨w_running, w_runnable, w_alone, w_named, w_hears, w_ripe, w_room, w_tables⟩
theorem atStart : AtStart classFile x code maxLocals ret World_1 tables_1 room_1 Calls_1 rest_1 Pre_1 launch0 p0 e0 about1 theMethod args0 below0 :=
  ⟨lists_1, trivial, launch0.admits_env _ _ _, launch0.least_env, fairChoices_fair.cas, fairChoices_fair.clock, w_frames, w_args, w_heap, w_applies, trivial, trivial, w_case⟩
end start1
theorem witness_1 : WitnessClaimed_1 := ⟨start1.p0, start1.e0, start1.about1, start1.theMethod, start1.args0, start1.below0, start1.atStart⟩
end Jvm.Pilot.@@N@@
