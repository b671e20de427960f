import JvmDerived
import JvmDerived.Pilot.@@N@@Statement
import JvmDerived.Pilot.@@N@@Code
set_option linter.unusedVariables false
set_option linter.unusedSimpArgs false
namespace Jvm.RoadKit
open Sem ClassFile Op Lib Jvm.Stand Jvm.Free Jvm.LawKit
section New
variable {p : Program} {l : Launch} {e : Env} {R : Room} {s : State} {m : MethodId} {args : Array Value} {below : List Frame} {meth : Method} {c : Code} {T : State} {locs : List Loc} {cells slots : Nat}
theorem retI (X : Stand p l e R s m args below meth c T locs cells slots) (hx : p.tables.exec = Jvm.exec) {pc : Nat} {Ls : Array Slot} {z : Int32} {rest : List Value} (hret : meth.sig.returnType = some .int) (hd : decode c.code pc = .ok (.ireturn, 1)) {fs : List Frame}
    (hl : ∀ (f : JFrame) (acts : List Action), f.method = m → f.locked = none → f.entered = [] → (doReturn e (T.setTop f) acts (some (.int z))).1 = T.setFrames fs) : Steps p.tables e below (T.setTop (mkF m pc Ls (.int z :: rest))) (T.setFrames fs) := by
  have hm' : T.vm.method? m = some meth := X.method'
  have hn : narrow .int (.int z) = .int z := rfl
  show Steps p.tables e below (T.setTop { method := m, pc := pc, locals := Ls, stack := _ :: rest, locked := none }) _
  jvm_step X.here [X.here.top, hx, hd, hm', hret, hn]
  first | (intro acts; rw [hl _ acts rfl rfl rfl]) | rw [hl _ _ rfl rfl rfl]
  exact Steps.refl _
end New
end Jvm.RoadKit
namespace Jvm.Own
open Jvm Jvm.ClassFile Sem Op Lib Jvm.Free Jvm.Stand Jvm.LawKit Jvm.RoadKit
/-! ## 1. Local variables: what the walk knows of them (L) and what they are (r) -/
def rv (ρ : Nat → Addr) : Value → Value
  | .ref k => .ref (ρ k)
  | .int x => .int x
  | .long x => .long x
  | .float x => .float x
  | .double x => .double x
  | .null => .null
  | .retAddr x => .retAddr x
def rs (ρ : Nat → Addr) : Slot → Slot
  | .val v => .val (rv ρ v)
  | .unset => .unset
  | .second => .second
theorem rv_cat (ρ : Nat → Addr) (v : Value) : (rv ρ v).category = v.category := by cases v <;> rfl
def WR (f : Nat → Option Slot) : Prop := (∀ i v, f i = some (.val v) → v.category = 2 → f (i + 1) = some .second) ∧ (∀ i, f i = some .second → ∃ j v, i = j + 1 ∧ f j = some (.val v) ∧ v.category = 2)
def up (f : Nat → Option Slot) (i : Nat) (x : Slot) : Nat → Option Slot := fun k => if k = i then some x else f k
def C1 (s : Option Slot) : Prop := s = some .unset ∨ ∃ w, s = some (.val w) ∧ w.category = 1
theorem C1.not2 {s : Option Slot} (h : C1 s) : s ≠ some .second ∧ ∀ v, s = some (.val v) → v.category ≠ 2 := by
  rcases h with rfl | ⟨w, rfl, h⟩
  · exact ⟨nofun, nofun⟩
  · exact ⟨nofun, fun v e q => by cases e; omega⟩
theorem up_at (f : Nat → Option Slot) (i : Nat) (x : Slot) : up f i x i = some x := by simp [up]
theorem up_ne (f : Nat → Option Slot) {i k : Nat} (x : Slot) (h : k ≠ i) : up f i x k = f k := by simp [up, h]
theorem WR.one {f : Nat → Option Slot} {i : Nat} {x : Slot} (h : WR f) (hi : C1 (f i)) (hx : C1 (some x)) : WR (up f i x) := by
  obtain ⟨n1, n2⟩ := hi.not2
  obtain ⟨m1, m2⟩ := hx.not2
  constructor
  · intro k v hk hv
    by_cases e : k = i
    · subst e; rw [up_at] at hk; exact absurd hv (m2 v hk)
    · rw [up_ne _ _ e] at hk
      have q := h.1 k v hk hv
      by_cases e2 : k + 1 = i
      · rw [e2] at q; exact absurd q n1
      · rw [up_ne _ _ e2]; exact q
  · intro k hk
    by_cases e : k = i
    · subst e; rw [up_at] at hk; exact absurd hk m1
    · rw [up_ne _ _ e] at hk
      obtain ⟨j, v, e1, e2, e3⟩ := h.2 k hk
      refine ⟨j, v, e1, ?_, e3⟩
      by_cases e4 : j = i
      · rw [e4] at e2; exact absurd e3 (n2 v e2)
      · rw [up_ne _ _ e4]; exact e2
theorem WR.clr {f : Nat → Option Slot} {j : Nat} {v : Value} (h : WR f) (hj : f j = some (.val v)) (hv : v.category = 2) : WR (up (up f j .unset) (j + 1) .unset) := by
  have q := h.1 j v hj hv
  constructor
  · intro k w hk hw
    by_cases e : k = j + 1
    · subst e; rw [up_at] at hk; cases hk
    · rw [up_ne _ _ e] at hk
      by_cases e2 : k = j
      · subst e2; rw [up_at] at hk; cases hk
      · rw [up_ne _ _ e2] at hk
        have q2 := h.1 k w hk hw
        by_cases e3 : k + 1 = j
        · rw [e3] at q2; rw [hj] at q2; cases q2
        · rw [up_ne _ _ (show k + 1 ≠ j + 1 by omega), up_ne _ _ e3]; exact q2
  · intro k hk
    by_cases e : k = j + 1
    · subst e; rw [up_at] at hk; cases hk
    · rw [up_ne _ _ e] at hk
      by_cases e2 : k = j
      · subst e2; rw [up_at] at hk; cases hk
      · rw [up_ne _ _ e2] at hk
        obtain ⟨i, w, e3, e4, e5⟩ := h.2 k hk
        refine ⟨i, w, e3, ?_, e5⟩
        by_cases e6 : i = j + 1
        · rw [e6, q] at e4; cases e4
        · rw [up_ne _ _ e6, up_ne _ _ (show i ≠ j by omega)]; exact e4
theorem WR.two {f : Nat → Option Slot} {i : Nat} {v : Value} (h : WR f) (h1 : C1 (f i)) (h2 : C1 (f (i + 1))) (hv : v.category = 2) : WR (up (up f i (.val v)) (i + 1) .second) := by
  obtain ⟨n1, n2⟩ := h1.not2
  obtain ⟨m1, m2⟩ := h2.not2
  constructor
  · intro k w hk hw
    by_cases e : k = i + 1
    · subst e; rw [up_at] at hk; cases hk
    · rw [up_ne _ _ e] at hk
      by_cases e2 : k = i
      · subst e2; exact up_at _ _ _
      · rw [up_ne _ _ e2] at hk
        have q := h.1 k w hk hw
        by_cases e3 : k + 1 = i
        · rw [e3] at q; exact absurd q n1
        · rw [up_ne _ _ (show k + 1 ≠ i + 1 by omega), up_ne _ _ e3]; exact q
  · intro k hk
    by_cases e : k = i + 1
    · exact ⟨i, v, e, by rw [up_ne _ _ (show i ≠ i + 1 by omega), up_at], hv⟩
    · rw [up_ne _ _ e] at hk
      by_cases e2 : k = i
      · subst e2; rw [up_at] at hk; cases hk
      · rw [up_ne _ _ e2] at hk
        obtain ⟨j, w, e3, e4, e5⟩ := h.2 k hk
        refine ⟨j, w, e3, ?_, e5⟩
        by_cases e6 : j = i + 1
        · rw [e6] at e4; exact absurd e5 (m2 w e4)
        · by_cases e7 : j = i
          · omega
          · rw [up_ne _ _ e6, up_ne _ _ e7]; exact e4
theorem up_arr {r : Array Slot} {i : Nat} (hi : i < r.size) (x : Slot) : (fun k => (r.setIfInBounds i x)[k]?) = up (fun k => r[k]?) i x := by
  funext k
  show (r.setIfInBounds i x)[k]? = _
  rw [Array.getElem?_setIfInBounds]
  by_cases e : i = k
  · subst e; simp [up, hi]
  · rw [if_neg e, up_ne _ _ (Ne.symm e)]
theorem up_lst {L : List Slot} {i : Nat} (hi : i < L.length) (x : Slot) : (fun k => (L.set i x)[k]?) = up (fun k => L[k]?) i x := by
  funext k
  show (L.set i x)[k]? = _
  rw [List.getElem?_set]
  by_cases e : i = k
  · subst e; simp [up, hi]
  · rw [if_neg e, up_ne _ _ (Ne.symm e)]
def SR (ρ : Nat → Addr) (L : List Slot) (r : Array Slot) : Prop :=
  r.size = L.length ∧ (∀ (i : Nat) (v : Value), L[i]? = some (.val v) → r[i]? = some (.val (rv ρ v))) ∧ (∀ (i : Nat), L[i]? = some .second → r[i]? = some .second) ∧ WR (fun k => L[k]?) ∧ WR (fun k => r[k]?)
theorem SR.get {ρ : Nat → Addr} {L : List Slot} {r : Array Slot} (h : SR ρ L r) {i : Nat} {v : Value} (e : L[i]? = some (.val v)) : r[i]? = some (.val (rv ρ v)) := h.2.1 i v e
/-- a store of one word over nothing or one word -/
theorem SR.st1 {ρ : Nat → Addr} {L : List Slot} {r : Array Slot} {i : Nat} {v : Value} (h : SR ρ L r) (ho : C1 L[i]?) (hv : v.category = 1) :
    ∃ r', storeLocals r i (rv ρ v) = some r' ∧ SR ρ (L.set i (.val v)) r' := by
  obtain ⟨h1, h2, h3, h4, h5⟩ := h
  have hi : i < L.length := by
    rcases ho with h | ⟨w, h, -⟩ <;> exact (List.getElem?_eq_some_iff.mp h).1
  have hir : i < r.size := by omega
  have hcv : (rv ρ v).category = 1 := by rw [rv_cat]; exact hv
  have hcx : C1 (some (Slot.val (rv ρ v))) := Or.inr ⟨_, rfl, hcv⟩
  obtain ⟨n1, n2⟩ := ho.not2
  have fin : ∀ r' : Array Slot, r'.size = r.size → WR (fun k => r'[k]?) → r'[i]? = some (.val (rv ρ v)) → (∀ k, k ≠ i → r'[k]? = r[k]? ∨ ∀ s, L[k]? = some s → s = .unset) → SR ρ (L.set i (.val v)) r' := by
    intro r' a1 a2 a3 a4
    refine ⟨by rw [a1, h1, List.length_set], ?_, ?_, by rw [up_lst hi]; exact h4.one ho (Or.inr ⟨v, rfl, hv⟩), a2⟩
    · intro k w hk
      rw [List.getElem?_set] at hk
      by_cases e : i = k
      · subst e; simp [hi] at hk; subst hk; exact a3
      · rw [if_neg e] at hk
        rcases a4 k (Ne.symm e) with q | q
        · rw [q]; exact h2 k w hk
        · cases q _ hk
    · intro k hk
      rw [List.getElem?_set] at hk
      by_cases e : i = k
      · subst e; simp [hi] at hk
      · rw [if_neg e] at hk
        rcases a4 k (Ne.symm e) with q | q
        · rw [q]; exact h3 k hk
        · cases q _ hk
  obtain ⟨q, hq⟩ : ∃ q, r[i]? = some q := ⟨_, Array.getElem?_eq_getElem hir⟩
  have plain : C1 (r[i]?) → ∃ r', storeLocals r i (rv ρ v) = some r' ∧ SR ρ (L.set i (.val v)) r' := by
    intro hC
    have hs : storeLocals r i (rv ρ v) = some (r.setIfInBounds i (.val (rv ρ v))) := by
      rcases hC with e | ⟨w, e, hw⟩
      · exact XS.store1 e (Or.inl rfl) hcv
      · exact XS.store1 e (Or.inr ⟨w, rfl, hw⟩) hcv
    refine ⟨_, hs, fin _ (by simp) (by rw [up_arr hir]; exact h5.one hC hcx) (by simp [hir]) ?_⟩
    intro k hk
    exact Or.inl (Array.getElem?_setIfInBounds_ne (Ne.symm hk))
  cases q with
  | unset => exact plain (Or.inl hq)
  | val w =>
    by_cases hw : w.category = 2
    · have q2 := h5.1 i w hq hw
      have hj : i + 1 < r.size := (Array.getElem?_eq_some_iff.mp q2).1
      have Lu : ∀ k, (k = i ∨ k = i + 1) → ∀ s, L[k]? = some s → s = .unset := by
        intro k hk s hs
        cases s with
        | unset => rfl
        | second =>
          rcases hk with rfl | rfl
          · exact absurd hs n1
          · obtain ⟨j, u, e1, e2, e3⟩ := h4.2 _ hs
            have : j = i := by omega
            subst this
            exact absurd e3 (n2 u e2)
        | val u =>
          rcases hk with rfl | rfl
          · have := h2 _ _ hs
            rw [hq] at this
            cases this
            rw [rv_cat] at hw
            exact absurd hw (n2 u hs)
          · have := h2 _ _ hs
            have q3 : r[i + 1]? = some .second := q2
            rw [q3] at this; cases this
      have hs : storeLocals r i (rv ρ v) = some ((r.setIfInBounds (i + 1) .unset).setIfInBounds i (.val (rv ρ v))) := by
        simp [storeLocals, storeSelf, setAt, hq, (Array.getElem?_eq_some_iff.mp hq).2, hw, hj, hir, hcv]
      refine ⟨_, hs, fin _ (by simp) ?_ (by simp [hir]) ?_⟩
      · have e : (fun k => ((r.setIfInBounds (i + 1) .unset).setIfInBounds i (.val (rv ρ v)))[k]?) = up (up (up (fun k => r[k]?) i .unset) (i + 1) .unset) i (.val (rv ρ v)) := by
          rw [up_arr (by simpa using hir), up_arr hj]
          funext k
          simp only [up]
          by_cases e : k = i
          · simp [e]
          · simp [e]
        rw [e]
        exact (h5.clr hq hw).one (Or.inl (by simp [up])) hcx
      · intro k hk
        by_cases e : k = i + 1
        · exact Or.inr (Lu k (Or.inr e))
        · left
          rw [Array.getElem?_setIfInBounds_ne (Ne.symm hk), Array.getElem?_setIfInBounds_ne (Ne.symm e)]
    · refine plain (Or.inr ⟨w, hq, ?_⟩)
      cases w <;> simp [Value.category] at hw ⊢
  | second =>
    obtain ⟨j, u, e1, e2, e3⟩ := h5.2 i hq
    subst e1
    have e2' : r[j]? = some (.val u) := e2
    have hj : j < r.size := by omega
    have Lu : ∀ s, L[j]? = some s → s = .unset := by
      intro s hs
      cases s with
      | unset => rfl
      | second => have := h3 _ hs; rw [e2'] at this; cases this
      | val w =>
        have := h2 _ _ hs
        rw [e2'] at this
        cases this
        rw [rv_cat] at e3
        exact absurd (h4.1 j w hs e3) n1
    have hs : storeLocals r (j + 1) (rv ρ v) = some ((r.setIfInBounds j .unset).setIfInBounds (j + 1) (.val (rv ρ v))) := by
      simp [storeLocals, storeSelf, setAt, hq, (Array.getElem?_eq_some_iff.mp hq).2, hj, hir, hcv]
    refine ⟨_, hs, fin _ (by simp) ?_ (by simp [hir]) ?_⟩
    · have e : (fun k => ((r.setIfInBounds j .unset).setIfInBounds (j + 1) (.val (rv ρ v)))[k]?) = up (up (up (fun k => r[k]?) j .unset) (j + 1) .unset) (j + 1) (.val (rv ρ v)) := by
        rw [up_arr (by simpa using hir), up_arr hj]
        funext k
        simp only [up]
        by_cases e : k = j + 1
        · simp [e]
        · simp [e]
      rw [e]
      exact (h5.clr e2 e3).one (Or.inl (by simp [up])) hcx
    · intro k hk
      by_cases e : k = j
      · subst e; exact Or.inr Lu
      · left
        rw [Array.getElem?_setIfInBounds_ne (Ne.symm hk), Array.getElem?_setIfInBounds_ne (Ne.symm e)]
end Jvm.Own

namespace Jvm.Own
open Jvm Jvm.ClassFile Sem Op Lib Jvm.Free Jvm.Stand Jvm.LawKit Jvm.RoadKit
theorem cat12 (w : Value) (h : ¬ w.category = 2) : w.category = 1 := by cases w <;> simp [Value.category] at h ⊢
theorem getset_ne {r : Array Slot} {i k : Nat} {x t : Slot} (h : r[k]? = some t) (ne : i ≠ k) (hk : k < (r.setIfInBounds i x).size) : (r.setIfInBounds i x)[k] = t := by
  have q : (r.setIfInBounds i x)[k]? = some t := by rw [Array.getElem?_setIfInBounds_ne ne]; exact h
  exact (Array.getElem?_eq_some_iff.mp q).2
/-- a store of two words over nothing or single words -/
theorem SR.st2 {ρ : Nat → Addr} {L : List Slot} {r : Array Slot} {i : Nat} {v : Value} (h : SR ρ L r) (ho : C1 L[i]?) (ho' : C1 L[i + 1]?) (hv : v.category = 2) :
    ∃ r', storeLocals r i (rv ρ v) = some r' ∧ SR ρ ((L.set i (.val v)).set (i + 1) .second) r' := by
  obtain ⟨h1, h2, h3, h4, h5⟩ := h
  have hi : i + 1 < L.length := by
    rcases ho' with h | ⟨w, h, -⟩ <;> exact (List.getElem?_eq_some_iff.mp h).1
  have hir1 : i + 1 < r.size := by omega
  have hir : i < r.size := by omega
  have hcv : (rv ρ v).category = 2 := by rw [rv_cat]; exact hv
  obtain ⟨n1, n2⟩ := ho.not2
  obtain ⟨m1, m2⟩ := ho'.not2
  have nr : ∀ w, r[i]? = some (.val w) → ∀ u, L[i]? = some (.val u) → w.category = 2 → False := by
    intro w hw u hu hc
    have := h2 _ _ hu
    rw [hw] at this; cases this
    rw [rv_cat] at hc
    exact n2 u hu hc
  have fin : ∀ r' : Array Slot, r'.size = r.size → WR (fun k => r'[k]?) → r'[i]? = some (.val (rv ρ v)) → r'[i + 1]? = some .second → (∀ k, k ≠ i → k ≠ i + 1 → r'[k]? = r[k]? ∨ ∀ s, L[k]? = some s → s = .unset) → SR ρ ((L.set i (.val v)).set (i + 1) .second) r' := by
    intro r' a1 a2 a3 a3' a4
    refine ⟨by rw [a1, h1]; simp, ?_, ?_, by rw [up_lst (by simpa using hi), up_lst (by omega)]; exact h4.two ho ho' hv, a2⟩
    · intro k w hk
      rw [List.getElem?_set] at hk
      by_cases e : i + 1 = k
      · subst e; simp [hi] at hk
      · rw [if_neg e, List.getElem?_set] at hk
        by_cases e2 : i = k
        · subst e2; simp [show i < L.length by omega] at hk; subst hk; exact a3
        · rw [if_neg e2] at hk
          rcases a4 k (Ne.symm e2) (Ne.symm e) with q | q
          · rw [q]; exact h2 k w hk
          · cases q _ hk
    · intro k hk
      rw [List.getElem?_set] at hk
      by_cases e : i + 1 = k
      · subst e; exact a3'
      · rw [if_neg e, List.getElem?_set] at hk
        by_cases e2 : i = k
        · subst e2; simp [show i < L.length by omega] at hk
        · rw [if_neg e2] at hk
          rcases a4 k (Ne.symm e2) (Ne.symm e) with q | q
          · rw [q]; exact h3 k hk
          · cases q _ hk
  have Lun2 : ∀ u, r[i + 1]? = some (.val u) → u.category = 2 → ∀ s, L[i + 2]? = some s → s = .unset := by
    intro u hu hc s hs
    have q2 : r[i + 2]? = some .second := h5.1 (i + 1) u hu hc
    cases s with
    | unset => rfl
    | second =>
      obtain ⟨j, w, e1, e2, e3⟩ := h4.2 _ hs
      have : j = i + 1 := by omega
      subst this
      exact absurd e3 (m2 w e2)
    | val w => have := h2 _ _ hs; rw [q2] at this; cases this
  obtain ⟨q, hq⟩ : ∃ q, r[i]? = some q := ⟨_, Array.getElem?_eq_getElem hir⟩
  obtain ⟨q1, hq1⟩ : ∃ q, r[i + 1]? = some q := ⟨_, Array.getElem?_eq_getElem hir1⟩
  have ne1 : i + 1 ≠ i := by omega
  cases q with
  | unset =>
    have hC : C1 (r[i]?) := Or.inl hq
    cases q1 with
    | unset =>
      refine ⟨(r.setIfInBounds i (.val (rv ρ v))).setIfInBounds (i + 1) .second, by simp [storeLocals, storeSelf, setAt, hq, (Array.getElem?_eq_some_iff.mp hq).2, hq1, (Array.getElem?_eq_some_iff.mp hq1).2, hir, hir1, hcv, Array.getElem?_setIfInBounds], fin _ (by simp) ?_ (by simp [hir, Array.getElem?_setIfInBounds]) (by simp [hir1]) ?_⟩
      · rw [up_arr (by simpa using hir1), up_arr hir]; exact h5.two hC (Or.inl hq1) hcv
      · intro k a b; left; rw [Array.getElem?_setIfInBounds_ne (Ne.symm b), Array.getElem?_setIfInBounds_ne (Ne.symm a)]
    | second => obtain ⟨j, w, e1, e2, e3⟩ := h5.2 _ hq1; have : j = i := by omega
                subst this; have e2' : r[j]? = some (.val w) := e2; rw [hq] at e2'; cases e2'
    | val u =>
      by_cases hu : u.category = 2
      · have q2 : r[i + 2]? = some .second := h5.1 (i + 1) u hq1 hu
        have hi2 : i + 2 < r.size := (Array.getElem?_eq_some_iff.mp q2).1
        refine ⟨((r.setIfInBounds i (.val (rv ρ v))).setIfInBounds (i + 2) .unset).setIfInBounds (i + 1) .second, by simp [storeLocals, storeSelf, setAt, hq, (Array.getElem?_eq_some_iff.mp hq).2, hq1, (Array.getElem?_eq_some_iff.mp hq1).2, hir, hir1, hi2, hcv, hu, Array.getElem?_setIfInBounds], fin _ (by simp) ?_ (by simp [hir, Array.getElem?_setIfInBounds]) (by simp [hir1]) ?_⟩
        · have e : (fun k => (((r.setIfInBounds i (.val (rv ρ v))).setIfInBounds (i + 2) .unset).setIfInBounds (i + 1) .second)[k]?) = up (up (up (up (fun k => r[k]?) (i + 1) .unset) (i + 2) .unset) i (.val (rv ρ v))) (i + 1) .second := by
            rw [up_arr (by simpa using hir1), up_arr (by simpa using hi2), up_arr hir]
            funext k
            simp only [up]
            by_cases e : k = i + 1
            · simp [e]
            · by_cases e2 : k = i
              · simp [e2]
              · simp [e, e2]
          rw [e]
          exact (h5.clr hq1 hu).two (Or.inl (by simp [up, hq] <;> omega)) (Or.inl (by simp [up] <;> omega)) hcv
        · intro k a b
          by_cases e : k = i + 2
          · subst e; exact Or.inr (Lun2 u hq1 hu)
          · left; rw [Array.getElem?_setIfInBounds_ne (Ne.symm b), Array.getElem?_setIfInBounds_ne (Ne.symm e), Array.getElem?_setIfInBounds_ne (Ne.symm a)]
      · refine ⟨(r.setIfInBounds i (.val (rv ρ v))).setIfInBounds (i + 1) .second, by simp [storeLocals, storeSelf, setAt, hq, (Array.getElem?_eq_some_iff.mp hq).2, hq1, (Array.getElem?_eq_some_iff.mp hq1).2, hir, hir1, hcv, hu, Array.getElem?_setIfInBounds], fin _ (by simp) ?_ (by simp [hir, Array.getElem?_setIfInBounds]) (by simp [hir1]) ?_⟩
        · rw [up_arr (by simpa using hir1), up_arr hir]; exact h5.two hC (Or.inr ⟨u, hq1, cat12 u hu⟩) hcv
        · intro k a b; left; rw [Array.getElem?_setIfInBounds_ne (Ne.symm b), Array.getElem?_setIfInBounds_ne (Ne.symm a)]
  | val w =>
    by_cases hw : w.category = 2
    · have q2 : r[i + 1]? = some .second := h5.1 i w hq hw
      have Lu : ∀ s, L[i]? = some s → s = .unset := by
        intro s hs
        cases s with
        | unset => rfl
        | second => exact absurd hs n1
        | val u => exact (nr w hq u hs hw).elim
      refine ⟨((r.setIfInBounds (i + 1) .unset).setIfInBounds i (.val (rv ρ v))).setIfInBounds (i + 1) .second, by simp [storeLocals, storeSelf, setAt, hq, (Array.getElem?_eq_some_iff.mp hq).2, hw, hir, hir1, hcv, Array.getElem?_setIfInBounds], fin _ (by simp) ?_ (by simp [hir, Array.getElem?_setIfInBounds]) (by simp [hir1]) ?_⟩
      · have e : (fun k => (((r.setIfInBounds (i + 1) .unset).setIfInBounds i (.val (rv ρ v))).setIfInBounds (i + 1) .second)[k]?) = up (up (up (up (fun k => r[k]?) i .unset) (i + 1) .unset) i (.val (rv ρ v))) (i + 1) .second := by
          rw [up_arr (by simpa using hir1), up_arr (by simpa using hir), up_arr hir1]
          funext k
          simp only [up]
          by_cases e : k = i + 1
          · simp [e]
          · by_cases e2 : k = i
            · simp [e2]
            · simp [e, e2]
        rw [e]
        exact (h5.clr hq hw).two (Or.inl (by simp [up] <;> omega)) (Or.inl (by simp [up] <;> omega)) hcv
      · intro k a b
        left; rw [Array.getElem?_setIfInBounds_ne (Ne.symm b), Array.getElem?_setIfInBounds_ne (Ne.symm a), Array.getElem?_setIfInBounds_ne (Ne.symm b)]
    · have hC : C1 (r[i]?) := Or.inr ⟨w, hq, cat12 w hw⟩
      cases q1 with
      | unset =>
        refine ⟨(r.setIfInBounds i (.val (rv ρ v))).setIfInBounds (i + 1) .second, by simp [storeLocals, storeSelf, setAt, hq, (Array.getElem?_eq_some_iff.mp hq).2, hq1, (Array.getElem?_eq_some_iff.mp hq1).2, hw, hir, hir1, hcv, Array.getElem?_setIfInBounds], fin _ (by simp) ?_ (by simp [hir, Array.getElem?_setIfInBounds]) (by simp [hir1]) ?_⟩
        · rw [up_arr (by simpa using hir1), up_arr hir]; exact h5.two hC (Or.inl hq1) hcv
        · intro k a b; left; rw [Array.getElem?_setIfInBounds_ne (Ne.symm b), Array.getElem?_setIfInBounds_ne (Ne.symm a)]
      | second => obtain ⟨j, u, e1, e2, e3⟩ := h5.2 _ hq1; have : j = i := by omega
                  subst this; have e2' : r[j]? = some (.val u) := e2; rw [hq] at e2'; cases e2'; exact absurd e3 hw
      | val u =>
        by_cases hu : u.category = 2
        · have q2 : r[i + 2]? = some .second := h5.1 (i + 1) u hq1 hu
          have hi2 : i + 2 < r.size := (Array.getElem?_eq_some_iff.mp q2).1
          refine ⟨((r.setIfInBounds i (.val (rv ρ v))).setIfInBounds (i + 2) .unset).setIfInBounds (i + 1) .second, by simp [storeLocals, storeSelf, setAt, hq, (Array.getElem?_eq_some_iff.mp hq).2, hq1, (Array.getElem?_eq_some_iff.mp hq1).2, hw, hir, hir1, hi2, hcv, hu, Array.getElem?_setIfInBounds], fin _ (by simp) ?_ (by simp [hir, Array.getElem?_setIfInBounds]) (by simp [hir1]) ?_⟩
          · have e : (fun k => (((r.setIfInBounds i (.val (rv ρ v))).setIfInBounds (i + 2) .unset).setIfInBounds (i + 1) .second)[k]?) = up (up (up (up (fun k => r[k]?) (i + 1) .unset) (i + 2) .unset) i (.val (rv ρ v))) (i + 1) .second := by
              rw [up_arr (by simpa using hir1), up_arr (by simpa using hi2), up_arr hir]
              funext k
              simp only [up]
              by_cases e : k = i + 1
              · simp [e]
              · by_cases e2 : k = i
                · simp [e2]
                · simp [e, e2]
            rw [e]
            exact (h5.clr hq1 hu).two (Or.inr ⟨w, by simp [up, hq] <;> omega, cat12 w hw⟩) (Or.inl (by simp [up] <;> omega)) hcv
          · intro k a b
            by_cases e : k = i + 2
            · subst e; exact Or.inr (Lun2 u hq1 hu)
            · left; rw [Array.getElem?_setIfInBounds_ne (Ne.symm b), Array.getElem?_setIfInBounds_ne (Ne.symm e), Array.getElem?_setIfInBounds_ne (Ne.symm a)]
        · refine ⟨(r.setIfInBounds i (.val (rv ρ v))).setIfInBounds (i + 1) .second, by simp [storeLocals, storeSelf, setAt, hq, (Array.getElem?_eq_some_iff.mp hq).2, hq1, (Array.getElem?_eq_some_iff.mp hq1).2, hw, hir, hir1, hcv, hu, Array.getElem?_setIfInBounds], fin _ (by simp) ?_ (by simp [hir, Array.getElem?_setIfInBounds]) (by simp [hir1]) ?_⟩
          · rw [up_arr (by simpa using hir1), up_arr hir]; exact h5.two hC (Or.inr ⟨u, hq1, cat12 u hu⟩) hcv
          · intro k a b; left; rw [Array.getElem?_setIfInBounds_ne (Ne.symm b), Array.getElem?_setIfInBounds_ne (Ne.symm a)]
  | second =>
    obtain ⟨j, y, e1, e2, e3⟩ := h5.2 i hq
    subst e1
    have e2' : r[j]? = some (.val y) := e2
    have hj : j < r.size := by omega
    have Lu : ∀ s, L[j]? = some s → s = .unset := by
      intro s hs
      cases s with
      | unset => rfl
      | second => have := h3 _ hs; rw [e2'] at this; cases this
      | val w =>
        have := h2 _ _ hs
        rw [e2'] at this
        cases this
        rw [rv_cat] at e3
        exact absurd (h4.1 j w hs e3) n1
    have W5 := h5.clr e2 e3
    cases q1 with
    | unset =>
      refine ⟨((r.setIfInBounds j .unset).setIfInBounds (j + 1) (.val (rv ρ v))).setIfInBounds (j + 1 + 1) .second, by simp [storeLocals, storeSelf, setAt, hq, (Array.getElem?_eq_some_iff.mp hq).2, hq1, (Array.getElem?_eq_some_iff.mp hq1).2, getset_ne hq1 (show j ≠ j + 1 + 1 by omega), hj, hir, hir1, hcv, Array.getElem?_setIfInBounds], fin _ (by simp) ?_ (by simp [hir, Array.getElem?_setIfInBounds]) (by simp [hir1]) ?_⟩
      · have e : (fun k => (((r.setIfInBounds j .unset).setIfInBounds (j + 1) (.val (rv ρ v))).setIfInBounds (j + 1 + 1) .second)[k]?) = up (up (up (up (fun k => r[k]?) j .unset) (j + 1) .unset) (j + 1) (.val (rv ρ v))) (j + 1 + 1) .second := by
          rw [up_arr (by simpa using hir1), up_arr (by simpa using hir), up_arr hj]
          funext k
          simp only [up]
          by_cases e : k = j + 1 + 1
          · simp [e]
          · by_cases e2 : k = j + 1
            · simp [e2]
            · simp [e, e2]
        rw [e]
        exact W5.two (Or.inl (by simp [up] <;> omega)) (Or.inl (by simp [up, hq1] <;> omega)) hcv
      · intro k a b
        by_cases e : k = j
        · subst e; exact Or.inr Lu
        · left; rw [Array.getElem?_setIfInBounds_ne (Ne.symm b), Array.getElem?_setIfInBounds_ne (Ne.symm a), Array.getElem?_setIfInBounds_ne (Ne.symm e)]
    | second => obtain ⟨k, w, f1, f2, f3⟩ := h5.2 _ hq1; have : k = j + 1 := by omega
                subst this; have f2' : r[j + 1]? = some (.val w) := f2; rw [hq] at f2'; cases f2'
    | val u =>
      by_cases hu : u.category = 2
      · have q2 : r[j + 1 + 2]? = some .second := h5.1 (j + 1 + 1) u hq1 hu
        have hi2 : j + 1 + 2 < r.size := (Array.getElem?_eq_some_iff.mp q2).1
        refine ⟨(((r.setIfInBounds j .unset).setIfInBounds (j + 1) (.val (rv ρ v))).setIfInBounds (j + 1 + 2) .unset).setIfInBounds (j + 1 + 1) .second, by simp [storeLocals, storeSelf, setAt, hq, (Array.getElem?_eq_some_iff.mp hq).2, hq1, (Array.getElem?_eq_some_iff.mp hq1).2, getset_ne hq1 (show j ≠ j + 1 + 1 by omega), hj, hir, hir1, hi2, hcv, hu, Array.getElem?_setIfInBounds], fin _ (by simp) ?_ (by simp [hir, Array.getElem?_setIfInBounds]) (by simp [hir1]) ?_⟩
        · have e : (fun k => ((((r.setIfInBounds j .unset).setIfInBounds (j + 1) (.val (rv ρ v))).setIfInBounds (j + 1 + 2) .unset).setIfInBounds (j + 1 + 1) .second)[k]?) = up (up (up (up (up (up (fun k => r[k]?) j .unset) (j + 1) .unset) (j + 1 + 1) .unset) (j + 1 + 1 + 1) .unset) (j + 1) (.val (rv ρ v))) (j + 1 + 1) .second := by
            rw [up_arr (by simpa using hir1), up_arr (by simpa using hi2), up_arr (by simpa using hir), up_arr hj]
            funext k
            simp only [up]
            by_cases e : k = j + 1 + 1
            · simp [e]
            · by_cases e2 : k = j + 1
              · simp [e2]
              · simp [e, e2]
          rw [e]
          exact (W5.clr (j := j + 1 + 1) (v := u) (by simp [up, hq1] <;> omega) hu).two (Or.inl (by simp [up] <;> omega)) (Or.inl (by simp [up] <;> omega)) hcv
        · intro k a b
          by_cases e : k = j
          · subst e; exact Or.inr Lu
          · by_cases e4 : k = j + 1 + 2
            · subst e4; exact Or.inr (Lun2 u hq1 hu)
            · left; rw [Array.getElem?_setIfInBounds_ne (Ne.symm b), Array.getElem?_setIfInBounds_ne (Ne.symm e4), Array.getElem?_setIfInBounds_ne (Ne.symm a), Array.getElem?_setIfInBounds_ne (Ne.symm e)]
      · refine ⟨((r.setIfInBounds j .unset).setIfInBounds (j + 1) (.val (rv ρ v))).setIfInBounds (j + 1 + 1) .second, by simp [storeLocals, storeSelf, setAt, hq, (Array.getElem?_eq_some_iff.mp hq).2, hq1, (Array.getElem?_eq_some_iff.mp hq1).2, getset_ne hq1 (show j ≠ j + 1 + 1 by omega), hj, hir, hir1, hcv, hu, Array.getElem?_setIfInBounds], fin _ (by simp) ?_ (by simp [hir, Array.getElem?_setIfInBounds]) (by simp [hir1]) ?_⟩
        · have e : (fun k => (((r.setIfInBounds j .unset).setIfInBounds (j + 1) (.val (rv ρ v))).setIfInBounds (j + 1 + 1) .second)[k]?) = up (up (up (up (fun k => r[k]?) j .unset) (j + 1) .unset) (j + 1) (.val (rv ρ v))) (j + 1 + 1) .second := by
            rw [up_arr (by simpa using hir1), up_arr (by simpa using hir), up_arr hj]
            funext k
            simp only [up]
            by_cases e : k = j + 1 + 1
            · simp [e]
            · by_cases e2 : k = j + 1
              · simp [e2]
              · simp [e, e2]
          rw [e]
          exact W5.two (Or.inl (by simp [up] <;> omega)) (Or.inr ⟨u, by simp [up, hq1] <;> omega, cat12 u hu⟩) hcv
        · intro k a b
          by_cases e : k = j
          · subst e; exact Or.inr Lu
          · left; rw [Array.getElem?_setIfInBounds_ne (Ne.symm b), Array.getElem?_setIfInBounds_ne (Ne.symm a), Array.getElem?_setIfInBounds_ne (Ne.symm e)]
/-- which lists of slots are laid out well -/
def wfL : List Slot → Bool
  | [] => true
  | .unset :: t => wfL t
  | .second :: _ => false
  | [.val v] => decide (v.category = 1)
  | .val v :: .second :: t => decide (v.category = 2) && wfL t
  | .val v :: .unset :: t => decide (v.category = 1) && wfL t
  | .val v :: .val u :: t => decide (v.category = 1) && wfL (.val u :: t)
/-- the walk forgets the variables that the mask marks -/
def fg : List Bool → List Slot → List Slot
  | true :: b, _ :: t => .unset :: fg b t
  | false :: b, s :: t => s :: fg b t
  | _, t => t
theorem WR.nil : WR (fun k => ([] : List Slot)[k]?) := ⟨fun i v h => by simp at h, fun i h => by simp at h⟩
theorem WR.cons1 {t : List Slot} {s : Slot} (h : WR (fun k => t[k]?)) (hs : C1 (some s)) : WR (fun k => (s :: t)[k]?) := by
  obtain ⟨n1, n2⟩ := hs.not2
  constructor
  · intro i v hi hv
    cases i with
    | zero => exact absurd hv (n2 v (by simpa using hi))
    | succ i => have := h.1 i v (by simpa using hi) hv; simpa using this
  · intro i hi
    cases i with
    | zero => exact absurd (by simpa using hi) n1
    | succ i => obtain ⟨j, v, e1, e2, e3⟩ := h.2 i (by simpa using hi); exact ⟨j + 1, v, by omega, by simpa using e2, e3⟩
theorem WR.cons2 {t : List Slot} {w : Value} (h : WR (fun k => t[k]?)) (hw : w.category = 2) : WR (fun k => (Slot.val w :: .second :: t)[k]?) := by
  constructor
  · intro i v hi hv
    match i with
    | 0 => simp
    | 1 => simp at hi
    | i + 2 => have := h.1 i v (by simpa using hi) hv; simpa using this
  · intro i hi
    match i with
    | 0 => simp at hi
    | 1 => exact ⟨0, w, rfl, by simp, hw⟩
    | i + 2 => obtain ⟨j, v, e1, e2, e3⟩ := h.2 i (by simpa using hi); exact ⟨j + 2, v, by omega, by simpa using e2, e3⟩
theorem WR.of_wfL : (L : List Slot) → wfL L = true → WR (fun k => L[k]?)
  | [], _ => WR.nil
  | .unset :: t, h => (WR.of_wfL t h).cons1 (Or.inl rfl)
  | .second :: _, h => by simp [wfL] at h
  | [.val v], h => WR.nil.cons1 (Or.inr ⟨v, rfl, by simpa [wfL] using h⟩)
  | .val v :: .second :: t, h => by simp [wfL] at h; exact (WR.of_wfL t h.2).cons2 h.1
  | .val v :: .unset :: t, h => by simp [wfL] at h; exact ((WR.of_wfL t h.2).cons1 (Or.inl rfl)).cons1 (Or.inr ⟨v, rfl, h.1⟩)
  | .val v :: .val u :: t, h => by
    have h' : decide (v.category = 1) = true ∧ wfL (.val u :: t) = true := by rw [wfL, Bool.and_eq_true] at h; exact h
    exact (WR.of_wfL (.val u :: t) h'.2).cons1 (Or.inr ⟨v, rfl, of_decide_eq_true h'.1⟩)
theorem fg_length : (b : List Bool) → (L : List Slot) → (fg b L).length = L.length
  | true :: b, _ :: t => by simp [fg, fg_length b t]
  | false :: b, s :: t => by simp [fg, fg_length b t]
  | [], t => by simp [fg]
  | true :: _, [] => by simp [fg]
  | false :: _, [] => by simp [fg]
theorem fg_get : (b : List Bool) → (L : List Slot) → ∀ (i : Nat) (s : Slot), (fg b L)[i]? = some s → s = .unset ∨ L[i]? = some s
  | true :: b, x :: t, i, s, h => by
    cases i with
    | zero => left; simpa [fg] using h.symm
    | succ i => have := fg_get b t i s (by simpa [fg] using h); simpa using this
  | false :: b, x :: t, i, s, h => by
    cases i with
    | zero => right; simpa [fg] using h
    | succ i => have := fg_get b t i s (by simpa [fg] using h); simpa using this
  | [], t, i, s, h => by right; simpa [fg] using h
  | true :: _, [], i, s, h => by right; simpa [fg] using h
  | false :: _, [], i, s, h => by right; simpa [fg] using h
theorem SR.forget {ρ : Nat → Addr} {L : List Slot} {r : Array Slot} (h : SR ρ L r) (b : List Bool) (hw : wfL (fg b L) = true) : SR ρ (fg b L) r := by
  obtain ⟨h1, h2, h3, h4, h5⟩ := h
  refine ⟨by rw [fg_length]; exact h1, fun i v hi => ?_, fun i hi => ?_, WR.of_wfL _ hw, h5⟩
  · rcases fg_get _ _ _ _ hi with e | e
    · cases e
    · exact h2 i v e
  · rcases fg_get _ _ _ _ hi with e | e
    · cases e
    · exact h3 i e
/-- at a method's entry -/
theorem a2l (ρ : Nat → Addr) (as : List Value) (mx : Nat) : argsToLocals (as.map (rv ρ)).toArray mx = (argsToLocals as.toArray mx).map (rs ρ) := by
  have key : ∀ (as : List Value) (acc : Array Slot), (as.map (rv ρ)).foldl (fun acc v => if v.category = 2 then (acc.push (.val v)).push .second else acc.push (.val v)) (acc.map (rs ρ)) = (as.foldl (fun acc v => if v.category = 2 then (acc.push (.val v)).push .second else acc.push (.val v)) acc).map (rs ρ) := by
    intro as
    induction as with
    | nil => intro acc; rfl
    | cons v t ih =>
      intro acc
      simp only [List.map_cons, List.foldl_cons, rv_cat]
      by_cases hv : v.category = 2
      · rw [if_pos hv, if_pos hv, ← ih]; simp [Array.map_push, rs]
      · rw [if_neg hv, if_neg hv, ← ih]; simp [Array.map_push, rs]
  have k0 := key as #[]
  simp only [Array.map_empty] at k0
  simp only [argsToLocals, List.foldl_toArray', List.size_toArray]
  simp only [k0, Array.map_append, Array.size_map, Array.map_replicate, rs]
theorem SR.entry (ρ : Nat → Addr) (as : List Value) (mx : Nat) {L : List Slot} (hL : (argsToLocals as.toArray mx).toList = L) (hw : wfL L = true) : SR ρ L (argsToLocals (as.map (rv ρ)).toArray mx) := by
  subst hL
  rw [a2l]
  have hW := WR.of_wfL _ hw
  generalize argsToLocals as.toArray mx = A at hW
  have g : ∀ i : Nat, (A.map (rs ρ))[i]? = (A.toList[i]?).map (rs ρ) := by intro i; simp
  refine ⟨by simp, fun i v hi => by rw [g, hi]; rfl, fun i hi => by rw [g, hi]; rfl, hW, ?_, ?_⟩
  · intro i v hi hv
    have hi' : (A.toList[i]?).map (rs ρ) = some (.val v) := by rw [← g]; exact hi
    cases hs : A.toList[i]? with
    | none => rw [hs] at hi'; cases hi'
    | some s =>
      rw [hs] at hi'
      cases s with
      | unset => cases hi'
      | second => cases hi'
      | val u =>
        cases hi'
        have := hW.1 i u hs (by rwa [rv_cat] at hv)
        show (A.map (rs ρ))[i + 1]? = _
        rw [g]
        have t : A.toList[i + 1]? = some .second := this
        rw [t]; rfl
  · intro i hi
    have hi' : (A.toList[i]?).map (rs ρ) = some .second := by rw [← g]; exact hi
    cases hs : A.toList[i]? with
    | none => rw [hs] at hi'; cases hi'
    | some s =>
      rw [hs] at hi'
      cases s with
      | unset => cases hi'
      | val u => cases hi'
      | second =>
        obtain ⟨j, v, e1, e2, e3⟩ := hW.2 i hs
        refine ⟨j, rv ρ v, e1, ?_, by rw [rv_cat]; exact e3⟩
        show (A.map (rs ρ))[j]? = _
        rw [g]
        have t : A.toList[j]? = some (.val v) := e2
        rw [t]; rfl
end Jvm.Own

namespace Jvm.Own
open Jvm Jvm.ClassFile Sem Op Lib Jvm.Free Jvm.Stand Jvm.LawKit Jvm.RoadKit
/-! ## 2. A method's data; what it means that a walk from a point of it comes to an end -/
/-- name, bytes, number of variables, what it returns, room, cells that it makes -/
abbrev MD : Type := MethodName × ByteArray × Nat × Option FieldType × Room × Nat
abbrev nmOf (md : MD) : MethodName := md.1
abbrev byOf (md : MD) : ByteArray := md.2.1
abbrev mxOf (md : MD) : Nat := md.2.2.1
abbrev rtOf (md : MD) : Option FieldType := md.2.2.2.1
abbrev rmOf (md : MD) : Room := md.2.2.2.2.1
abbrev exOf (md : MD) : Nat := md.2.2.2.2.2
/-- the class whose methods are walked; where the walk's references point; the first new address; what the heap holds; what a walk leaves alone -/
abbrev Mode (μ E : Type) : Type := String × (E → Nat → Addr) × (E → Nat) × (E → μ → Heap → Prop) × (E → Heap → Heap → Prop)
abbrev Mode.own {μ E : Type} (M : Mode μ E) : String := M.1
abbrev Mode.rho {μ E : Type} (M : Mode μ E) : E → Nat → Addr := M.2.1
abbrev Mode.lo {μ E : Type} (M : Mode μ E) : E → Nat := M.2.2.1
abbrev Mode.rel {μ E : Type} (M : Mode μ E) : E → μ → Heap → Prop := M.2.2.2.1
abbrev Mode.frm {μ E : Type} (M : Mode μ E) : E → Heap → Heap → Prop := M.2.2.2.2
def Kn (Z : State) (own : String) (md : MD) (p : Program) (s : State) (m : MethodId) (meth : Method) (c : Code) : Prop :=
  p.tables.exec = Jvm.exec ∧ Z.Warmed39 s.vm ∧ s.vm.findClass own = some m.cls ∧ meth.name = (nmOf md).name ∧ meth.sig.returnType = rtOf md ∧ meth.locks = false ∧ c.code = byOf md ∧ c.maxLocals = mxOf md
def Done {μ E : Type} (l : Launch) (M : Mode μ E) (md : MD) (Q : Option Value → μ → Prop) (en : E) (p : Program) (e : Env) (s : State) (m : MethodId) (args : Array Value) (below : List Frame) (meth : Method) (c : Code) (T : State) (g : JFrame) : Prop :=
  ∃ (T' : State) (locs' : List Loc) (su' : Nat) (v : Option Value) (w' : μ), Stand p l e (rmOf md) s m args below meth c T' locs' (exOf md) su' ∧ exOf md ≤ (rmOf md).cells ∧ su' ≤ (rmOf md).slots ∧ T'.heap.size = s.heap.size + exOf md ∧ Fr (M.lo en) locs' ∧ M.rel en w' T'.heap ∧ M.frm en T.heap T'.heap ∧
    (meth.sig.returnType = none → v = none) ∧ (∀ ρ x, v = some x → rv ρ x = x) ∧ Q v w' ∧
    ∀ fs, (∀ (f : JFrame) (acts : List Action), f.method = m → f.locked = none → f.entered = [] → (doReturn e (T'.setTop f) acts v).1 = T'.setFrames fs) → Steps p.tables e below (T.setTop g) (T'.setFrames fs)
/-- from the pc, with these variables and operands, over w, the walk returns with what Q says -/
def Wk {μ E : Type} (l : Launch) (Z : State) (M : Mode μ E) (md : MD) (pc : Nat) (L : List Slot) (S : List Value) (w : μ) (cu su : Nat) (Q : Option Value → μ → Prop) : Prop :=
  ∀ (en : E) (p : Program) (e : Env) (s : State) (m : MethodId) (args : Array Value) (below : List Frame) (meth : Method) (c : Code) (T : State) (locs : List Loc) (r : Array Slot),
    Stand p l e (rmOf md) s m args below meth c T locs cu su → Kn Z M.own md p s m meth c → T.heap.size = s.heap.size + cu → Fr (M.lo en) locs → M.rel en w T.heap → SR (M.rho en) L r →
    Done l M md Q en p e s m args below meth c T (mkF m pc r (S.map (rv (M.rho en))))
section Steps
variable {μ E : Type} {l : Launch} {Z : State} {M : Mode μ E} {md : MD} {pc pc' : Nat} {L L' : List Slot} {S : List Value} {w : μ} {cu su : Nat} {Q : Option Value → μ → Prop}
theorem Done.pre {en : E} {p : Program} {e : Env} {s : State} {m : MethodId} {args : Array Value} {below : List Frame} {meth : Method} {c : Code} {T T1 : State} {g g1 : JFrame} (h : Done l M md Q en p e s m args below meth c T1 g1) (hT : ∀ x, M.frm en T1.heap x → M.frm en T.heap x)
    (st : ∀ t, Steps p.tables e below (T1.setTop g1) t → Steps p.tables e below (T.setTop g) t) : Done l M md Q en p e s m args below meth c T g := by
  obtain ⟨T', locs', su', v, w', a1, a2, a3, a4, a5, a6, a7, a8, a9, a10, a11⟩ := h
  exact ⟨T', locs', su', v, w', a1, a2, a3, a4, a5, a6, hT _ a7, a8, a9, a10, fun fs hf => st _ (a11 fs hf)⟩
theorem Wk.mono {Q' : Option Value → μ → Prop} (h : Wk l Z M md pc L S w cu su Q) (hq : ∀ v w', Q v w' → Q' v w') : Wk l Z M md pc L S w cu su Q' := by
  intro en p e s m args below meth c T locs r X K hz hF hR hL
  obtain ⟨T', locs', su', v, w', a1, a2, a3, a4, a5, a6, a7, a8, a9, a10, a11⟩ := h en p e s m args below meth c T locs r X K hz hF hR hL
  exact ⟨T', locs', su', v, w', a1, a2, a3, a4, a5, a6, a7, a8, a9, hq _ _ a10, a11⟩
abbrev InsA (md : MD) (pc : Nat) (i : Instr) (n pc' : Nat) : Prop := decode (byOf md) pc = .ok (i, n) ∧ pc + n = pc'
abbrev InsB (md : MD) (pc : Nat) (i : Instr) (n pc' : Nat) (o : Int) (pt : Nat) : Prop := decode (byOf md) pc = .ok (i, n) ∧ pc + n = pc' ∧ 0 ≤ (pc : Int) + o ∧ ((pc : Int) + o).toNat = pt
theorem Kn.by {own : String} {p : Program} {s : State} {m : MethodId} {meth : Method} {c : Code} (K : Kn Z own md p s m meth c) : c.code = byOf md := K.2.2.2.2.2.2.1
theorem Wk.forget (b : List Bool) (hf : fg b L = L') (hw : wfL L' = true) (h : Wk l Z M md pc L' S w cu su Q) : Wk l Z M md pc L S w cu su Q :=
  fun en p e s m args below meth c T locs r X K hz hF hR hL => h en p e s m args below meth c T locs r X K hz hF hR (by subst hf; exact hL.forget b hw)
theorem Wk.iloadN {k : Fin 4} {v : Int32} (hd : InsA md pc (.iload_n k) 1 pc') (hl : L[k.val]? = some (.val (.int v))) (h : Wk l Z M md pc' L (.int v :: S) w cu su Q) : Wk l Z M md pc L (S) w cu su Q :=
  fun en p e s m args below meth c T locs r X K hz hF hR hL => by
  obtain ⟨hd, rfl⟩ := hd
  exact (h en p e s m args below meth c T locs r X K hz hF hR hL).pre (fun _ q => q) fun t k => XS.iloadN X.here K.1 rfl (hb K.by hd) (hL.get hl) k
theorem Wk.iload {k : Nat} {v : Int32} (hd : InsA md pc (.iload k) 2 pc') (hl : L[k]? = some (.val (.int v))) (h : Wk l Z M md pc' L (.int v :: S) w cu su Q) : Wk l Z M md pc L (S) w cu su Q :=
  fun en p e s m args below meth c T locs r X K hz hF hR hL => by
  obtain ⟨hd, rfl⟩ := hd
  exact (h en p e s m args below meth c T locs r X K hz hF hR hL).pre (fun _ q => q) fun t k => XS.iload X.here K.1 rfl (hb K.by hd) (hL.get hl) k
theorem Wk.lloadN {k : Fin 4} {v : Int64} (hd : InsA md pc (.lload_n k) 1 pc') (hl : L[k.val]? = some (.val (.long v))) (h : Wk l Z M md pc' L (.long v :: S) w cu su Q) : Wk l Z M md pc L (S) w cu su Q :=
  fun en p e s m args below meth c T locs r X K hz hF hR hL => by
  obtain ⟨hd, rfl⟩ := hd
  exact (h en p e s m args below meth c T locs r X K hz hF hR hL).pre (fun _ q => q) fun t k => XT.lloadN X.here K.1 rfl (hb K.by hd) (hL.get hl) k
theorem Wk.lload {k : Nat} {v : Int64} (hd : InsA md pc (.lload k) 2 pc') (hl : L[k]? = some (.val (.long v))) (h : Wk l Z M md pc' L (.long v :: S) w cu su Q) : Wk l Z M md pc L (S) w cu su Q :=
  fun en p e s m args below meth c T locs r X K hz hF hR hL => by
  obtain ⟨hd, rfl⟩ := hd
  exact (h en p e s m args below meth c T locs r X K hz hF hR hL).pre (fun _ q => q) fun t k => XT.lload X.here K.1 rfl (hb K.by hd) (hL.get hl) k
theorem Wk.aloadN {k : Fin 4} {v : Nat} (hd : InsA md pc (.aload_n k) 1 pc') (hl : L[k.val]? = some (.val (.ref v))) (h : Wk l Z M md pc' L (.ref v :: S) w cu su Q) : Wk l Z M md pc L (S) w cu su Q :=
  fun en p e s m args below meth c T locs r X K hz hF hR hL => by
  obtain ⟨hd, rfl⟩ := hd
  exact (h en p e s m args below meth c T locs r X K hz hF hR hL).pre (fun _ q => q) fun t k => XS.aloadN X.here K.1 rfl (hb K.by hd) (hL.get hl) rfl k
theorem Wk.aload {k : Nat} {v : Nat} (hd : InsA md pc (.aload k) 2 pc') (hl : L[k]? = some (.val (.ref v))) (h : Wk l Z M md pc' L (.ref v :: S) w cu su Q) : Wk l Z M md pc L (S) w cu su Q :=
  fun en p e s m args below meth c T locs r X K hz hF hR hL => by
  obtain ⟨hd, rfl⟩ := hd
  exact (h en p e s m args below meth c T locs r X K hz hF hR hL).pre (fun _ q => q) fun t k => XS.aload X.here K.1 rfl (hb K.by hd) (hL.get hl) rfl k
theorem Wk.iconst {i : Int} {z : Int32} (hd : InsA md pc (.iconst i) 1 pc') (hz' : Int32.ofInt i = z) (h : Wk l Z M md pc' L (.int z :: S) w cu su Q) : Wk l Z M md pc L (S) w cu su Q :=
  fun en p e s m args below meth c T locs r X K hz hF hR hL => by
  obtain ⟨hd, rfl⟩ := hd
  exact (h en p e s m args below meth c T locs r X K hz hF hR hL).pre (fun _ q => q) fun t k => XS.iconst X.here K.1 rfl (hb K.by hd) (by subst hz'; exact k)
theorem Wk.bipush {i : Int} {z : Int32} (hd : InsA md pc (.bipush i) 2 pc') (hz' : (Int8.ofInt i).toInt32 = z) (h : Wk l Z M md pc' L (.int z :: S) w cu su Q) : Wk l Z M md pc L (S) w cu su Q :=
  fun en p e s m args below meth c T locs r X K hz hF hR hL => by
  obtain ⟨hd, rfl⟩ := hd
  exact (h en p e s m args below meth c T locs r X K hz hF hR hL).pre (fun _ q => q) fun t k => XS.bipush X.here K.1 rfl (hb K.by hd) (by subst hz'; exact k)
theorem Wk.sipush {i : Int} {z : Int32} (hd : InsA md pc (.sipush i) 3 pc') (hz' : (Int16.ofInt i).toInt32 = z) (h : Wk l Z M md pc' L (.int z :: S) w cu su Q) : Wk l Z M md pc L (S) w cu su Q :=
  fun en p e s m args below meth c T locs r X K hz hF hR hL => by
  obtain ⟨hd, rfl⟩ := hd
  exact (h en p e s m args below meth c T locs r X K hz hF hR hL).pre (fun _ q => q) fun t k => XS.sipush X.here K.1 rfl (hb K.by hd) (by subst hz'; exact k)
theorem Wk.lconst {i : Fin 2} {z : Int64} (hd : InsA md pc (.lconst i) 1 pc') (hz' : Int64.ofNat i = z) (h : Wk l Z M md pc' L (.long z :: S) w cu su Q) : Wk l Z M md pc L (S) w cu su Q :=
  fun en p e s m args below meth c T locs r X K hz hF hR hL => by
  obtain ⟨hd, rfl⟩ := hd
  exact (h en p e s m args below meth c T locs r X K hz hF hR hL).pre (fun _ q => q) fun t k => XT.lconst X.here K.1 rfl (hb K.by hd) (by subst hz'; exact k)
theorem Wk.iadd {x y : Int32} (hd : InsA md pc (.iadd) 1 pc') (h : Wk l Z M md pc' L (.int (x + y) :: S) w cu su Q) : Wk l Z M md pc L (.int y :: .int x :: S) w cu su Q :=
  fun en p e s m args below meth c T locs r X K hz hF hR hL => by
  obtain ⟨hd, rfl⟩ := hd
  exact (h en p e s m args below meth c T locs r X K hz hF hR hL).pre (fun _ q => q) fun t k => XS.iadd X.here K.1 rfl (hb K.by hd) rfl k
theorem Wk.isub {x y : Int32} (hd : InsA md pc (.isub) 1 pc') (h : Wk l Z M md pc' L (.int (x - y) :: S) w cu su Q) : Wk l Z M md pc L (.int y :: .int x :: S) w cu su Q :=
  fun en p e s m args below meth c T locs r X K hz hF hR hL => by
  obtain ⟨hd, rfl⟩ := hd
  exact (h en p e s m args below meth c T locs r X K hz hF hR hL).pre (fun _ q => q) fun t k => XS.isub X.here K.1 rfl (hb K.by hd) rfl k
theorem Wk.imul {x y : Int32} (hd : InsA md pc (.imul) 1 pc') (h : Wk l Z M md pc' L (.int (x * y) :: S) w cu su Q) : Wk l Z M md pc L (.int y :: .int x :: S) w cu su Q :=
  fun en p e s m args below meth c T locs r X K hz hF hR hL => by
  obtain ⟨hd, rfl⟩ := hd
  exact (h en p e s m args below meth c T locs r X K hz hF hR hL).pre (fun _ q => q) fun t k => XS.imul X.here K.1 rfl (hb K.by hd) rfl k
theorem Wk.iand {x y : Int32} (hd : InsA md pc (.iand) 1 pc') (h : Wk l Z M md pc' L (.int (x &&& y) :: S) w cu su Q) : Wk l Z M md pc L (.int y :: .int x :: S) w cu su Q :=
  fun en p e s m args below meth c T locs r X K hz hF hR hL => by
  obtain ⟨hd, rfl⟩ := hd
  exact (h en p e s m args below meth c T locs r X K hz hF hR hL).pre (fun _ q => q) fun t k => XS.iand X.here K.1 rfl (hb K.by hd) rfl k
theorem Wk.ior {x y : Int32} (hd : InsA md pc (.ior) 1 pc') (h : Wk l Z M md pc' L (.int (x ||| y) :: S) w cu su Q) : Wk l Z M md pc L (.int y :: .int x :: S) w cu su Q :=
  fun en p e s m args below meth c T locs r X K hz hF hR hL => by
  obtain ⟨hd, rfl⟩ := hd
  exact (h en p e s m args below meth c T locs r X K hz hF hR hL).pre (fun _ q => q) fun t k => XT.ior X.here K.1 rfl (hb K.by hd) rfl k
theorem Wk.ixor {x y : Int32} (hd : InsA md pc (.ixor) 1 pc') (h : Wk l Z M md pc' L (.int (x ^^^ y) :: S) w cu su Q) : Wk l Z M md pc L (.int y :: .int x :: S) w cu su Q :=
  fun en p e s m args below meth c T locs r X K hz hF hR hL => by
  obtain ⟨hd, rfl⟩ := hd
  exact (h en p e s m args below meth c T locs r X K hz hF hR hL).pre (fun _ q => q) fun t k => XT.ixor X.here K.1 rfl (hb K.by hd) rfl k
theorem Wk.ishl {x y : Int32} (hd : InsA md pc (.ishl) 1 pc') (h : Wk l Z M md pc' L (.int (x <<< (y &&& 31)) :: S) w cu su Q) : Wk l Z M md pc L (.int y :: .int x :: S) w cu su Q :=
  fun en p e s m args below meth c T locs r X K hz hF hR hL => by
  obtain ⟨hd, rfl⟩ := hd
  exact (h en p e s m args below meth c T locs r X K hz hF hR hL).pre (fun _ q => q) fun t k => XT.ishl X.here K.1 rfl (hb K.by hd) rfl k
theorem Wk.ishr {x y : Int32} (hd : InsA md pc (.ishr) 1 pc') (h : Wk l Z M md pc' L (.int (x >>> (y &&& 31)) :: S) w cu su Q) : Wk l Z M md pc L (.int y :: .int x :: S) w cu su Q :=
  fun en p e s m args below meth c T locs r X K hz hF hR hL => by
  obtain ⟨hd, rfl⟩ := hd
  exact (h en p e s m args below meth c T locs r X K hz hF hR hL).pre (fun _ q => q) fun t k => XT.ishr X.here K.1 rfl (hb K.by hd) rfl k
theorem Wk.iushr {x y : Int32} (hd : InsA md pc (.iushr) 1 pc') (h : Wk l Z M md pc' L (.int (XT.ushr x y) :: S) w cu su Q) : Wk l Z M md pc L (.int y :: .int x :: S) w cu su Q :=
  fun en p e s m args below meth c T locs r X K hz hF hR hL => by
  obtain ⟨hd, rfl⟩ := hd
  exact (h en p e s m args below meth c T locs r X K hz hF hR hL).pre (fun _ q => q) fun t k => XT.iushr X.here K.1 rfl (hb K.by hd) rfl k
theorem Wk.ineg {x : Int32} (hd : InsA md pc (.ineg) 1 pc') (h : Wk l Z M md pc' L (.int (-x) :: S) w cu su Q) : Wk l Z M md pc L (.int x :: S) w cu su Q :=
  fun en p e s m args below meth c T locs r X K hz hF hR hL => by
  obtain ⟨hd, rfl⟩ := hd
  exact (h en p e s m args below meth c T locs r X K hz hF hR hL).pre (fun _ q => q) fun t k => XS.ineg X.here K.1 rfl (hb K.by hd) rfl k
theorem Wk.idiv {x y : Int32} (hd : InsA md pc (.idiv) 1 pc') (hy : y ≠ 0) (h : Wk l Z M md pc' L (.int (x / y) :: S) w cu su Q) : Wk l Z M md pc L (.int y :: .int x :: S) w cu su Q :=
  fun en p e s m args below meth c T locs r X K hz hF hR hL => by
  obtain ⟨hd, rfl⟩ := hd
  exact (h en p e s m args below meth c T locs r X K hz hF hR hL).pre (fun _ q => q) fun t k => XS.idiv X.here K.1 rfl (hb K.by hd) rfl hy k
theorem Wk.irem {x y : Int32} (hd : InsA md pc (.irem) 1 pc') (hy : y ≠ 0) (h : Wk l Z M md pc' L (.int (x % y) :: S) w cu su Q) : Wk l Z M md pc L (.int y :: .int x :: S) w cu su Q :=
  fun en p e s m args below meth c T locs r X K hz hF hR hL => by
  obtain ⟨hd, rfl⟩ := hd
  exact (h en p e s m args below meth c T locs r X K hz hF hR hL).pre (fun _ q => q) fun t k => Jvm.RoadKit.iremM X K.1 rfl (hb K.by hd) rfl hy k
theorem Wk.ladd {x y : Int64} (hd : InsA md pc (.ladd) 1 pc') (h : Wk l Z M md pc' L (.long (x + y) :: S) w cu su Q) : Wk l Z M md pc L (.long y :: .long x :: S) w cu su Q :=
  fun en p e s m args below meth c T locs r X K hz hF hR hL => by
  obtain ⟨hd, rfl⟩ := hd
  exact (h en p e s m args below meth c T locs r X K hz hF hR hL).pre (fun _ q => q) fun t k => XT.ladd X.here K.1 rfl (hb K.by hd) rfl k
theorem Wk.lsub {x y : Int64} (hd : InsA md pc (.lsub) 1 pc') (h : Wk l Z M md pc' L (.long (x - y) :: S) w cu su Q) : Wk l Z M md pc L (.long y :: .long x :: S) w cu su Q :=
  fun en p e s m args below meth c T locs r X K hz hF hR hL => by
  obtain ⟨hd, rfl⟩ := hd
  exact (h en p e s m args below meth c T locs r X K hz hF hR hL).pre (fun _ q => q) fun t k => XT.lsub X.here K.1 rfl (hb K.by hd) rfl k
theorem Wk.lmul {x y : Int64} (hd : InsA md pc (.lmul) 1 pc') (h : Wk l Z M md pc' L (.long (x * y) :: S) w cu su Q) : Wk l Z M md pc L (.long y :: .long x :: S) w cu su Q :=
  fun en p e s m args below meth c T locs r X K hz hF hR hL => by
  obtain ⟨hd, rfl⟩ := hd
  exact (h en p e s m args below meth c T locs r X K hz hF hR hL).pre (fun _ q => q) fun t k => XT.lmul X.here K.1 rfl (hb K.by hd) rfl k
theorem Wk.land {x y : Int64} (hd : InsA md pc (.land) 1 pc') (h : Wk l Z M md pc' L (.long (x &&& y) :: S) w cu su Q) : Wk l Z M md pc L (.long y :: .long x :: S) w cu su Q :=
  fun en p e s m args below meth c T locs r X K hz hF hR hL => by
  obtain ⟨hd, rfl⟩ := hd
  exact (h en p e s m args below meth c T locs r X K hz hF hR hL).pre (fun _ q => q) fun t k => XT.land X.here K.1 rfl (hb K.by hd) rfl k
theorem Wk.lor {x y : Int64} (hd : InsA md pc (.lor) 1 pc') (h : Wk l Z M md pc' L (.long (x ||| y) :: S) w cu su Q) : Wk l Z M md pc L (.long y :: .long x :: S) w cu su Q :=
  fun en p e s m args below meth c T locs r X K hz hF hR hL => by
  obtain ⟨hd, rfl⟩ := hd
  exact (h en p e s m args below meth c T locs r X K hz hF hR hL).pre (fun _ q => q) fun t k => XT.lor X.here K.1 rfl (hb K.by hd) rfl k
theorem Wk.lxor {x y : Int64} (hd : InsA md pc (.lxor) 1 pc') (h : Wk l Z M md pc' L (.long (x ^^^ y) :: S) w cu su Q) : Wk l Z M md pc L (.long y :: .long x :: S) w cu su Q :=
  fun en p e s m args below meth c T locs r X K hz hF hR hL => by
  obtain ⟨hd, rfl⟩ := hd
  exact (h en p e s m args below meth c T locs r X K hz hF hR hL).pre (fun _ q => q) fun t k => XT.lxor X.here K.1 rfl (hb K.by hd) rfl k
theorem Wk.ldiv {x y : Int64} (hd : InsA md pc (.ldiv) 1 pc') (hy : y ≠ 0) (h : Wk l Z M md pc' L (.long (x / y) :: S) w cu su Q) : Wk l Z M md pc L (.long y :: .long x :: S) w cu su Q :=
  fun en p e s m args below meth c T locs r X K hz hF hR hL => by
  obtain ⟨hd, rfl⟩ := hd
  exact (h en p e s m args below meth c T locs r X K hz hF hR hL).pre (fun _ q => q) fun t k => XT.ldiv X.here K.1 rfl (hb K.by hd) rfl hy k
theorem Wk.lrem {x y : Int64} (hd : InsA md pc (.lrem) 1 pc') (hy : y ≠ 0) (h : Wk l Z M md pc' L (.long (x - (x / y) * y) :: S) w cu su Q) : Wk l Z M md pc L (.long y :: .long x :: S) w cu su Q :=
  fun en p e s m args below meth c T locs r X K hz hF hR hL => by
  obtain ⟨hd, rfl⟩ := hd
  exact (h en p e s m args below meth c T locs r X K hz hF hR hL).pre (fun _ q => q) fun t k => XT.lrem X.here K.1 rfl (hb K.by hd) rfl hy k
theorem Wk.lshl {x : Int64} {y : Int32} (hd : InsA md pc (.lshl) 1 pc') (h : Wk l Z M md pc' L (.long (x <<< (y.toInt64 &&& 63)) :: S) w cu su Q) : Wk l Z M md pc L (.int y :: .long x :: S) w cu su Q :=
  fun en p e s m args below meth c T locs r X K hz hF hR hL => by
  obtain ⟨hd, rfl⟩ := hd
  exact (h en p e s m args below meth c T locs r X K hz hF hR hL).pre (fun _ q => q) fun t k => XT.lshl X.here K.1 rfl (hb K.by hd) rfl k
theorem Wk.lshr {x : Int64} {y : Int32} (hd : InsA md pc (.lshr) 1 pc') (h : Wk l Z M md pc' L (.long (x >>> (y.toInt64 &&& 63)) :: S) w cu su Q) : Wk l Z M md pc L (.int y :: .long x :: S) w cu su Q :=
  fun en p e s m args below meth c T locs r X K hz hF hR hL => by
  obtain ⟨hd, rfl⟩ := hd
  exact (h en p e s m args below meth c T locs r X K hz hF hR hL).pre (fun _ q => q) fun t k => XT.lshr X.here K.1 rfl (hb K.by hd) rfl k
theorem Wk.lushr {x : Int64} {y : Int32} (hd : InsA md pc (.lushr) 1 pc') (h : Wk l Z M md pc' L (.long (XT.ushrL x y) :: S) w cu su Q) : Wk l Z M md pc L (.int y :: .long x :: S) w cu su Q :=
  fun en p e s m args below meth c T locs r X K hz hF hR hL => by
  obtain ⟨hd, rfl⟩ := hd
  exact (h en p e s m args below meth c T locs r X K hz hF hR hL).pre (fun _ q => q) fun t k => XT.lushr X.here K.1 rfl (hb K.by hd) rfl k
theorem Wk.i2l {x : Int32} (hd : InsA md pc (.i2l) 1 pc') (h : Wk l Z M md pc' L (.long x.toInt64 :: S) w cu su Q) : Wk l Z M md pc L (.int x :: S) w cu su Q :=
  fun en p e s m args below meth c T locs r X K hz hF hR hL => by
  obtain ⟨hd, rfl⟩ := hd
  exact (h en p e s m args below meth c T locs r X K hz hF hR hL).pre (fun _ q => q) fun t k => XT.i2l X.here K.1 rfl (hb K.by hd) rfl k
theorem Wk.l2i {x : Int64} (hd : InsA md pc (.l2i) 1 pc') (h : Wk l Z M md pc' L (.int x.toInt32 :: S) w cu su Q) : Wk l Z M md pc L (.long x :: S) w cu su Q :=
  fun en p e s m args below meth c T locs r X K hz hF hR hL => by
  obtain ⟨hd, rfl⟩ := hd
  exact (h en p e s m args below meth c T locs r X K hz hF hR hL).pre (fun _ q => q) fun t k => XT.l2i X.here K.1 rfl (hb K.by hd) rfl k
theorem Wk.lcmp {x y : Int64} (hd : InsA md pc (.lcmp) 1 pc') (h : Wk l Z M md pc' L (.int (XT.cmpL x y) :: S) w cu su Q) : Wk l Z M md pc L (.long y :: .long x :: S) w cu su Q :=
  fun en p e s m args below meth c T locs r X K hz hF hR hL => by
  obtain ⟨hd, rfl⟩ := hd
  exact (h en p e s m args below meth c T locs r X K hz hF hR hL).pre (fun _ q => q) fun t k => XT.lcmp X.here K.1 rfl (hb K.by hd) rfl k
theorem Wk.dup {v : Value} (hd : InsA md pc (.dup) 1 pc') (hv : v.category = 1) (h : Wk l Z M md pc' L (v :: v :: S) w cu su Q) : Wk l Z M md pc L (v :: S) w cu su Q :=
  fun en p e s m args below meth c T locs r X K hz hF hR hL => by
  obtain ⟨hd, rfl⟩ := hd
  exact (h en p e s m args below meth c T locs r X K hz hF hR hL).pre (fun _ q => q) fun t k => XS.dup X.here K.1 rfl (hb K.by hd) rfl (by rw [rv_cat]; exact hv) k
theorem Wk.pop {v : Value} (hd : InsA md pc (.pop) 1 pc') (hv : v.category = 1) (h : Wk l Z M md pc' L (S) w cu su Q) : Wk l Z M md pc L (v :: S) w cu su Q :=
  fun en p e s m args below meth c T locs r X K hz hF hR hL => by
  obtain ⟨hd, rfl⟩ := hd
  exact (h en p e s m args below meth c T locs r X K hz hF hR hL).pre (fun _ q => q) fun t k => XT.pop X.here K.1 rfl (hb K.by hd) rfl (by rw [rv_cat]; exact hv) k
theorem Wk.dup2 {v u : Value} (hd : InsA md pc (.dup2) 1 pc') (hv : v.category = 1) (hu : u.category = 1) (h : Wk l Z M md pc' L (v :: u :: v :: u :: S) w cu su Q) : Wk l Z M md pc L (v :: u :: S) w cu su Q :=
  fun en p e s m args below meth c T locs r X K hz hF hR hL => by
  obtain ⟨hd, rfl⟩ := hd
  exact (h en p e s m args below meth c T locs r X K hz hF hR hL).pre (fun _ q => q) fun t k => XT.dup2 X.here K.1 rfl (hb K.by hd) rfl (by rw [rv_cat]; exact hv) (by rw [rv_cat]; exact hu) k
theorem Wk.dupX1 {v u : Value} (hd : InsA md pc (.dup_x1) 1 pc') (hv : v.category = 1) (hu : u.category = 1) (h : Wk l Z M md pc' L (v :: u :: v :: S) w cu su Q) : Wk l Z M md pc L (v :: u :: S) w cu su Q :=
  fun en p e s m args below meth c T locs r X K hz hF hR hL => by
  obtain ⟨hd, rfl⟩ := hd
  exact (h en p e s m args below meth c T locs r X K hz hF hR hL).pre (fun _ q => q) fun t k => XT.dupX1 X.here K.1 rfl (hb K.by hd) rfl (by rw [rv_cat]; exact hv) (by rw [rv_cat]; exact hu) k
theorem Wk.istoreN {k : Fin 4} {x : Int32} (hd : InsA md pc (.istore_n k) 1 pc') (ho : C1 L[k.val]?) (hl : L.set k.val (.val (.int x)) = L') (h : Wk l Z M md pc' L' S w cu su Q) : Wk l Z M md pc L (.int x :: S) w cu su Q :=
  fun en p e s m args below meth c T locs r X K hz hF hR hL => by
  obtain ⟨hd, rfl⟩ := hd
  obtain ⟨r', e1, hL2⟩ := hL.st1 (v := .int x) ho rfl
  subst hl
  exact (h en p e s m args below meth c T locs r' X K hz hF hR hL2).pre (fun _ q => q) fun t k => XS.istoreN X.here K.1 rfl (hb K.by hd) rfl e1 k
theorem Wk.istore {k : Nat} {x : Int32} (hd : InsA md pc (.istore k) 2 pc') (ho : C1 L[k]?) (hl : L.set k (.val (.int x)) = L') (h : Wk l Z M md pc' L' S w cu su Q) : Wk l Z M md pc L (.int x :: S) w cu su Q :=
  fun en p e s m args below meth c T locs r X K hz hF hR hL => by
  obtain ⟨hd, rfl⟩ := hd
  obtain ⟨r', e1, hL2⟩ := hL.st1 (v := .int x) ho rfl
  subst hl
  exact (h en p e s m args below meth c T locs r' X K hz hF hR hL2).pre (fun _ q => q) fun t k => XS.istore X.here K.1 rfl (hb K.by hd) rfl e1 k
theorem Wk.astoreN {k : Fin 4} {x : Nat} (hd : InsA md pc (.astore_n k) 1 pc') (ho : C1 L[k.val]?) (hl : L.set k.val (.val (.ref x)) = L') (h : Wk l Z M md pc' L' S w cu su Q) : Wk l Z M md pc L (.ref x :: S) w cu su Q :=
  fun en p e s m args below meth c T locs r X K hz hF hR hL => by
  obtain ⟨hd, rfl⟩ := hd
  obtain ⟨r', e1, hL2⟩ := hL.st1 (v := .ref x) ho rfl
  subst hl
  exact (h en p e s m args below meth c T locs r' X K hz hF hR hL2).pre (fun _ q => q) fun t k => XS.astoreN X.here K.1 rfl (hb K.by hd) rfl rfl e1 k
theorem Wk.astore {k : Nat} {x : Nat} (hd : InsA md pc (.astore k) 2 pc') (ho : C1 L[k]?) (hl : L.set k (.val (.ref x)) = L') (h : Wk l Z M md pc' L' S w cu su Q) : Wk l Z M md pc L (.ref x :: S) w cu su Q :=
  fun en p e s m args below meth c T locs r X K hz hF hR hL => by
  obtain ⟨hd, rfl⟩ := hd
  obtain ⟨r', e1, hL2⟩ := hL.st1 (v := .ref x) ho rfl
  subst hl
  exact (h en p e s m args below meth c T locs r' X K hz hF hR hL2).pre (fun _ q => q) fun t k => XS.astore X.here K.1 rfl (hb K.by hd) rfl rfl e1 k
theorem Wk.lstoreN {k : Fin 4} {x : Int64} (hd : InsA md pc (.lstore_n k) 1 pc') (ho : C1 L[k.val]?) (ho2 : C1 L[k.val + 1]?) (hl : (L.set k.val (.val (.long x))).set (k.val + 1) .second = L') (h : Wk l Z M md pc' L' S w cu su Q) : Wk l Z M md pc L (.long x :: S) w cu su Q :=
  fun en p e s m args below meth c T locs r X K hz hF hR hL => by
  obtain ⟨hd, rfl⟩ := hd
  obtain ⟨r', e1, hL2⟩ := hL.st2 (v := .long x) ho ho2 rfl
  subst hl
  exact (h en p e s m args below meth c T locs r' X K hz hF hR hL2).pre (fun _ q => q) fun t k => XT.lstoreN X.here K.1 rfl (hb K.by hd) rfl e1 k
theorem Wk.lstore {k : Nat} {x : Int64} (hd : InsA md pc (.lstore k) 2 pc') (ho : C1 L[k]?) (ho2 : C1 L[k + 1]?) (hl : (L.set k (.val (.long x))).set (k + 1) .second = L') (h : Wk l Z M md pc' L' S w cu su Q) : Wk l Z M md pc L (.long x :: S) w cu su Q :=
  fun en p e s m args below meth c T locs r X K hz hF hR hL => by
  obtain ⟨hd, rfl⟩ := hd
  obtain ⟨r', e1, hL2⟩ := hL.st2 (v := .long x) ho ho2 rfl
  subst hl
  exact (h en p e s m args below meth c T locs r' X K hz hF hR hL2).pre (fun _ q => q) fun t k => XT.lstore X.here K.1 rfl (hb K.by hd) rfl e1 k
theorem Wk.iinc {k : Nat} {cst : Int} {x z : Int32} (hd : InsA md pc (.iinc k cst) 3 pc') (hv : L[k]? = some (.val (.int x))) (hz' : x + Int32.ofInt cst = z) (hl : L.set k (.val (.int z)) = L') (h : Wk l Z M md pc' L' S w cu su Q) : Wk l Z M md pc L S w cu su Q :=
  fun en p e s m args below meth c T locs r X K hz hF hR hL => by
  obtain ⟨hd, rfl⟩ := hd
  obtain ⟨r', e1, hL2⟩ := hL.st1 (i := k) (v := .int z) (Or.inr ⟨_, hv, rfl⟩) rfl
  subst hl hz'
  exact (h en p e s m args below meth c T locs r' X K hz hF hR hL2).pre (fun _ q => q) fun t k => XS.iinc X.here K.1 rfl (hb K.by hd) (hL.get hv) e1 k
theorem Wk.goto {o : Int} {pt : Nat} (hd : InsB md pc (.goto o) 3 pc' o pt) (h : Wk l Z M md pt L S w cu su Q) : Wk l Z M md pc L S w cu su Q :=
  fun en p e s m args below meth c T locs r X K hz hF hR hL => by
  obtain ⟨hd, rfl, h3, h4⟩ := hd
  exact (h en p e s m args below meth c T locs r X K hz hF hR hL).pre (fun _ q => q) fun t k => XS.goto X.here K.1 rfl rfl (hb K.by hd) h3 h4 k
theorem Wk.icmp_lt {x y : Int32} {o : Int} {pt : Nat} (hd : InsB md pc (.if_icmp .lt o) 3 pc' o pt) (h1 : x < y → Wk l Z M md pt L S w cu su Q) (h2 : ¬ x < y → Wk l Z M md pc' L S w cu su Q) : Wk l Z M md pc L (.int y :: .int x :: S) w cu su Q :=
  fun en p e s m args below meth c T locs r X K hz hF hR hL => by
  obtain ⟨hd, rfl, h3, h4⟩ := hd
  by_cases q : x < y
  · exact (h1 q en p e s m args below meth c T locs r X K hz hF hR hL).pre (fun _ q => q) fun t k => XS.icmpYes X.here K.1 rfl rfl (hb K.by hd) rfl (tlt q).1 h3 h4 k
  · exact (h2 q en p e s m args below meth c T locs r X K hz hF hR hL).pre (fun _ q => q) fun t k => XS.icmpNo X.here K.1 rfl (hb K.by hd) rfl (flt q).1 k
theorem Wk.if_lt {x : Int32} {o : Int} {pt : Nat} (hd : InsB md pc (.ifCond .lt o) 3 pc' o pt) (h1 : x < 0 → Wk l Z M md pt L S w cu su Q) (h2 : ¬ x < 0 → Wk l Z M md pc' L S w cu su Q) : Wk l Z M md pc L (.int x :: S) w cu su Q :=
  fun en p e s m args below meth c T locs r X K hz hF hR hL => by
  obtain ⟨hd, rfl, h3, h4⟩ := hd
  by_cases q : x < 0
  · exact (h1 q en p e s m args below meth c T locs r X K hz hF hR hL).pre (fun _ q => q) fun t k => XS.ifYes X.here K.1 rfl rfl (hb K.by hd) rfl ((if0 _ _).trans (tlt q).1) h3 h4 k
  · exact (h2 q en p e s m args below meth c T locs r X K hz hF hR hL).pre (fun _ q => q) fun t k => XS.ifNo X.here K.1 rfl (hb K.by hd) rfl ((if0 _ _).trans (flt q).1) k
theorem Wk.icmp_ge {x y : Int32} {o : Int} {pt : Nat} (hd : InsB md pc (.if_icmp .ge o) 3 pc' o pt) (h1 : ¬ x < y → Wk l Z M md pt L S w cu su Q) (h2 : x < y → Wk l Z M md pc' L S w cu su Q) : Wk l Z M md pc L (.int y :: .int x :: S) w cu su Q :=
  fun en p e s m args below meth c T locs r X K hz hF hR hL => by
  obtain ⟨hd, rfl, h3, h4⟩ := hd
  by_cases q : x < y
  · exact (h2 q en p e s m args below meth c T locs r X K hz hF hR hL).pre (fun _ q => q) fun t k => XS.icmpNo X.here K.1 rfl (hb K.by hd) rfl (tlt q).2.1 k
  · exact (h1 q en p e s m args below meth c T locs r X K hz hF hR hL).pre (fun _ q => q) fun t k => XS.icmpYes X.here K.1 rfl rfl (hb K.by hd) rfl (flt q).2.1 h3 h4 k
theorem Wk.if_ge {x : Int32} {o : Int} {pt : Nat} (hd : InsB md pc (.ifCond .ge o) 3 pc' o pt) (h1 : ¬ x < 0 → Wk l Z M md pt L S w cu su Q) (h2 : x < 0 → Wk l Z M md pc' L S w cu su Q) : Wk l Z M md pc L (.int x :: S) w cu su Q :=
  fun en p e s m args below meth c T locs r X K hz hF hR hL => by
  obtain ⟨hd, rfl, h3, h4⟩ := hd
  by_cases q : x < 0
  · exact (h2 q en p e s m args below meth c T locs r X K hz hF hR hL).pre (fun _ q => q) fun t k => XS.ifNo X.here K.1 rfl (hb K.by hd) rfl ((if0 _ _).trans (tlt q).2.1) k
  · exact (h1 q en p e s m args below meth c T locs r X K hz hF hR hL).pre (fun _ q => q) fun t k => XS.ifYes X.here K.1 rfl rfl (hb K.by hd) rfl ((if0 _ _).trans (flt q).2.1) h3 h4 k
theorem Wk.icmp_gt {x y : Int32} {o : Int} {pt : Nat} (hd : InsB md pc (.if_icmp .gt o) 3 pc' o pt) (h1 : y < x → Wk l Z M md pt L S w cu su Q) (h2 : ¬ y < x → Wk l Z M md pc' L S w cu su Q) : Wk l Z M md pc L (.int y :: .int x :: S) w cu su Q :=
  fun en p e s m args below meth c T locs r X K hz hF hR hL => by
  obtain ⟨hd, rfl, h3, h4⟩ := hd
  by_cases q : y < x
  · exact (h1 q en p e s m args below meth c T locs r X K hz hF hR hL).pre (fun _ q => q) fun t k => XS.icmpYes X.here K.1 rfl rfl (hb K.by hd) rfl (tlt q).2.2.1 h3 h4 k
  · exact (h2 q en p e s m args below meth c T locs r X K hz hF hR hL).pre (fun _ q => q) fun t k => XS.icmpNo X.here K.1 rfl (hb K.by hd) rfl (flt q).2.2.1 k
theorem Wk.if_gt {x : Int32} {o : Int} {pt : Nat} (hd : InsB md pc (.ifCond .gt o) 3 pc' o pt) (h1 : 0 < x → Wk l Z M md pt L S w cu su Q) (h2 : ¬ 0 < x → Wk l Z M md pc' L S w cu su Q) : Wk l Z M md pc L (.int x :: S) w cu su Q :=
  fun en p e s m args below meth c T locs r X K hz hF hR hL => by
  obtain ⟨hd, rfl, h3, h4⟩ := hd
  by_cases q : 0 < x
  · exact (h1 q en p e s m args below meth c T locs r X K hz hF hR hL).pre (fun _ q => q) fun t k => XS.ifYes X.here K.1 rfl rfl (hb K.by hd) rfl ((if0 _ _).trans (tlt q).2.2.1) h3 h4 k
  · exact (h2 q en p e s m args below meth c T locs r X K hz hF hR hL).pre (fun _ q => q) fun t k => XS.ifNo X.here K.1 rfl (hb K.by hd) rfl ((if0 _ _).trans (flt q).2.2.1) k
theorem Wk.icmp_le {x y : Int32} {o : Int} {pt : Nat} (hd : InsB md pc (.if_icmp .le o) 3 pc' o pt) (h1 : ¬ y < x → Wk l Z M md pt L S w cu su Q) (h2 : y < x → Wk l Z M md pc' L S w cu su Q) : Wk l Z M md pc L (.int y :: .int x :: S) w cu su Q :=
  fun en p e s m args below meth c T locs r X K hz hF hR hL => by
  obtain ⟨hd, rfl, h3, h4⟩ := hd
  by_cases q : y < x
  · exact (h2 q en p e s m args below meth c T locs r X K hz hF hR hL).pre (fun _ q => q) fun t k => XS.icmpNo X.here K.1 rfl (hb K.by hd) rfl (tlt q).2.2.2 k
  · exact (h1 q en p e s m args below meth c T locs r X K hz hF hR hL).pre (fun _ q => q) fun t k => XS.icmpYes X.here K.1 rfl rfl (hb K.by hd) rfl (flt q).2.2.2 h3 h4 k
theorem Wk.if_le {x : Int32} {o : Int} {pt : Nat} (hd : InsB md pc (.ifCond .le o) 3 pc' o pt) (h1 : ¬ 0 < x → Wk l Z M md pt L S w cu su Q) (h2 : 0 < x → Wk l Z M md pc' L S w cu su Q) : Wk l Z M md pc L (.int x :: S) w cu su Q :=
  fun en p e s m args below meth c T locs r X K hz hF hR hL => by
  obtain ⟨hd, rfl, h3, h4⟩ := hd
  by_cases q : 0 < x
  · exact (h2 q en p e s m args below meth c T locs r X K hz hF hR hL).pre (fun _ q => q) fun t k => XS.ifNo X.here K.1 rfl (hb K.by hd) rfl ((if0 _ _).trans (tlt q).2.2.2) k
  · exact (h1 q en p e s m args below meth c T locs r X K hz hF hR hL).pre (fun _ q => q) fun t k => XS.ifYes X.here K.1 rfl rfl (hb K.by hd) rfl ((if0 _ _).trans (flt q).2.2.2) h3 h4 k
theorem Wk.icmp_eq {x y : Int32} {o : Int} {pt : Nat} (hd : InsB md pc (.if_icmp .eq o) 3 pc' o pt) (h1 : x = y → Wk l Z M md pt L S w cu su Q) (h2 : ¬ x = y → Wk l Z M md pc' L S w cu su Q) : Wk l Z M md pc L (.int y :: .int x :: S) w cu su Q :=
  fun en p e s m args below meth c T locs r X K hz hF hR hL => by
  obtain ⟨hd, rfl, h3, h4⟩ := hd
  by_cases q : x = y
  · exact (h1 q en p e s m args below meth c T locs r X K hz hF hR hL).pre (fun _ q => q) fun t k => XS.icmpYes X.here K.1 rfl rfl (hb K.by hd) rfl (teq q).1 h3 h4 k
  · exact (h2 q en p e s m args below meth c T locs r X K hz hF hR hL).pre (fun _ q => q) fun t k => XS.icmpNo X.here K.1 rfl (hb K.by hd) rfl (feq q).1 k
theorem Wk.if_eq {x : Int32} {o : Int} {pt : Nat} (hd : InsB md pc (.ifCond .eq o) 3 pc' o pt) (h1 : x = 0 → Wk l Z M md pt L S w cu su Q) (h2 : ¬ x = 0 → Wk l Z M md pc' L S w cu su Q) : Wk l Z M md pc L (.int x :: S) w cu su Q :=
  fun en p e s m args below meth c T locs r X K hz hF hR hL => by
  obtain ⟨hd, rfl, h3, h4⟩ := hd
  by_cases q : x = 0
  · exact (h1 q en p e s m args below meth c T locs r X K hz hF hR hL).pre (fun _ q => q) fun t k => XS.ifYes X.here K.1 rfl rfl (hb K.by hd) rfl ((if0 _ _).trans (teq q).1) h3 h4 k
  · exact (h2 q en p e s m args below meth c T locs r X K hz hF hR hL).pre (fun _ q => q) fun t k => XS.ifNo X.here K.1 rfl (hb K.by hd) rfl ((if0 _ _).trans (feq q).1) k
theorem Wk.icmp_ne {x y : Int32} {o : Int} {pt : Nat} (hd : InsB md pc (.if_icmp .ne o) 3 pc' o pt) (h1 : ¬ x = y → Wk l Z M md pt L S w cu su Q) (h2 : x = y → Wk l Z M md pc' L S w cu su Q) : Wk l Z M md pc L (.int y :: .int x :: S) w cu su Q :=
  fun en p e s m args below meth c T locs r X K hz hF hR hL => by
  obtain ⟨hd, rfl, h3, h4⟩ := hd
  by_cases q : x = y
  · exact (h2 q en p e s m args below meth c T locs r X K hz hF hR hL).pre (fun _ q => q) fun t k => XS.icmpNo X.here K.1 rfl (hb K.by hd) rfl (teq q).2 k
  · exact (h1 q en p e s m args below meth c T locs r X K hz hF hR hL).pre (fun _ q => q) fun t k => XS.icmpYes X.here K.1 rfl rfl (hb K.by hd) rfl (feq q).2 h3 h4 k
theorem Wk.if_ne {x : Int32} {o : Int} {pt : Nat} (hd : InsB md pc (.ifCond .ne o) 3 pc' o pt) (h1 : ¬ x = 0 → Wk l Z M md pt L S w cu su Q) (h2 : x = 0 → Wk l Z M md pc' L S w cu su Q) : Wk l Z M md pc L (.int x :: S) w cu su Q :=
  fun en p e s m args below meth c T locs r X K hz hF hR hL => by
  obtain ⟨hd, rfl, h3, h4⟩ := hd
  by_cases q : x = 0
  · exact (h2 q en p e s m args below meth c T locs r X K hz hF hR hL).pre (fun _ q => q) fun t k => XS.ifNo X.here K.1 rfl (hb K.by hd) rfl ((if0 _ _).trans (teq q).2) k
  · exact (h1 q en p e s m args below meth c T locs r X K hz hF hR hL).pre (fun _ q => q) fun t k => XS.ifYes X.here K.1 rfl rfl (hb K.by hd) rfl ((if0 _ _).trans (feq q).2) h3 h4 k
theorem Wk.tswIn {dflt low high o : Int} {offs : Array Int} {len pt : Nat} {x z : Int32} (hd : InsB md pc (.tableswitch dflt low high offs) len pc' o pt) (hx : x = z) (hin : ¬ (z.toInt < low ∨ z.toInt > high)) (hoff : offs[(z.toInt - low).toNat]? = some o) (h : Wk l Z M md pt L S w cu su Q) : Wk l Z M md pc L (.int x :: S) w cu su Q :=
  fun en p e s m args below meth c T locs r X K hz hF hR hL => by
  obtain ⟨hd, rfl, h3, h4⟩ := hd
  subst hx
  exact (h en p e s m args below meth c T locs r X K hz hF hR hL).pre (fun _ q => q) fun t k => XS.tswIn X.here K.1 rfl rfl (hb K.by hd) rfl hin hoff h3 h4 k
theorem Wk.tswOut {dflt low high : Int} {offs : Array Int} {len pt : Nat} {x : Int32} (hd : InsB md pc (.tableswitch dflt low high offs) len pc' dflt pt) (hout : x.toInt < low ∨ x.toInt > high) (h : Wk l Z M md pt L S w cu su Q) : Wk l Z M md pc L (.int x :: S) w cu su Q :=
  fun en p e s m args below meth c T locs r X K hz hF hR hL => by
  obtain ⟨hd, rfl, h3, h4⟩ := hd
  exact (h en p e s m args below meth c T locs r X K hz hF hR hL).pre (fun _ q => q) fun t k => XS.tswOut X.here K.1 rfl rfl (hb K.by hd) rfl hout h3 h4 k
theorem Wk.ldc {idx : Nat} {z : Int32} {a0 : Array Value} (hd : InsA md pc (.ldc idx) 2 pc') (wd : (Cond.constant M.own idx z).before a0 Z = true) (h : Wk l Z M md pc' L (.int z :: S) w cu su Q) : Wk l Z M md pc L S w cu su Q :=
  fun en p e s m args below meth c T locs r X K hz hF hR hL => by
  obtain ⟨hd, rfl⟩ := hd
  have hc : (Cond.constant M.own idx z).before args s = true := mvT K.2.1 wd
  exact (h en p e s m args below meth c T locs r X K hz hF hR hL).pre (fun _ q => q) fun t k => X.ldcInt K.1 K.2.2.1 hc (g := mkF m pc r (S.map (rv (M.rho en)))) rfl (hb K.by hd) t k
theorem Wk.ldcw {idx : Nat} {z : Int32} {a0 : Array Value} (hd : InsA md pc (.ldc_w idx) 3 pc') (wd : (Cond.constant M.own idx z).before a0 Z = true) (h : Wk l Z M md pc' L (.int z :: S) w cu su Q) : Wk l Z M md pc L S w cu su Q :=
  fun en p e s m args below meth c T locs r X K hz hF hR hL => by
  obtain ⟨hd, rfl⟩ := hd
  have hc : (Cond.constant M.own idx z).before args s = true := mvT K.2.1 wd
  exact (h en p e s m args below meth c T locs r X K hz hF hR hL).pre (fun _ q => q) fun t k => X.ldcwInt K.1 K.2.2.1 hc (g := mkF m pc r (S.map (rv (M.rho en)))) rfl (hb K.by hd) t k
theorem Wk.ldc2 {idx : Nat} {z : Int64} {a0 : Array Value} (hd : InsA md pc (.ldc2_w idx) 3 pc') (wd : (Cond.constantLong M.own idx z).before a0 Z = true) (h : Wk l Z M md pc' L (.long z :: S) w cu su Q) : Wk l Z M md pc L S w cu su Q :=
  fun en p e s m args below meth c T locs r X K hz hF hR hL => by
  obtain ⟨hd, rfl⟩ := hd
  have hc : (Cond.constantLong M.own idx z).before args s = true := mvT K.2.1 wd
  exact (h en p e s m args below meth c T locs r X K hz hF hR hL).pre (fun _ q => q) fun t k => X.ldc2Long K.1 K.2.2.1 hc (g := mkF m pc r (S.map (rv (M.rho en)))) rfl (hb K.by hd) t k
/-! returns -/
theorem Wk.ireturn {x : Int32} (hM : ∀ en h, M.frm en h h) (hret : rtOf md = some .int) (hd : InsA md pc .ireturn 1 pc') (hc : cu = exOf md) (hc2 : exOf md ≤ (rmOf md).cells) (hs : su ≤ (rmOf md).slots) (hq : Q (some (.int x)) w) : Wk l Z M md pc L (.int x :: S) w cu su Q :=
  fun en p e s m args below meth c T locs r X K hz hF hR hL => by
  subst hc
  have hr := K.2.2.2.2.1.trans hret
  exact ⟨T, locs, su, _, w, X, hc2, hs, hz, hF, hR, hM _ _, fun q => (by rw [hr] at q; cases q), fun ρ y e => (by cases e; rfl), hq, fun fs hf => retI X K.1 hr (hb K.by hd.1) hf⟩
theorem Wk.zreturn {x y : Int32} (hM : ∀ en h, M.frm en h h) (hret : rtOf md = some .boolean) (hd : InsA md pc .ireturn 1 pc') (hc : cu = exOf md) (hc2 : exOf md ≤ (rmOf md).cells) (hs : su ≤ (rmOf md).slots) (hy : nar .boolean x = y) (hq : Q (some (.int y)) w) : Wk l Z M md pc L (.int x :: S) w cu su Q :=
  fun en p e s m args below meth c T locs r X K hz hF hR hL => by
  subst hc hy
  have hr := K.2.2.2.2.1.trans hret
  exact ⟨T, locs, su, _, w, X, hc2, hs, hz, hF, hR, hM _ _, fun q => (by rw [hr] at q; cases q), fun ρ y e => (by cases e; rfl), hq, fun fs hf => retN X K.1 (t := .boolean) hr (by simp) (hb K.by hd.1) hf⟩
theorem Wk.lreturn {x : Int64} (hM : ∀ en h, M.frm en h h) (hret : rtOf md = some .long) (hd : InsA md pc .lreturn 1 pc') (hc : cu = exOf md) (hc2 : exOf md ≤ (rmOf md).cells) (hs : su ≤ (rmOf md).slots) (hq : Q (some (.long x)) w) : Wk l Z M md pc L [.long x] w cu su Q :=
  fun en p e s m args below meth c T locs r X K hz hF hR hL => by
  subst hc
  have hr := K.2.2.2.2.1.trans hret
  exact ⟨T, locs, su, _, w, X, hc2, hs, hz, hF, hR, hM _ _, fun q => (by rw [hr] at q; cases q), fun ρ y e => (by cases e; rfl), hq, fun fs hf => X.lreturnOut K.1 hr (hb K.by hd.1) hf⟩
theorem Wk.ret (hM : ∀ en h, M.frm en h h) (hret : rtOf md = none) (hd : InsA md pc .return_ 1 pc') (hc : cu = exOf md) (hc2 : exOf md ≤ (rmOf md).cells) (hs : su ≤ (rmOf md).slots) (hq : Q none w) : Wk l Z M md pc L [] w cu su Q :=
  fun en p e s m args below meth c T locs r X K hz hF hR hL => by
  subst hc
  have hr := K.2.2.2.2.1.trans hret
  exact ⟨T, locs, su, none, w, X, hc2, hs, hz, hF, hR, hM _ _, fun _ => rfl, fun ρ y e => (by cases e), hq, fun fs hf => X.returnOut K.1 hr (hb K.by hd.1) hf⟩
/-! a walk from the entry is a contract -/
theorem Wk.met (h : Wk l Z M md 0 L [] w 0 0 Q) (hp : plainName (nmOf md).cls = true) (ho : M.own = (nmOf md).cls) {en : E} {h0 : Heap} (hR : M.rel en w h0) (as : List Value) (hL : (argsToLocals as.toArray (mxOf md)).toList = L) (hw : wfL L = true) (ws : List Jvm.Cond) :
    MetFree l (nmOf md) (head1 (Jvm.Cond.code (nmOf md) (byOf md) (mxOf md) (rtOf md) :: ws) (rmOf md)) (fun a U => a = (as.map (rv (M.rho en))).toArray ∧ Z.Warmed39 U.vm ∧ U.heap = h0) (fun _ _ _ _ _ => True)
      (fun _ U o U' => ∃ v Lc, o = .returned v ∧ (∃ w', Q v w' ∧ M.rel en w' U'.heap ∧ M.frm en h0 U'.heap ∧ Fr (M.lo en) Lc ∧ U'.heap.size = h0.size + exOf md ∧ ∀ ρ x, v = some x → rv ρ x = x) ∧ FrameEnd U o U' Lc (rmOf md).cells (rmOf md).slots) := by
  refine MetFree.of_bodySF (plainFor_of_name hp) hisR ?_
  intro p e s m args below meth c s₁ Bd hml0 hP hK
  obtain ⟨rfl, hZ, hh⟩ := hP
  have hown : s.vm.findClass (nmOf md).cls = some m.cls := findClass_of_methodNamed Bd.named
  have hnm := (name_of_methodNamed Bd.named Bd.method).1
  have X0 : Stand p l e (rmOf md) s m (as.map (rv (M.rho en))).toArray below meth c s₁ [] 0 0 := Stand.of_body Bd
  have e0 : s₁.heap = s.heap := by rw [Bd.state]; rfl
  subst hh
  obtain ⟨T', locs', su', v, w', a1, a2, a3, a4, a5, a6, a7, a8, a9, a10, a11⟩ := h en p e s m _ below meth c s₁ [] _ X0 ⟨Bd.exec, hZ, by rw [ho]; exact hown, hnm, Bd.returns, BodyLoose.notSynchronized Bd, Bd.bytes, hml0⟩ (by rw [e0]; rfl) (Fr.nil _) (by rw [e0]; exact hR) (SR.entry (M.rho en) as (mxOf md) hL hw)
  obtain ⟨fs, hr, hrun, hended, hW, hsame⟩ := a1.leave (v := v) a8 (BodyLoose.notSynchronized Bd)
  rw [e0] at a7
  exact ⟨_, _, a11 fs hr, hrun, hended, v, locs', rfl, ⟨w', a10, a6, a7, a5, a4, a9⟩, ⟨_, rfl⟩, hW, hsame.mono a2 a3⟩
end Steps
end Jvm.Own

namespace Jvm.Own
open Jvm Jvm.ClassFile Sem Op Lib Jvm.Free Jvm.Stand Jvm.LawKit Jvm.RoadKit
/-! ## 3. One object of the project's class, with its arrays behind it -/
/-- how many arrays are made; the ints; the longs; the arrays of ints (and booleans); of longs -/
abbrev WO : Type := Nat × (Nat → Int32) × (Nat → Int64) × (Nat → Int32 → Int32) × (Nat → Int32 → Int64)
/-- the class; its fields of ints and booleans (number, name, descriptor); of longs; of arrays, in the order in which they are made -/
abbrev CD : Type := String × List (Nat × String × String) × List (Nat × String) × List (Nat × String × String × FieldType × Int32)
def ups {κ α : Type} [DecidableEq κ] (f : κ → α) (i : κ) (x : α) : κ → α := fun k => if k = i then x else f k
theorem ups_at {κ α : Type} [DecidableEq κ] (f : κ → α) (i : κ) (x : α) : ups f i x i = x := by simp [ups]
theorem ups_ne {κ α : Type} [DecidableEq κ] (f : κ → α) {i k : κ} (x : α) (h : k ≠ i) : ups f i x k = f k := by simp [ups, h]
def el : FieldType → Int32 → Int64 → Value
  | .long, _, j => .long j
  | _, i, _ => .int i
theorem el_int {ty : FieldType} (h : ty ≠ .long) (i : Int32) (j : Int64) : el ty i j = .int i := by cases ty <;> first | rfl | exact absurd rfl h
def AtA (Z : State) (h : Heap) (b : Addr) (ty : FieldType) (n : Int32) (f : Int32 → Int32) (g : Int32 → Int64) : Prop :=
  ∃ cl, Arr Z h b cl ty ∧ cl.slots.size = n.toNatClampNeg ∧ ∀ x : Int32, ¬ x < 0 → x < n → cl.slots[x.toNatClampNeg]? = some (el ty (f x) (g x))
def relC (Z : State) (cd : CD) (en : Nat × Nat) (w : WO) (h : Heap) : Prop :=
  en.2 ≤ en.1 ∧ Exa Z h en.1 cd.1 ∧ (∀ t ∈ cd.2.1, Fld Z h en.1 cd.1 t.2.1 t.2.2 (.int (w.2.1 t.1))) ∧ (∀ t ∈ cd.2.2.1, Fld Z h en.1 cd.1 t.2 "J" (.long (w.2.2.1 t.1))) ∧
  (∀ t ∈ cd.2.2.2, (t.1 < w.1 → Fld Z h en.1 cd.1 t.2.1 t.2.2.1 (.ref (en.1 + (t.1 + 1))) ∧ AtA Z h (en.1 + (t.1 + 1)) t.2.2.2.1 t.2.2.2.2 (w.2.2.2.1 t.1) (w.2.2.2.2 t.1)) ∧ (¬ t.1 < w.1 → Fld Z h en.1 cd.1 t.2.1 t.2.2.1 .null)) ∧
  (w.1 < cd.2.2.2.length → h.size = en.1 + 1 + w.1)
def frmC (cd : CD) (en : Nat × Nat) (h h' : Heap) : Prop := h.size ≤ h'.size ∧ ∀ (x : Nat) (c : Cell), h[x]? = some c → (x < en.1 ∨ en.1 + cd.2.2.2.length < x) → h'[x]? = some c
abbrev MoC (Z : State) (cd : CD) : Mode WO (Nat × Nat) := (cd.1, fun en k => en.1 + k, fun en => en.2, relC Z cd, frmC cd)
theorem nn {a b : Nat} (h : a ≠ b) : @Ne Addr a b := h
theorem frmC.refl (cd : CD) (en : Nat × Nat) (h : Heap) : frmC cd en h h := ⟨Nat.le_refl _, fun _ _ q _ => q⟩
theorem frmC.trans {cd : CD} {en : Nat × Nat} {h1 h2 h3 : Heap} (a : frmC cd en h1 h2) (b : frmC cd en h2 h3) : frmC cd en h1 h3 := ⟨Nat.le_trans a.1 b.1, fun x c q r => b.2 x c (a.2 x c q r) r⟩
theorem frmC.wr {cd : CD} {en : Nat × Nat} {h h' : Heap} {b : Nat} {sl : Nat} {v : Value} (W : Wr h h' b sl v) (h1 : en.1 ≤ b) (h2 : b ≤ en.1 + cd.2.2.2.length) : frmC cd en h h' := by
  refine ⟨Nat.le_of_eq W.size.symm, fun x c q r => ?_⟩
  obtain ⟨c', e1, -, -, -, e5, -⟩ := wr_at W q
  rw [← e5 (nn (by omega))]; exact e1
theorem frmC.ext {cd : CD} {en : Nat × Nat} {h h' : Heap} (E : Ext h h') : frmC cd en h h' := ⟨E.1, fun x c q _ => E.2 x c q⟩
def okC (cd : CD) : Prop :=
  (∀ t ∈ cd.2.1, ∀ t' ∈ cd.2.1, (t.1 = t'.1 → t = t') ∧ (t.1 ≠ t'.1 → t.2.1 ≠ t'.2.1)) ∧ (∀ t ∈ cd.2.2.1, ∀ t' ∈ cd.2.2.1, (t.1 = t'.1 → t = t') ∧ (t.1 ≠ t'.1 → t.2 ≠ t'.2)) ∧ (∀ t ∈ cd.2.2.2, ∀ t' ∈ cd.2.2.2, (t.1 = t'.1 → t = t') ∧ (t.1 ≠ t'.1 → t.2.1 ≠ t'.2.1)) ∧
  (∀ t ∈ cd.2.1, ∀ t' ∈ cd.2.2.1, t.2.1 ≠ t'.2) ∧ (∀ t ∈ cd.2.1, ∀ t' ∈ cd.2.2.2, t.2.1 ≠ t'.2.1) ∧ (∀ t ∈ cd.2.2.1, ∀ t' ∈ cd.2.2.2, t.2 ≠ t'.2.1) ∧
  (∀ t ∈ cd.2.1, parseFieldDescriptor t.2.2 = some .int ∨ parseFieldDescriptor t.2.2 = some .boolean) ∧
  (∀ t ∈ cd.2.2.2, parseFieldDescriptor t.2.2.1 = some (.array t.2.2.2.1) ∧ t.1 < cd.2.2.2.length ∧ (t.2.2.2.1 = .int ∨ t.2.2.2.1 = .boolean ∨ t.2.2.2.1 = .long) ∧ ¬ t.2.2.2.2 < 0)
/-- what the words say of the class -/
def CO (Z : State) (a0 : Array Value) (cd : CD) : Prop :=
  (∃ kk, (Cond.instantiable cd.1 kk).before a0 Z = true) ∧ (∀ t ∈ cd.2.1, Laid Z a0 cd.1 cd.1 t.2.1 t.2.2) ∧ (∀ t ∈ cd.2.2.1, Laid Z a0 cd.1 cd.1 t.2 "J") ∧ (∀ t ∈ cd.2.2.2, Laid Z a0 cd.1 cd.1 t.2.1 t.2.2.1) ∧ okC cd
theorem pJ : parseFieldDescriptor "J" = some .long := by decide +kernel
theorem snJ {Z : State} {a0 : Array Value} {C n n' d' : String} {t' : FieldType} (L : Laid Z a0 C C n "J") (L' : Laid Z a0 C C n' d') (hn : n ≠ n') (ht' : parseFieldDescriptor d' = some t') : Jvm.RoadKit.slotOf Z C n "J" ≠ Jvm.RoadKit.slotOf Z C n' d' := by
  have p := pJ
  generalize "J" = q at *
  exact slot_ne L L' hn p ht'
section Rel
variable {Z : State} {a0 : Array Value} {cd : CD} {en : Nat × Nat} {h h' : Heap} {k : Nat} {F : Nat → Int32} {G : Nat → Int64} {A : Nat → Int32 → Int32} {B : Nat → Int32 → Int64}
theorem pI (ok : CO Z a0 cd) {t : Nat × String × String} (ht : t ∈ cd.2.1) : ∃ ty, parseFieldDescriptor t.2.2 = some ty := by
  rcases ok.2.2.2.2.2.2.2.2.2.2.1 t ht with q | q <;> exact ⟨_, q⟩
theorem AtA.other {b b' : Addr} {ty : FieldType} {n : Int32} {f : Int32 → Int32} {g : Int32 → Int64} {sl : Nat} {v : Value} (W : Wr h h' b sl v) (H : AtA Z h b' ty n f g) (hne : b' ≠ b) : AtA Z h' b' ty n f g := by
  obtain ⟨cl, h1, h2, h3⟩ := H
  exact ⟨cl, h1.other W hne, h2, h3⟩
theorem AtA.ext {b' : Addr} {ty : FieldType} {n : Int32} {f : Int32 → Int32} {g : Int32 → Int64} (E : Ext h h') (H : AtA Z h b' ty n f g) : AtA Z h' b' ty n f g := by
  obtain ⟨cl, h1, h2, h3⟩ := H
  exact ⟨cl, h1.ext E, h2, h3⟩
theorem clamp_lt {x n : Int32} (h0 : ¬ x < 0) (h1 : x < n) : x.toNatClampNeg < n.toNatClampNeg := by
  simp only [Int32.lt_iff_toInt_lt, Int32.reduceToInt, Int32.toNatClampNeg] at *
  omega
theorem in_of {x n : Int32} {cl : Cell} (h2 : cl.slots.size = n.toNatClampNeg) (h0 : ¬ x < 0) (h1 : x < n) : ¬ (x < 0 ∨ cl.slots.size ≤ x.toNatClampNeg) := by
  have := clamp_lt h0 h1
  rintro (q | q)
  · exact h0 q
  · omega
theorem AtA.stI {b : Addr} {ty : FieldType} {n : Int32} {f : Int32 → Int32} {g : Int32 → Int64} {j x : Int32} (hty : ty ≠ .long) (h0 : ¬ j < 0) (h1 : j < n) (W : Wr h h' b j.toNatClampNeg (.int x)) (H : AtA Z h b ty n f g) : AtA Z h' b ty n (ups f j x) g := by
  obtain ⟨cl, g1, g2, g3⟩ := H
  refine ⟨_, g1.same W, by rw [sz_set]; exact g2, fun y y0 y1 => ?_⟩
  by_cases e : y = j
  · rw [get_hit (in_of g2 h0 h1) e, e, ups_at, el_int hty]
  · rw [get_miss h0 y0 e, ups_ne _ _ e]; exact g3 y y0 y1
theorem AtA.stJ {b : Addr} {n : Int32} {f : Int32 → Int32} {g : Int32 → Int64} {j : Int32} {x : Int64} (h0 : ¬ j < 0) (h1 : j < n) (W : Wr h h' b j.toNatClampNeg (.long x)) (H : AtA Z h b .long n f g) : AtA Z h' b .long n f (ups g j x) := by
  obtain ⟨cl, g1, g2, g3⟩ := H
  refine ⟨_, g1.same W, by rw [sz_set]; exact g2, fun y y0 y1 => ?_⟩
  by_cases e : y = j
  · rw [get_hit (in_of g2 h0 h1) e, e, ups_at]; rfl
  · rw [get_miss h0 y0 e, ups_ne _ _ e]; exact g3 y y0 y1
theorem relC.putI (ok : CO Z a0 cd) {i : Nat} {n d : String} {x : Int32} (hR : relC Z cd en (k, F, G, A, B) h) (ht : (i, n, d) ∈ cd.2.1) (W : Wr h h' en.1 (Jvm.RoadKit.slotOf Z cd.1 n d) (.int x)) : relC Z cd en (k, ups F i x, G, A, B) h' := by
  obtain ⟨r1, r2, r3, r4, r5, r6⟩ := hR
  obtain ⟨-, o2, o3, o4, q1, q2, q3, q4, q5, q6, q7, q8⟩ := ok
  obtain ⟨ty0, p0⟩ : ∃ ty, parseFieldDescriptor d = some ty := by rcases q7 _ ht with q | q <;> exact ⟨_, q⟩
  refine ⟨r1, r2.wr W, fun t m => ?_, fun t m => ?_, fun t m => ⟨fun hk => ?_, fun hk => ?_⟩, fun q => ?_⟩
  · obtain ⟨u1, u2⟩ := q1 _ m _ ht
    by_cases e : t.1 = i
    · have e2 := u1 e
      subst e2
      show Fld Z h' en.1 cd.1 n d (.int (ups F i x i))
      rw [ups_at]
      exact (r3 _ ht).same W
    · show Fld Z h' en.1 cd.1 _ _ (.int (ups F i x t.1))
      rw [ups_ne _ _ e]
      obtain ⟨ty1, p1⟩ : ∃ ty, parseFieldDescriptor t.2.2 = some ty := by rcases q7 _ m with q | q <;> exact ⟨_, q⟩
      have z0 := slot_ne (o2 _ m) (o2 _ ht) (u2 e) p1 p0
      exact (r3 t m).other W (Or.inr z0)
  · have e1 := o3 _ m
    have e2 := o2 _ ht
    have e3 := q4 _ ht _ m
    have e4 := snJ e1 e2 (Ne.symm e3) p0
    have e5 := r4 t m
    exact e5.other W (Or.inr e4)
  · obtain ⟨a1, a2⟩ := (r5 t m).1 hk
    have z0 := slot_ne (o4 _ m) (o2 _ ht) (Ne.symm (q5 _ ht _ m)) (q8 _ m).1 p0
    exact ⟨a1.other W (Or.inr z0), a2.other W (nn (by omega))⟩
  · have z0 := slot_ne (o4 _ m) (o2 _ ht) (Ne.symm (q5 _ ht _ m)) (q8 _ m).1 p0
    exact ((r5 t m).2 hk).other W (Or.inr z0)
  · rw [W.size]; exact r6 q
theorem relC.putJ (ok : CO Z a0 cd) {i : Nat} {n : String} {x : Int64} (hR : relC Z cd en (k, F, G, A, B) h) (ht : (i, n) ∈ cd.2.2.1) (W : Wr h h' en.1 (Jvm.RoadKit.slotOf Z cd.1 n "J") (.long x)) : relC Z cd en (k, F, ups G i x, A, B) h' := by
  obtain ⟨r1, r2, r3, r4, r5, r6⟩ := hR
  obtain ⟨-, o2, o3, o4, q1, q2, q3, q4, q5, q6, q7, q8⟩ := ok
  refine ⟨r1, r2.wr W, fun t m => ?_, fun t m => ?_, fun t m => ⟨fun hk => ?_, fun hk => ?_⟩, fun q => ?_⟩
  · obtain ⟨ty1, p1⟩ : ∃ ty, parseFieldDescriptor t.2.2 = some ty := by rcases q7 _ m with q | q <;> exact ⟨_, q⟩
    have z0 := Ne.symm (snJ (o3 _ ht) (o2 _ m) (Ne.symm (q4 _ m _ ht)) p1)
    exact (r3 t m).other W (Or.inr z0)
  · obtain ⟨u1, u2⟩ := q2 _ m _ ht
    by_cases e : t.1 = i
    · have e2 := u1 e
      subst e2
      show Fld Z h' en.1 cd.1 n "J" (.long (ups G i x i))
      rw [ups_at]
      exact (r4 _ ht).same W
    · show Fld Z h' en.1 cd.1 _ _ (.long (ups G i x t.1))
      rw [ups_ne _ _ e]
      have z0 := snJ (o3 _ m) (o3 _ ht) (u2 e) pJ
      exact (r4 t m).other W (Or.inr z0)
  · obtain ⟨a1, a2⟩ := (r5 t m).1 hk
    have z0 := Ne.symm (snJ (o3 _ ht) (o4 _ m) (q6 _ ht _ m) (q8 _ m).1)
    exact ⟨a1.other W (Or.inr z0), a2.other W (nn (by omega))⟩
  · have z0 := Ne.symm (snJ (o3 _ ht) (o4 _ m) (q6 _ ht _ m) (q8 _ m).1)
    exact ((r5 t m).2 hk).other W (Or.inr z0)
  · rw [W.size]; exact r6 q
theorem relC.stI (ok : CO Z a0 cd) {i : Nat} {n d : String} {ty : FieldType} {len j x : Int32} (hty : ty ≠ .long) (h0 : ¬ j < 0) (h1 : j < len) (hR : relC Z cd en (k, F, G, A, B) h) (ht : (i, n, d, ty, len) ∈ cd.2.2.2) (W : Wr h h' (en.1 + (i + 1)) j.toNatClampNeg (.int x)) : relC Z cd en (k, F, G, ups A i (ups (A i) j x), B) h' := by
  obtain ⟨r1, r2, r3, r4, r5, r6⟩ := hR
  obtain ⟨-, o2, o3, o4, q1, q2, q3, q4, q5, q6, q7, q8⟩ := ok
  refine ⟨r1, r2.wr W, fun t m => (r3 t m).other W (Or.inl (nn (by omega))), fun t m => (r4 t m).other W (Or.inl (nn (by omega))), fun t m => ⟨fun hk => ?_, fun hk => ((r5 t m).2 hk).other W (Or.inl (nn (by omega)))⟩, fun q => by rw [W.size]; exact r6 q⟩
  obtain ⟨a1, a2⟩ := (r5 t m).1 hk
  refine ⟨a1.other W (Or.inl (nn (by omega))), ?_⟩
  obtain ⟨u1, u2⟩ := q3 _ m _ ht
  show AtA Z h' _ _ _ (ups A i (ups (A i) j x) t.1) (B t.1)
  by_cases e : t.1 = i
  · have e2 := u1 e
    subst e2
    rw [ups_at]
    exact a2.stI hty h0 h1 W
  · rw [ups_ne _ _ e]
    exact a2.other W (nn (by omega))
theorem relC.stJ (ok : CO Z a0 cd) {i : Nat} {n d : String} {len j : Int32} {x : Int64} (h0 : ¬ j < 0) (h1 : j < len) (hR : relC Z cd en (k, F, G, A, B) h) (ht : (i, n, d, .long, len) ∈ cd.2.2.2) (W : Wr h h' (en.1 + (i + 1)) j.toNatClampNeg (.long x)) : relC Z cd en (k, F, G, A, ups B i (ups (B i) j x)) h' := by
  obtain ⟨r1, r2, r3, r4, r5, r6⟩ := hR
  obtain ⟨-, o2, o3, o4, q1, q2, q3, q4, q5, q6, q7, q8⟩ := ok
  refine ⟨r1, r2.wr W, fun t m => (r3 t m).other W (Or.inl (nn (by omega))), fun t m => (r4 t m).other W (Or.inl (nn (by omega))), fun t m => ⟨fun hk => ?_, fun hk => ((r5 t m).2 hk).other W (Or.inl (nn (by omega)))⟩, fun q => by rw [W.size]; exact r6 q⟩
  obtain ⟨a1, a2⟩ := (r5 t m).1 hk
  refine ⟨a1.other W (Or.inl (nn (by omega))), ?_⟩
  obtain ⟨u1, u2⟩ := q3 _ m _ ht
  show AtA Z h' _ _ _ (A t.1) (ups B i (ups (B i) j x) t.1)
  by_cases e : t.1 = i
  · have e2 := u1 e
    subst e2
    rw [ups_at]
    exact a2.stJ h0 h1 W
  · rw [ups_ne _ _ e]
    exact a2.other W (nn (by omega))
theorem relC.newA (ok : CO Z a0 cd) {h1 : Heap} {n d : String} {ty : FieldType} {len : Int32} {cA : ClassId} (hR : relC Z cd en (k, F, G, A, B) h) (ht : (k, n, d, ty, len) ∈ cd.2.2.2) (hA : A k = fun _ => 0) (hB : B k = fun _ => 0) (E : Ext h h1) (N : Arr Z h1 h.size (Jvm.RoadKit.newA cA ty len) ty) (W : Wr h1 h' en.1 (Jvm.RoadKit.slotOf Z cd.1 n d) (.ref h.size)) (hz : h'.size = h.size + 1) : relC Z cd en (k + 1, F, G, A, B) h' := by
  obtain ⟨r1, r2, r3, r4, r5, r6⟩ := hR
  obtain ⟨-, o2, o3, o4, q1, q2, q3, q4, q5, q6, q7, q8⟩ := ok
  have hsz : h.size = en.1 + 1 + k := r6 (q8 _ ht).2.1
  refine ⟨r1, (r2.ext E).wr W, fun t m => ?_, fun t m => ?_, fun t m => ⟨fun hk => ?_, fun hk => ?_⟩, fun q => ?_⟩
  · obtain ⟨ty1, p1⟩ : ∃ ty, parseFieldDescriptor t.2.2 = some ty := by rcases q7 _ m with q | q <;> exact ⟨_, q⟩
    have z0 := slot_ne (o2 _ m) (o4 _ ht) (q5 _ m _ ht) p1 (q8 _ ht).1
    exact ((r3 t m).ext E).other W (Or.inr z0)
  · have z0 := snJ (o3 _ m) (o4 _ ht) (q6 _ m _ ht) (q8 _ ht).1
    exact ((r4 t m).ext E).other W (Or.inr z0)
  · obtain ⟨u1, u2⟩ := q3 _ m _ ht
    by_cases e : t.1 = k
    · have e2 := u1 e
      subst e2
      have f0 := ((r5 _ ht).2 (Nat.lt_irrefl k)).ext E
      refine ⟨?_, ?_⟩
      · have := f0.same W
        rw [hsz] at this
        show Fld Z h' en.1 cd.1 n d (.ref (en.1 + (k + 1)))
        rw [show en.1 + (k + 1) = en.1 + 1 + k by omega]
        exact this
      · show AtA Z h' (en.1 + (k + 1)) ty len (A k) (B k)
        rw [hA, hB, show en.1 + (k + 1) = h.size by omega]
        refine AtA.other W ⟨_, N, sz_new _ _ _, fun x x0 x1 => ?_⟩ (nn (by omega))
        rw [get_new (in_of (cl := Jvm.RoadKit.newA cA ty len) (sz_new _ _ _) x0 x1 |> fun q => by rwa [sz_new] at q)]
        have o := (q8 _ ht).2.2.1
        rcases o with o | o | o <;> (have o' : ty = _ := o; subst o'; rfl)
    · obtain ⟨a1, a2⟩ := (r5 t m).1 (by show t.1 < k; have : t.1 < k + 1 := hk; omega)
      have z0 := slot_ne (o4 _ m) (o4 _ ht) (u2 e) (q8 _ m).1 (q8 _ ht).1
      exact ⟨(a1.ext E).other W (Or.inr z0), (a2.ext E).other W (nn (by omega))⟩
  · obtain ⟨u1, u2⟩ := q3 _ m _ ht
    have hk' : ¬ t.1 < k + 1 := hk
    have z0 := slot_ne (o4 _ m) (o4 _ ht) (u2 (by show t.1 ≠ k; omega)) (q8 _ m).1 (q8 _ ht).1
    exact (((r5 t m).2 (by show ¬ t.1 < k; omega)).ext E).other W (Or.inr z0)
  · show h'.size = en.1 + 1 + (k + 1)
    omega
end Rel
section StepsC
variable {l : Launch} {Z : State} {a0 : Array Value} {cd : CD} {md : MD} {pc pc' pc1 : Nat} {L L' : List Slot} {S : List Value} {k : Nat} {F : Nat → Int32} {G : Nat → Int64} {A : Nat → Int32 → Int32} {B : Nat → Int32 → Int64} {cu su cu' su' : Nat} {Q : Option Value → WO → Prop} {idx : Nat}
theorem Wk.getI {i : Nat} {n d : String} {x : Int32} (ht : (i, n, d) ∈ cd.2.1) (wl : (Cond.fieldLink cd.1 idx cd.1 n d).before a0 Z = true) (hd : InsA md pc (.getfield idx) 3 pc') (hx : F i = x) (h : Wk l Z (MoC Z cd) md pc' L (.int x :: S) (k, F, G, A, B) cu su Q) : Wk l Z (MoC Z cd) md pc L (.ref 0 :: S) (k, F, G, A, B) cu su Q :=
  fun en p e s m args below meth c T locs r X K hz hF hR hL => by
  obtain ⟨hd, rfl⟩ := hd
  subst hx
  obtain ⟨T1, X1, e1, st⟩ := getF X K.1 K.2.1 K.2.2.1 (host := "") (Or.inl wl) Via.refl rfl (hR.2.2.1 _ ht) (g := mkF m pc r (.ref en.1 :: S.map (rv ((MoC Z cd).rho en)))) rfl rfl (hb K.by hd)
  refine (h en p e s m args below meth c T1 locs r X1 K (by rw [e1]; exact hz) hF (by rw [e1]; exact hR) hL).pre (fun _ q => by rw [e1] at q; exact q) fun t q => st t q
theorem Wk.getJ {i : Nat} {n : String} {x : Int64} (ht : (i, n) ∈ cd.2.2.1) (wl : (Cond.fieldLink cd.1 idx cd.1 n "J").before a0 Z = true) (hd : InsA md pc (.getfield idx) 3 pc') (hx : G i = x) (h : Wk l Z (MoC Z cd) md pc' L (.long x :: S) (k, F, G, A, B) cu su Q) : Wk l Z (MoC Z cd) md pc L (.ref 0 :: S) (k, F, G, A, B) cu su Q :=
  fun en p e s m args below meth c T locs r X K hz hF hR hL => by
  obtain ⟨hd, rfl⟩ := hd
  subst hx
  obtain ⟨T1, X1, e1, st⟩ := getF X K.1 K.2.1 K.2.2.1 (host := "") (Or.inl wl) Via.refl rfl (hR.2.2.2.1 _ ht) (g := mkF m pc r (.ref en.1 :: S.map (rv ((MoC Z cd).rho en)))) rfl rfl (hb K.by hd)
  refine (h en p e s m args below meth c T1 locs r X1 K (by rw [e1]; exact hz) hF (by rw [e1]; exact hR) hL).pre (fun _ q => by rw [e1] at q; exact q) fun t q => st t q
theorem Wk.getA {i i' : Nat} {n d : String} {ty : FieldType} {len : Int32} (ht : (i, n, d, ty, len) ∈ cd.2.2.2) (hi : i < k) (hi' : i + 1 = i') (wl : (Cond.fieldLink cd.1 idx cd.1 n d).before a0 Z = true) (hd : InsA md pc (.getfield idx) 3 pc') (h : Wk l Z (MoC Z cd) md pc' L (.ref i' :: S) (k, F, G, A, B) cu su Q) : Wk l Z (MoC Z cd) md pc L (.ref 0 :: S) (k, F, G, A, B) cu su Q :=
  fun en p e s m args below meth c T locs r X K hz hF hR hL => by
  obtain ⟨hd, rfl⟩ := hd
  subst hi'
  obtain ⟨T1, X1, e1, st⟩ := getF X K.1 K.2.1 K.2.2.1 (host := "") (Or.inl wl) Via.refl rfl ((hR.2.2.2.2.1 _ ht).1 hi).1 (g := mkF m pc r (.ref en.1 :: S.map (rv ((MoC Z cd).rho en)))) rfl rfl (hb K.by hd)
  refine (h en p e s m args below meth c T1 locs r X1 K (by rw [e1]; exact hz) hF (by rw [e1]; exact hR) hL).pre (fun _ q => by rw [e1] at q; exact q) fun t q => st t q
theorem Wk.putI (ok : CO Z a0 cd) {i : Nat} {n : String} {x : Int32} (ht : (i, n, "I") ∈ cd.2.1) (wl : (Cond.fieldLink cd.1 idx cd.1 n "I").before a0 Z = true) (wy : (Cond.lays cd.1 cd.1 n "I").before a0 Z = true ∨ ((Cond.laysFinal cd.1 cd.1 n "I").before a0 Z = true ∧ (nmOf md).name = "<init>")) (hd : InsA md pc (.putfield idx) 3 pc') (h : Wk l Z (MoC Z cd) md pc' L S (k, ups F i x, G, A, B) cu su Q) : Wk l Z (MoC Z cd) md pc L (.int x :: .ref 0 :: S) (k, F, G, A, B) cu su Q :=
  fun en p e s m args below meth c T locs r X K hz hF hR hL => by
  obtain ⟨hd, rfl⟩ := hd
  obtain ⟨kk, wi⟩ := ok.1
  obtain ⟨T1, h1, X1, e1, W1, st⟩ := putF X K.1 K.2.1 K.2.2.1 (host := "") (Or.inl wl) Via.refl rfl (hR.2.2.1 _ ht) hR.2.1 (wy.imp id fun q => ⟨q.1, rfl, K.2.2.2.1.trans q.2⟩) wi (ty := .int) (v := .int x) (by decide +kernel) rfl rfl (g := mkF m pc r (.int x :: .ref en.1 :: S.map (rv ((MoC Z cd).rho en)))) rfl rfl (hb K.by hd)
  subst e1
  exact (h en p e s m args below meth c T1 _ r X1 K (by rw [W1.size]; exact hz) (Fr.snoc X1 hF hR.1) (relC.putI ok hR ht W1) hL).pre (fun _ q => (frmC.wr W1 (Nat.le_refl _) (Nat.le_add_right _ _)).trans q) fun t q => st t q
theorem Wk.putZ (ok : CO Z a0 cd) {i : Nat} {n : String} {x y : Int32} (hy : nar .boolean x = y) (ht : (i, n, "Z") ∈ cd.2.1) (wl : (Cond.fieldLink cd.1 idx cd.1 n "Z").before a0 Z = true) (wy : (Cond.lays cd.1 cd.1 n "Z").before a0 Z = true ∨ ((Cond.laysFinal cd.1 cd.1 n "Z").before a0 Z = true ∧ (nmOf md).name = "<init>")) (hd : InsA md pc (.putfield idx) 3 pc') (h : Wk l Z (MoC Z cd) md pc' L S (k, ups F i y, G, A, B) cu su Q) : Wk l Z (MoC Z cd) md pc L (.int x :: .ref 0 :: S) (k, F, G, A, B) cu su Q :=
  fun en p e s m args below meth c T locs r X K hz hF hR hL => by
  obtain ⟨hd, rfl⟩ := hd
  subst hy
  obtain ⟨kk, wi⟩ := ok.1
  obtain ⟨T1, h1, X1, e1, W1, st⟩ := putFN X K.1 K.2.1 K.2.2.1 wl Via.refl rfl (hR.2.2.1 _ ht) hR.2.1 (wy.imp id fun q => ⟨q.1, rfl, K.2.2.2.1.trans q.2⟩) wi (ty := .boolean) (v := .int x) (v' := .int (nar .boolean x)) (by decide +kernel) rfl (fits_nar_bool x) (g := mkF m pc r (.int x :: .ref en.1 :: S.map (rv ((MoC Z cd).rho en)))) rfl rfl (hb K.by hd)
  subst e1
  exact (h en p e s m args below meth c T1 _ r X1 K (by rw [W1.size]; exact hz) (Fr.snoc X1 hF hR.1) (relC.putI ok hR ht W1) hL).pre (fun _ q => (frmC.wr W1 (Nat.le_refl _) (Nat.le_add_right _ _)).trans q) fun t q => st t q
theorem Wk.putJ (ok : CO Z a0 cd) {i : Nat} {n : String} {x : Int64} (ht : (i, n) ∈ cd.2.2.1) (wl : (Cond.fieldLink cd.1 idx cd.1 n "J").before a0 Z = true) (wy : (Cond.lays cd.1 cd.1 n "J").before a0 Z = true ∨ ((Cond.laysFinal cd.1 cd.1 n "J").before a0 Z = true ∧ (nmOf md).name = "<init>")) (hd : InsA md pc (.putfield idx) 3 pc') (h : Wk l Z (MoC Z cd) md pc' L S (k, F, ups G i x, A, B) cu su Q) : Wk l Z (MoC Z cd) md pc L (.long x :: .ref 0 :: S) (k, F, G, A, B) cu su Q :=
  fun en p e s m args below meth c T locs r X K hz hF hR hL => by
  obtain ⟨hd, rfl⟩ := hd
  obtain ⟨kk, wi⟩ := ok.1
  obtain ⟨T1, h1, X1, e1, W1, st⟩ := putF X K.1 K.2.1 K.2.2.1 (host := "") (Or.inl wl) Via.refl rfl (hR.2.2.2.1 _ ht) hR.2.1 (wy.imp id fun q => ⟨q.1, rfl, K.2.2.2.1.trans q.2⟩) wi (ty := .long) (v := .long x) (by decide +kernel) rfl rfl (g := mkF m pc r (.long x :: .ref en.1 :: S.map (rv ((MoC Z cd).rho en)))) rfl rfl (hb K.by hd)
  subst e1
  exact (h en p e s m args below meth c T1 _ r X1 K (by rw [W1.size]; exact hz) (Fr.snoc X1 hF hR.1) (relC.putJ ok hR ht W1) hL).pre (fun _ q => (frmC.wr W1 (Nat.le_refl _) (Nat.le_add_right _ _)).trans q) fun t q => st t q
/-- an array is made and laid into its field at once -/
theorem Wk.newA (ok : CO Z a0 cd) {aty : ArrayType} {len : Int32} {n d : String} {ty : FieldType} {k' : Nat} (hty : newarray.typeOf aty = ty) (wa : (Cond.arrayClass (newarray.typeOf aty)).before a0 Z = true) (ht : (k, n, d, ty, len) ∈ cd.2.2.2) (wl : (Cond.fieldLink cd.1 idx cd.1 n d).before a0 Z = true)
    (wy : (Cond.lays cd.1 cd.1 n d).before a0 Z = true ∨ ((Cond.laysFinal cd.1 cd.1 n d).before a0 Z = true ∧ (nmOf md).name = "<init>")) (hd : InsA md pc (.newarray aty) 2 pc1) (hd2 : InsA md pc1 (.putfield idx) 3 pc') (hA : A k = fun _ => 0) (hB : B k = fun _ => 0) (hk : k + 1 = k') (hcu : cu + 1 = cu') (hsu : su + len.toNatClampNeg = su')
    (hcap : len.toNatClampNeg * 8 ≤ 536870912) (hc : cu' ≤ (rmOf md).cells) (hs : su' ≤ (rmOf md).slots) (h : Wk l Z (MoC Z cd) md pc' L S (k', F, G, A, B) cu' su' Q) : Wk l Z (MoC Z cd) md pc L (.int len :: .ref 0 :: S) (k, F, G, A, B) cu su Q :=
  fun en p e s m args below meth c T locs r X K hz hF hR hL => by
  obtain ⟨hd, rfl⟩ := hd
  obtain ⟨hd2, rfl⟩ := hd2
  subst hk hcu hsu hty
  obtain ⟨kk, wi⟩ := ok.1
  have p8 := ok.2.2.2.2.2.2.2.2.2.2.2 _ ht
  obtain ⟨T1, h1, cA, X1, e1, E1, N1, st1⟩ := newP X K.1 K.2.1 wa rfl (g := mkF m pc r (.int len :: .ref en.1 :: S.map (rv ((MoC Z cd).rho en)))) rfl (hb K.by hd) rfl p8.2.2.2 (cap := len.toNatClampNeg) (Nat.le_refl _) hcap hc hs
  subst e1
  obtain ⟨T2, h2, X2, e2, W2, st2⟩ := putF X1 K.1 K.2.1 K.2.2.1 (host := "") (Or.inl wl) Via.refl rfl (((hR.2.2.2.2.1 _ ht).2 (Nat.lt_irrefl k)).ext E1) (hR.2.1.ext E1) (wy.imp id fun q => ⟨q.1, rfl, K.2.2.2.1.trans q.2⟩) wi (v := .ref T.heap.size) p8.1 rfl rfl (g := mkF m (pc + 2) r (.ref T.heap.size :: .ref en.1 :: S.map (rv ((MoC Z cd).rho en)))) rfl rfl (hb K.by hd2)
  subst e2
  have z1 := X1.heapSize
  have z2 : (T.heap.size : Nat) < T1.heap.size := N1.lt
  have z3 := W2.size
  exact (h en p e s m args below meth c T2 _ r X2 K (by omega) (Fr.snoc X2 hF hR.1) (relC.newA ok hR ht hA hB E1 N1 W2 (by omega)) hL).pre (fun _ q => ((frmC.ext E1).trans (frmC.wr W2 (Nat.le_refl _) (Nat.le_add_right _ _))).trans q) fun t q => st1 t (st2 t q)
theorem relC.arr {en : Nat × Nat} {h : Heap} {i : Nat} {n d : String} {ty : FieldType} {len : Int32} (hR : relC Z cd en (k, F, G, A, B) h) (ht : (i, n, d, ty, len) ∈ cd.2.2.2) (hi : i < k) : AtA Z h (en.1 + (i + 1)) ty len (A i) (B i) := ((hR.2.2.2.2.1 _ ht).1 hi).2
theorem Wk.iaload {i i' : Nat} {n d : String} {len x : Int32} {y : Int32} (ht : (i, n, d, .int, len) ∈ cd.2.2.2) (hi : i < k) (hi' : i + 1 = i') (h0 : ¬ x < 0) (h1 : x < len) (hd : InsA md pc .iaload 1 pc') (hy : A i x = y) (h : Wk l Z (MoC Z cd) md pc' L (.int y :: S) (k, F, G, A, B) cu su Q) : Wk l Z (MoC Z cd) md pc L (.int x :: .ref i' :: S) (k, F, G, A, B) cu su Q :=
  fun en p e s m args below meth c T locs r X K hz hF hR hL => by
  obtain ⟨hd, rfl⟩ := hd
  subst hi' hy
  obtain ⟨cl, g1, g2, g3⟩ := relC.arr hR ht hi
  exact (h en p e s m args below meth c T locs r X K hz hF hR hL).pre (fun _ q => q) fun t q => X.iaload K.1 (j := x) (v := .int (A i x)) g1.1 (State.isArrayOf_alike K.2.1.alike g1.2.1) g1.2.2 (in_of g2 h0 h1) (g3 x h0 h1) (g := mkF m pc r (.int x :: .ref (en.1 + (i + 1)) :: S.map (rv ((MoC Z cd).rho en)))) rfl rfl (hb K.by hd) _ q
theorem Wk.baload {i i' : Nat} {n d : String} {len x : Int32} {y : Int32} (ht : (i, n, d, .boolean, len) ∈ cd.2.2.2) (hi : i < k) (hi' : i + 1 = i') (h0 : ¬ x < 0) (h1 : x < len) (hd : InsA md pc .baload 1 pc') (hy : A i x = y) (h : Wk l Z (MoC Z cd) md pc' L (.int y :: S) (k, F, G, A, B) cu su Q) : Wk l Z (MoC Z cd) md pc L (.int x :: .ref i' :: S) (k, F, G, A, B) cu su Q :=
  fun en p e s m args below meth c T locs r X K hz hF hR hL => by
  obtain ⟨hd, rfl⟩ := hd
  subst hi' hy
  obtain ⟨cl, g1, g2, g3⟩ := relC.arr hR ht hi
  exact (h en p e s m args below meth c T locs r X K hz hF hR hL).pre (fun _ q => q) fun t q => X.baloadBooleans K.1 (j := x) (v := .int (A i x)) g1.1 (State.isArrayOf_alike K.2.1.alike g1.2.1) g1.2.2 (in_of g2 h0 h1) (g3 x h0 h1) (g := mkF m pc r (.int x :: .ref (en.1 + (i + 1)) :: S.map (rv ((MoC Z cd).rho en)))) rfl rfl (hb K.by hd) _ q
theorem Wk.laload {i i' : Nat} {n d : String} {len x : Int32} {y : Int64} (ht : (i, n, d, .long, len) ∈ cd.2.2.2) (hi : i < k) (hi' : i + 1 = i') (h0 : ¬ x < 0) (h1 : x < len) (hd : InsA md pc .laload 1 pc') (hy : B i x = y) (h : Wk l Z (MoC Z cd) md pc' L (.long y :: S) (k, F, G, A, B) cu su Q) : Wk l Z (MoC Z cd) md pc L (.int x :: .ref i' :: S) (k, F, G, A, B) cu su Q :=
  fun en p e s m args below meth c T locs r X K hz hF hR hL => by
  obtain ⟨hd, rfl⟩ := hd
  subst hi' hy
  obtain ⟨cl, g1, g2, g3⟩ := relC.arr hR ht hi
  exact (h en p e s m args below meth c T locs r X K hz hF hR hL).pre (fun _ q => q) fun t q => X.laload K.1 (j := x) (v := .long (B i x)) g1.1 (State.isArrayOf_alike K.2.1.alike g1.2.1) g1.2.2 (in_of g2 h0 h1) (g3 x h0 h1) (g := mkF m pc r (.int x :: .ref (en.1 + (i + 1)) :: S.map (rv ((MoC Z cd).rho en)))) rfl rfl (hb K.by hd) _ q
theorem Wk.iastore (ok : CO Z a0 cd) {f : Int32 → Int32} {i i' : Nat} {n d : String} {len x v : Int32} (ht : (i, n, d, .int, len) ∈ cd.2.2.2) (hf : A i = f) (hi : i < k) (hi' : i + 1 = i') (h0 : ¬ x < 0) (h1 : x < len) (hd : InsA md pc .iastore 1 pc') (h : Wk l Z (MoC Z cd) md pc' L S (k, F, G, ups A i (ups f x v), B) cu su Q) : Wk l Z (MoC Z cd) md pc L (.int v :: .int x :: .ref i' :: S) (k, F, G, A, B) cu su Q :=
  fun en p e s m args below meth c T locs r X K hz hF hR hL => by
  obtain ⟨hd, rfl⟩ := hd
  subst hi' hf
  obtain ⟨cl, g1, g2, g3⟩ := relC.arr hR ht hi
  obtain ⟨T1, e1', X1, e1, W1, st⟩ := stI X K.1 K.2.1 rfl g1 (in_of g2 h0 h1) (g := mkF m pc r (.int v :: .int x :: .ref (en.1 + (i + 1)) :: S.map (rv ((MoC Z cd).rho en)))) rfl rfl (hb K.by hd)
  subst e1
  have p8 := (ok.2.2.2.2.2.2.2.2.2.2.2 _ ht).2.1
  exact (h en p e s m args below meth c T1 _ r X1 K (by rw [W1.size]; exact hz) (Fr.snoc X1 hF (Nat.le_trans hR.1 (Nat.le_add_right _ _))) (relC.stI ok (by decide) h0 h1 hR ht W1) hL).pre (fun _ q => (frmC.wr W1 (Nat.le_add_right _ _) (Nat.add_le_add_left (show i + 1 ≤ cd.2.2.2.length from p8) _)).trans q) fun t q => st t q
theorem Wk.bastore (ok : CO Z a0 cd) {f : Int32 → Int32} {i i' : Nat} {n d : String} {len x v v' : Int32} (hv : nar .boolean v = v') (ht : (i, n, d, .boolean, len) ∈ cd.2.2.2) (hf : A i = f) (hi : i < k) (hi' : i + 1 = i') (h0 : ¬ x < 0) (h1 : x < len) (hd : InsA md pc .bastore 1 pc') (h : Wk l Z (MoC Z cd) md pc' L S (k, F, G, ups A i (ups f x v'), B) cu su Q) : Wk l Z (MoC Z cd) md pc L (.int v :: .int x :: .ref i' :: S) (k, F, G, A, B) cu su Q :=
  fun en p e s m args below meth c T locs r X K hz hF hR hL => by
  obtain ⟨hd, rfl⟩ := hd
  subst hi' hv hf
  obtain ⟨cl, g1, g2, g3⟩ := relC.arr hR ht hi
  obtain ⟨T1, e1', X1, e1, W1, st⟩ := stZ X K.1 K.2.1 rfl g1 (in_of g2 h0 h1) (g := mkF m pc r (.int v :: .int x :: .ref (en.1 + (i + 1)) :: S.map (rv ((MoC Z cd).rho en)))) rfl rfl (hb K.by hd)
  subst e1
  have p8 := (ok.2.2.2.2.2.2.2.2.2.2.2 _ ht).2.1
  exact (h en p e s m args below meth c T1 _ r X1 K (by rw [W1.size]; exact hz) (Fr.snoc X1 hF (Nat.le_trans hR.1 (Nat.le_add_right _ _))) (relC.stI ok (by decide) h0 h1 hR ht W1) hL).pre (fun _ q => (frmC.wr W1 (Nat.le_add_right _ _) (Nat.add_le_add_left (show i + 1 ≤ cd.2.2.2.length from p8) _)).trans q) fun t q => st t q
theorem Wk.lastore (ok : CO Z a0 cd) {f : Int32 → Int64} {i i' : Nat} {n d : String} {len x : Int32} {v : Int64} (ht : (i, n, d, .long, len) ∈ cd.2.2.2) (hf : B i = f) (hi : i < k) (hi' : i + 1 = i') (h0 : ¬ x < 0) (h1 : x < len) (hd : InsA md pc .lastore 1 pc') (h : Wk l Z (MoC Z cd) md pc' L S (k, F, G, A, ups B i (ups f x v)) cu su Q) : Wk l Z (MoC Z cd) md pc L (.long v :: .int x :: .ref i' :: S) (k, F, G, A, B) cu su Q :=
  fun en p e s m args below meth c T locs r X K hz hF hR hL => by
  obtain ⟨hd, rfl⟩ := hd
  subst hi' hf
  obtain ⟨cl, g1, g2, g3⟩ := relC.arr hR ht hi
  obtain ⟨T1, e1', X1, e1, W1, st⟩ := stJ X K.1 K.2.1 rfl g1 (in_of g2 h0 h1) (g := mkF m pc r (.long v :: .int x :: .ref (en.1 + (i + 1)) :: S.map (rv ((MoC Z cd).rho en)))) rfl rfl (hb K.by hd)
  subst e1
  have p8 := (ok.2.2.2.2.2.2.2.2.2.2.2 _ ht).2.1
  exact (h en p e s m args below meth c T1 _ r X1 K (by rw [W1.size]; exact hz) (Fr.snoc X1 hF (Nat.le_trans hR.1 (Nat.le_add_right _ _))) (relC.stJ ok h0 h1 hR ht W1) hL).pre (fun _ q => (frmC.wr W1 (Nat.le_add_right _ _) (Nat.add_le_add_left (show i + 1 ≤ cd.2.2.2.length from p8) _)).trans q) fun t q => st t q
/-- Object.<init> -/
theorem Wk.initO {μ E : Type} {M : Mode μ E} {w : μ} {Q : Option Value → μ → Prop} {v : Nat} (w1 : (Cond.methodLink M.own idx Lib.objectInit).before a0 Z = true) (w2 : (Cond.instanceMethod Lib.objectInit).before a0 Z = true) (w3 : (Cond.code Lib.objectInit ⟨#[0xb1]⟩ 1 none).before a0 Z = true) (hd : InsA md pc (.invokespecial idx) 3 pc') (hl : L.length = mxOf md) (hf : 1 ≤ (rmOf md).frames) (hW : (S.map fun v => v.category).sum + 12 ≤ (rmOf md).locals)
    (h : Wk l Z M md pc' L S w cu su Q) : Wk l Z M md pc L (.ref v :: S) w cu su Q :=
  fun en p e s m args below meth c T locs r X K hz hF hR hL => by
  obtain ⟨hd, rfl⟩ := hd
  have cs : ∀ S : List Value, ((S.map (rv (M.rho en))).map fun v => v.category).sum = (S.map fun v => v.category).sum := fun S => by rw [List.map_map]; congr 1; exact List.map_congr_left fun v _ => rv_cat _ v
  obtain ⟨T1, X1, e1, st⟩ := Jvm.RoadKit.initO X K.1 K.2.1 K.2.2.1 w1 w2 w3 rfl (g := mkF m pc r (.ref (M.rho en v) :: S.map (rv (M.rho en)))) rfl (by show r.size = _; rw [hL.1, hl]; exact K.2.2.2.2.2.2.2.symm) rfl (hb K.by hd) hf (W := (S.map fun v => v.category).sum) (by show 2 * 0 + _ ≤ _; rw [cs]; omega) hW
  exact (h en p e s m args below meth c T1 locs r X1 K (by rw [e1]; exact hz) hF (by rw [e1]; exact hR) hL).pre (fun _ q => by rw [e1] at q; exact q) fun t q => st t q
end StepsC
end Jvm.Own

namespace Jvm.Own
open Jvm Jvm.ClassFile Sem Op Lib Jvm.Free Jvm.Stand Jvm.LawKit Jvm.RoadKit
/-! ## 4. Calls -/
def noRef : List Value → Bool
  | [] => true
  | .ref _ :: _ => false
  | _ :: t => noRef t
theorem noRef.map : (as : List Value) → noRef as = true → ∀ ρ, as.map (rv ρ) = as
  | [], _, _ => rfl
  | .ref _ :: _, h, _ => by cases h
  | .int _ :: t, h, ρ => by rw [List.map_cons, noRef.map t h ρ]; rfl
  | .long _ :: t, h, ρ => by rw [List.map_cons, noRef.map t h ρ]; rfl
  | .float _ :: t, h, ρ => by rw [List.map_cons, noRef.map t h ρ]; rfl
  | .double _ :: t, h, ρ => by rw [List.map_cons, noRef.map t h ρ]; rfl
  | .null :: t, h, ρ => by rw [List.map_cons, noRef.map t h ρ]; rfl
  | .retAddr _ :: t, h, ρ => by rw [List.map_cons, noRef.map t h ρ]; rfl
/-- what the words say of a callee: an instance method -/
def CalV (Z : State) (a0 : Array Value) (md : MD) (n : Nat) : Prop :=
  plainName (nmOf md).cls = true ∧ ((nmOf md).cls ≠ "java/lang/invoke/MethodHandle" ∧ (nmOf md).cls ≠ "java/lang/invoke/VarHandle") ∧ (∀ sig, parseMethodDescriptor (nmOf md).desc = some sig → n = sig.parameters.length) ∧
  (Cond.instanceMethod (nmOf md)).before a0 Z = true ∧ (Cond.code (nmOf md) (byOf md) (mxOf md) (rtOf md)).before a0 Z = true ∧ (Cond.initialized (nmOf md).cls).before a0 Z = true ∧
  (((Cond.declares (nmOf md)).before a0 Z = true ∧ (Cond.selects (nmOf md).cls (nmOf md) (nmOf md)).before a0 Z = true) ∨ ((Cond.privateMethod (nmOf md)).before a0 Z = true ∧ ∃ kk, (Cond.instantiable (nmOf md).cls kk).before a0 Z = true))
/-- a constructor -/
def CalI (Z : State) (a0 : Array Value) (md : MD) (n : Nat) : Prop :=
  plainName (nmOf md).cls = true ∧ ((nmOf md).cls ≠ "java/lang/invoke/MethodHandle" ∧ (nmOf md).cls ≠ "java/lang/invoke/VarHandle") ∧ (∀ sig, parseMethodDescriptor (nmOf md).desc = some sig → n = sig.parameters.length) ∧
  (Cond.instanceMethod (nmOf md)).before a0 Z = true ∧ (Cond.code (nmOf md) (byOf md) (mxOf md) (rtOf md)).before a0 Z = true ∧ (Cond.initialized (nmOf md).cls).before a0 Z = true ∧ (nmOf md).name = "<init>" ∧ rtOf md = none
/-- a static method -/
def CalS (Z : State) (a0 : Array Value) (md : MD) (n : Nat) : Prop :=
  plainName (nmOf md).cls = true ∧ ((nmOf md).cls ≠ "java/lang/invoke/MethodHandle" ∧ (nmOf md).cls ≠ "java/lang/invoke/VarHandle") ∧ (∀ sig, parseMethodDescriptor (nmOf md).desc = some sig → n = sig.parameters.length) ∧
  (Cond.static (nmOf md)).before a0 Z = true ∧ (Cond.code (nmOf md) (byOf md) (mxOf md) (rtOf md)).before a0 Z = true ∧ (Cond.initialized (nmOf md).cls).before a0 Z = true
/-- the figures of a call: the operands under it weigh wt -/
def Fits (md md' : MD) (wt cu su cu' su' : Nat) : Prop :=
  (rmOf md').frames + 1 ≤ (rmOf md).frames ∧ wt + (mxOf md' + 11) + (rmOf md').locals ≤ (rmOf md).locals ∧ cu + (rmOf md').cells = cu' ∧ su + (rmOf md').slots = su' ∧ cu' ≤ (rmOf md).cells ∧ su' ≤ (rmOf md).slots ∧ exOf md' = (rmOf md').cells
instance (md md' : MD) (wt cu su cu' su' : Nat) : Decidable (Fits md md' wt cu su cu' su') := by unfold Fits; infer_instance
section Core
variable {μ E : Type} {l : Launch} {Z : State} {a0 : Array Value} {M' : Mode μ E} {md md' : MD} {own : String} {p : Program} {e : Env} {s : State} {m : MethodId} {args : Array Value} {below : List Frame} {meth : Method} {c : Code} {T : State} {locs : List Loc} {cu su cu' su' wt pc idx : Nat} {as : List Value} {L' : List Slot} {w : μ} {Q' : Option Value → μ → Prop} {en : E} {a : Addr} {r : Array Slot} {rest : List Value}
theorem coreV (X : Stand p l e (rmOf md) s m args below meth c T locs cu su) (K : Kn Z own md p s m meth c) (hd : decode (byOf md) pc = .ok (.invokevirtual idx, 3)) (wl : (Cond.methodLink own idx (nmOf md')).before a0 Z = true) (cv : CalV Z a0 md' as.length) (hcal : Wk l Z M' md' 0 L' [] w 0 0 Q') (ho : M'.own = (nmOf md').cls) (hR : M'.rel en w T.heap) (hE : Exa Z T.heap a (nmOf md').cls) (ha : M'.rho en 0 = a)
    (hL : (argsToLocals (.ref 0 :: as).toArray (mxOf md')).toList = L') (hw : wfL L' = true) (ft : Fits md md' wt cu su cu' su') (hr : r.size = mxOf md) (hrest : (rest.map fun v => v.category).sum ≤ wt) :
    ∃ v T1 Lc w1, Stand p l e (rmOf md) s m args below meth c T1 (locs ++ Lc) cu' su' ∧ Q' v w1 ∧ M'.rel en w1 T1.heap ∧ M'.frm en T.heap T1.heap ∧ Fr (M'.lo en) Lc ∧ T1.heap.size = T.heap.size + exOf md' ∧ (∀ ρ x, v = some x → rv ρ x = x) ∧
      ∀ t, Steps p.tables e below (T1.setTop (mkF m (pc + 3) r (v.toList ++ rest))) t → Steps p.tables e below (T.setTop (mkF m pc r ((as.map (rv (M'.rho en))).reverse ++ .ref a :: rest))) t := by
  obtain ⟨v1, v2, v3, v4, v5, v6, v7⟩ := cv
  obtain ⟨f1, f2, f3, f4, f5, f6, f7⟩ := ft
  subst f3 f4 ha
  obtain ⟨hx, hZ, hown, -, -, -, hby, hml⟩ := K
  have bk := backOf (s := s) (args := args) (p := p) (e := e) (below := below) (len := 3) (W := wt) (R := rmOf md) (Q := fun v hh Lc => ∃ w', Q' v w' ∧ M'.rel en w' hh ∧ M'.frm en T.heap hh ∧ Fr (M'.lo en) Lc ∧ hh.size = T.heap.size + exOf md' ∧ ∀ ρ x, v = some x → rv ρ x = x) (hcal.met v1 ho hR (.ref 0 :: as) hL hw []) hZ v5 v6 f1 f2
  have hlen : ∀ sig, parseMethodDescriptor (nmOf md').desc = some sig → (as.map (rv (M'.rho en))).length = sig.parameters.length := fun sig q => by rw [List.length_map]; exact v3 sig q
  rcases v7 with ⟨d1, d2⟩ | ⟨d1, kk, d2⟩
  · obtain ⟨cq, kq, qa, qb, qc⟩ := isOf (T := T) hZ rfl hE
    obtain ⟨v, _, ⟨T1, L1, k1, n1⟩, -, X1, ⟨Lc, hQ, l1, y1, z1⟩, st⟩ := X.virtualBack hx (y := nmOf md') (z := nmOf md') hown (mvT hZ wl) (mvT hZ d1) (notFace_of_selects (args := #[]) (mvT hZ d2)) (mvT hZ d2) (mvT hZ v4) v2 bk qa qc (g := mkF m pc r ((as.map (rv (M'.rho en))).reverse ++ .ref (M'.rho en 0) :: rest)) rfl (hr.trans hml.symm) (Steps.refl _) (argsL := as.map (rv (M'.rho en))) (rest := rest) hlen rfl (by show 2 * 0 + _ ≤ _; omega) (hb hby hd) (fun _ _ => ⟨rfl, rfl, f5, f6⟩)
    dsimp only [Pt.U, Pt.locs, Pt.cells, Pt.slots] at X1 l1 y1 z1 st hQ
    subst l1 y1 z1
    obtain ⟨w1, q1, q2, q3, q4, q5, q6⟩ := hQ
    exact ⟨v, T1, Lc, w1, X1, q1, q2, q3, q4, q5, q6, fun t q => st.trans q⟩
  · obtain ⟨cc, kc, i1, i2, i3, i4, -⟩ := Cond.instantiable_spec (mvT (s := s) (args := #[]) hZ d2)
    have hni : kc.isInterface = false := by cases hq : kc.isInterface <;> simp [hq] at i4 ⊢
    have pv : s.PrivateAt (nmOf md') := Cond.privateMethod_at (mvP hZ d1 (args := #[]))
    have sel : (Cond.selects (nmOf md').cls (nmOf md') (nmOf md')).before args s = true := selects_self_of_private i1 i2 hni pv (mvT hZ v4) v2
    obtain ⟨cq, q7, q7'⟩ := hE.cell
    obtain ⟨v, _, ⟨T1, L1, k1, n1⟩, -, X1, ⟨Lc, hQ, l1, y1, z1⟩, st⟩ := X.privateBack hx (y := nmOf md') hown (mvT hZ wl) (mvT hZ v4) sel pv (mvT hZ v5) v2 bk (g := mkF m pc r ((as.map (rv (M'.rho en))).reverse ++ .ref (M'.rho en 0) :: rest)) rfl (hr.trans hml.symm) (Steps.refl _) (a := M'.rho en 0) q7 q7' (argsL := as.map (rv (M'.rho en))) (rest := rest) hlen rfl (by show 2 * 0 + _ ≤ _; omega) (hb hby hd) (fun _ _ => ⟨rfl, rfl, f5, f6⟩)
    dsimp only [Pt.U, Pt.locs, Pt.cells, Pt.slots] at X1 l1 y1 z1 st hQ
    subst l1 y1 z1
    obtain ⟨w1, q1, q2, q3, q4, q5, q6⟩ := hQ
    exact ⟨v, T1, Lc, w1, X1, q1, q2, q3, q4, q5, q6, fun t q => st.trans q⟩
theorem coreI (X : Stand p l e (rmOf md) s m args below meth c T locs cu su) (K : Kn Z own md p s m meth c) (hd : decode (byOf md) pc = .ok (.invokespecial idx, 3)) (wl : (Cond.methodLink own idx (nmOf md')).before a0 Z = true) (cv : CalI Z a0 md' as.length) (hcal : Wk l Z M' md' 0 L' [] w 0 0 Q') (ho : M'.own = (nmOf md').cls) (hR : M'.rel en w T.heap) (ha : M'.rho en 0 = a)
    (hL : (argsToLocals (.ref 0 :: as).toArray (mxOf md')).toList = L') (hw : wfL L' = true) (ft : Fits md md' wt cu su cu' su') (hr : r.size = mxOf md) (hrest : (rest.map fun v => v.category).sum ≤ wt) :
    ∃ v T1 Lc w1, Stand p l e (rmOf md) s m args below meth c T1 (locs ++ Lc) cu' su' ∧ Q' v w1 ∧ M'.rel en w1 T1.heap ∧ M'.frm en T.heap T1.heap ∧ Fr (M'.lo en) Lc ∧ T1.heap.size = T.heap.size + exOf md' ∧ (∀ ρ x, v = some x → rv ρ x = x) ∧
      ∀ t, Steps p.tables e below (T1.setTop (mkF m (pc + 3) r (v.toList ++ rest))) t → Steps p.tables e below (T.setTop (mkF m pc r ((as.map (rv (M'.rho en))).reverse ++ .ref a :: rest))) t := by
  obtain ⟨v1, v2, v3, v4, v5, v6, v7, v8⟩ := cv
  obtain ⟨f1, f2, f3, f4, f5, f6, f7⟩ := ft
  subst f3 f4 ha
  obtain ⟨hx, hZ, hown, -, -, -, hby, hml⟩ := K
  have bk := backOf (s := s) (args := args) (p := p) (e := e) (below := below) (len := 3) (W := wt) (R := rmOf md) (Q := fun v hh Lc => ∃ w', Q' v w' ∧ M'.rel en w' hh ∧ M'.frm en T.heap hh ∧ Fr (M'.lo en) Lc ∧ hh.size = T.heap.size + exOf md' ∧ ∀ ρ x, v = some x → rv ρ x = x) (hcal.met v1 ho hR (.ref 0 :: as) hL hw []) hZ v5 v6 f1 f2
  have hlen : ∀ sig, parseMethodDescriptor (nmOf md').desc = some sig → (as.map (rv (M'.rho en))).length = sig.parameters.length := fun sig q => by rw [List.length_map]; exact v3 sig q
  rw [v8] at v5
  obtain ⟨v, _, ⟨T1, L1, k1, n1⟩, -, X1, ⟨Lc, hQ, l1, y1, z1⟩, st⟩ := X.specialBack hx (y := nmOf md') v7 hown (mvT hZ wl) (mvT hZ v4) (mvT hZ v5) v2 bk (g := mkF m pc r ((as.map (rv (M'.rho en))).reverse ++ .ref (M'.rho en 0) :: rest)) rfl (hr.trans hml.symm) (Steps.refl _) (a := M'.rho en 0) (argsL := as.map (rv (M'.rho en))) (rest := rest) hlen rfl (by show 2 * 0 + _ ≤ _; omega) (hb hby hd) (fun _ _ => ⟨rfl, rfl, f5, f6⟩)
  dsimp only [Pt.U, Pt.locs, Pt.cells, Pt.slots] at X1 l1 y1 z1 st hQ
  subst l1 y1 z1
  obtain ⟨w1, q1, q2, q3, q4, q5, q6⟩ := hQ
  exact ⟨v, T1, Lc, w1, X1, q1, q2, q3, q4, q5, q6, fun t q => st.trans q⟩
theorem coreS (X : Stand p l e (rmOf md) s m args below meth c T locs cu su) (K : Kn Z own md p s m meth c) (hd : decode (byOf md) pc = .ok (.invokestatic idx, 3)) (wl : (Cond.methodLink own idx (nmOf md')).before a0 Z = true) (cv : CalS Z a0 md' as.length) (hcal : Wk l Z M' md' 0 L' [] w 0 0 Q') (ho : M'.own = (nmOf md').cls) (hR : M'.rel en w T.heap)
    (hL : (argsToLocals as.toArray (mxOf md')).toList = L') (hw : wfL L' = true) (ft : Fits md md' wt cu su cu' su') (hr : r.size = mxOf md) (hrest : (rest.map fun v => v.category).sum ≤ wt) :
    ∃ v T1 Lc w1, Stand p l e (rmOf md) s m args below meth c T1 (locs ++ Lc) cu' su' ∧ Q' v w1 ∧ M'.rel en w1 T1.heap ∧ M'.frm en T.heap T1.heap ∧ Fr (M'.lo en) Lc ∧ T1.heap.size = T.heap.size + exOf md' ∧ (∀ ρ x, v = some x → rv ρ x = x) ∧
      ∀ t, Steps p.tables e below (T1.setTop (mkF m (pc + 3) r (v.toList ++ rest))) t → Steps p.tables e below (T.setTop (mkF m pc r ((as.map (rv (M'.rho en))).reverse ++ rest))) t := by
  obtain ⟨v1, v2, v3, v4, v5, v6⟩ := cv
  obtain ⟨f1, f2, f3, f4, f5, f6, f7⟩ := ft
  subst f3 f4
  obtain ⟨hx, hZ, hown, -, -, -, hby, hml⟩ := K
  have bk := backOf (s := s) (args := args) (p := p) (e := e) (below := below) (len := 3) (W := wt) (R := rmOf md) (Q := fun v hh Lc => ∃ w', Q' v w' ∧ M'.rel en w' hh ∧ M'.frm en T.heap hh ∧ Fr (M'.lo en) Lc ∧ hh.size = T.heap.size + exOf md' ∧ ∀ ρ x, v = some x → rv ρ x = x) (hcal.met v1 ho hR as hL hw []) hZ v5 v6 f1 f2
  have hlen : ∀ sig, parseMethodDescriptor (nmOf md').desc = some sig → (as.map (rv (M'.rho en))).length = sig.parameters.length := fun sig q => by rw [List.length_map]; exact v3 sig q
  obtain ⟨v, _, ⟨T1, L1, k1, n1⟩, -, X1, ⟨Lc, hQ, l1, y1, z1⟩, st⟩ := Jvm.LawKit.callS X hx (y := nmOf md') hown (mvT hZ wl) (mvT hZ v4) (mvT hZ v6) (mvT hZ v5) v2 bk (g := mkF m pc r ((as.map (rv (M'.rho en))).reverse ++ rest)) rfl (hr.trans hml.symm) (argsL := as.map (rv (M'.rho en))) (rest := rest) hlen rfl (by show 2 * 0 + _ ≤ _; omega) (hb hby hd) (fun _ _ => ⟨rfl, rfl, f5, f6⟩)
  dsimp only [Pt.U, Pt.locs, Pt.cells, Pt.slots] at X1 l1 y1 z1 st hQ
  subst l1 y1 z1
  obtain ⟨w1, q1, q2, q3, q4, q5, q6⟩ := hQ
  exact ⟨v, T1, Lc, w1, X1, q1, q2, q3, q4, q5, q6, fun t q => st t q⟩
end Core
theorem cat_map (ρ : Nat → Addr) (S : List Value) : ((S.map (rv ρ)).map fun v => v.category).sum = (S.map fun v => v.category).sum := by
  rw [List.map_map]; congr 1; exact List.map_congr_left fun v _ => rv_cat _ v
theorem res_map {ρ : Nat → Addr} {v : Option Value} (h : ∀ ρ x, v = some x → rv ρ x = x) (S : List Value) : (v.toList ++ S).map (rv ρ) = v.toList ++ S.map (rv ρ) := by
  cases v with
  | none => rfl
  | some x => simp [h ρ x rfl]
section CallsC
variable {l : Launch} {Z : State} {a0 : Array Value} {cd : CD} {md md' : MD} {pc pc' wt idx : Nat} {L L' : List Slot} {S stk as : List Value} {w : WO} {cu su cu' su' : Nat} {Q Q' : Option Value → WO → Prop}
/-- a method of the same object -/
theorem Wk.callC (as : List Value) (S : List Value) (hs : stk = as.reverse ++ .ref 0 :: S) (wl : (Cond.methodLink cd.1 idx (nmOf md')).before a0 Z = true) (cv : CalV Z a0 md' as.length) (hc : (nmOf md').cls = cd.1) (nr : noRef as = true) (hcal : Wk l Z (MoC Z cd) md' 0 L' [] w 0 0 Q') (hL' : (argsToLocals (.ref 0 :: as).toArray (mxOf md')).toList = L') (hw : wfL L' = true) (hl : L.length = mxOf md)
    (hwt : (S.map fun v => v.category).sum = wt) (ft : Fits md md' wt cu su cu' su') (hd : InsA md pc (.invokevirtual idx) 3 pc') (h : ∀ v w', Q' v w' → Wk l Z (MoC Z cd) md pc' L (v.toList ++ S) w' cu' su' Q) : Wk l Z (MoC Z cd) md pc L stk w cu su Q :=
  fun en p e s m args below meth c T locs r X K hz hF hR hL => by
  obtain ⟨hd, rfl⟩ := hd
  subst hs
  obtain ⟨v, T1, Lc, w1, X1, q1, q2, q3, q4, q5, q6, st⟩ := coreV (M' := MoC Z cd) (en := en) (r := r) (rest := S.map (rv ((MoC Z cd).rho en))) X K hd wl cv hcal hc.symm hR (by rw [hc]; exact hR.2.1) rfl hL' hw ft (hL.1.trans hl) (by rw [cat_map]; omega)
  have f7 := ft.2.2.1
  have f8 := ft.2.2.2.2.2.2
  have em : (as.reverse ++ .ref 0 :: S).map (rv ((MoC Z cd).rho en)) = (as.map (rv ((MoC Z cd).rho en))).reverse ++ .ref ((MoC Z cd).rho en 0) :: S.map (rv ((MoC Z cd).rho en)) := by rw [List.map_append, List.map_reverse]; rfl
  have D := h v w1 q1 en p e s m args below meth c T1 _ r X1 K (by omega) (hF.app q4) q2 hL
  rw [res_map q6] at D
  rw [em]
  exact D.pre (fun _ q => frmC.trans q3 q) st
end CallsC
section CallsS
variable {μ E : Type} {l : Launch} {Z : State} {a0 : Array Value} {M : Mode μ E} {md md' : MD} {pc pc' wt idx : Nat} {L L' : List Slot} {S stk as : List Value} {w : μ} {cu su cu' su' : Nat} {Q Q' : Option Value → μ → Prop}
/-- a static method, in the same mode -/
theorem Wk.callS (hM : ∀ en h1 h2 h3, M.frm en h1 h2 → M.frm en h2 h3 → M.frm en h1 h3) (as : List Value) (S : List Value) (hs : stk = as.reverse ++ S) (wl : (Cond.methodLink M.own idx (nmOf md')).before a0 Z = true) (cv : CalS Z a0 md' as.length) (hc : (nmOf md').cls = M.own) (hcal : Wk l Z M md' 0 L' [] w 0 0 Q') (hL' : (argsToLocals as.toArray (mxOf md')).toList = L') (hw : wfL L' = true) (hl : L.length = mxOf md)
    (hwt : (S.map fun v => v.category).sum = wt) (ft : Fits md md' wt cu su cu' su') (hd : InsA md pc (.invokestatic idx) 3 pc') (h : ∀ v w', Q' v w' → Wk l Z M md pc' L (v.toList ++ S) w' cu' su' Q) : Wk l Z M md pc L stk w cu su Q :=
  fun en p e s m args below meth c T locs r X K hz hF hR hL => by
  obtain ⟨hd, rfl⟩ := hd
  subst hs
  obtain ⟨v, T1, Lc, w1, X1, q1, q2, q3, q4, q5, q6, st⟩ := coreS (M' := M) (en := en) (r := r) (rest := S.map (rv (M.rho en))) X K hd wl cv hcal hc.symm hR hL' hw ft (hL.1.trans hl) (by rw [cat_map]; omega)
  have f7 := ft.2.2.1
  have f8 := ft.2.2.2.2.2.2
  have em : (as.reverse ++ S).map (rv (M.rho en)) = (as.map (rv (M.rho en))).reverse ++ S.map (rv (M.rho en)) := by rw [List.map_append, List.map_reverse]
  have D := h v w1 q1 en p e s m args below meth c T1 _ r X1 K (by omega) (hF.app q4) q2 hL
  rw [res_map q6] at D
  rw [em]
  exact D.pre (fun _ q => hM _ _ _ _ q3 q) st
end CallsS
/-! ## 5. The law's own level: a script of ints (or none) and some objects, made one behind the other -/
abbrev WL : Type := Int32 × (Int32 → Int32) × List WO
def w0 : WO := (0, fun _ => 0, fun _ => 0, fun _ _ => 0, fun _ _ => 0)
def rhoL (cd : CD) (en : Nat × Nat) : Nat → Addr
  | 0 => en.2
  | i + 1 => en.1 + i * (cd.2.2.2.length + 1)
def relL (Z : State) (cd : CD) (sc : Bool) (en : Nat × Nat) (w : WL) (h : Heap) : Prop :=
  (sc = true → en.2 < en.1 ∧ ¬ w.1 < 0 ∧ AtA Z h en.2 .int w.1 w.2.1 (fun _ => 0)) ∧ (∀ i x, w.2.2[i]? = some x → relC Z cd (en.1 + i * (cd.2.2.2.length + 1), en.1) x h) ∧ h.size = en.1 + (w.2.2.map fun x => x.1 + 1).sum
abbrev MoL (Z : State) (cd : CD) (own : String) (sc : Bool) : Mode WL (Nat × Nat) := (own, rhoL cd, fun en => en.1, relL Z cd sc, fun _ _ _ => True)
def allK (n : Nat) : List WO → Prop
  | [] => True
  | x :: t => x.1 = n ∧ allK n t
theorem allK.get {n : Nat} : (ws : List WO) → allK n ws → ∀ (i : Nat) (x : WO), ws[i]? = some x → x.1 = n
  | [], _, i, x, h => by simp at h
  | y :: t, h, i, x, e => by
    cases i with
    | zero => simp at e; rw [← e]; exact h.1
    | succ i => exact allK.get t h.2 i x (by simpa using e)
theorem allK.sum {n : Nat} : {ws : List WO} → allK n ws → (ws.map fun x => x.1 + 1).sum = ws.length * (n + 1)
  | [], _ => by simp
  | y :: t, h => by rw [List.map_cons, List.sum_cons, allK.sum (ws := t) h.2, h.1, List.length_cons, Nat.add_mul]; omega
theorem sum_set : (ws : List WO) → (i : Nat) → (x y : WO) → ws[i]? = some x → ((ws.set i y).map fun x => x.1 + 1).sum + x.1 = (ws.map fun x => x.1 + 1).sum + y.1
  | [], i, x, y, h => by simp at h
  | z :: t, 0, x, y, h => by simp at h; subst h; simp; omega
  | z :: t, i + 1, x, y, h => by have := sum_set t i x y (by simpa using h); simp only [List.set_cons_succ, List.map_cons, List.sum_cons]; omega
section Keep
variable {Z : State} {cd : CD} {en : Nat × Nat} {h h' : Heap} {w : WO}
theorem Fld.cells {a : Addr} {C n d : String} {v : Value} (H : Fld Z h a C n d v) (q : ∀ c, h[a]? = some c → h'[a]? = some c) : Fld Z h' a C n d v := by
  obtain ⟨cell, cf, k, i, f, h1, r⟩ := H; exact ⟨cell, cf, k, i, f, q _ h1, r⟩
theorem Exa.cells {a : Addr} {C : String} (H : Exa Z h a C) (q : ∀ c, h[a]? = some c → h'[a]? = some c) : Exa Z h' a C := by
  obtain ⟨cell, k, h1, r⟩ := H; exact ⟨cell, k, q _ h1, r⟩
theorem AtA.cells {b : Addr} {ty : FieldType} {n : Int32} {f : Int32 → Int32} {g : Int32 → Int64} (H : AtA Z h b ty n f g) (q : ∀ c, h[b]? = some c → h'[b]? = some c) : AtA Z h' b ty n f g := by
  obtain ⟨cl, h1, r⟩ := H; exact ⟨cl, ⟨q _ h1.1, h1.2⟩, r⟩
theorem relC.cells (okA : ∀ t ∈ cd.2.2.2, t.1 < cd.2.2.2.length) (hR : relC Z cd en w h) (hk : w.1 = cd.2.2.2.length) (q : ∀ x c, en.1 ≤ x → x ≤ en.1 + cd.2.2.2.length → h[x]? = some c → h'[x]? = some c) : relC Z cd en w h' := by
  obtain ⟨r1, r2, r3, r4, r5, r6⟩ := hR
  have q0 := fun c => q en.1 c (Nat.le_refl _) (Nat.le_add_right _ _)
  refine ⟨r1, Exa.cells r2 q0, fun t m => Fld.cells (r3 t m) q0, fun t m => Fld.cells (r4 t m) q0, fun t m => ⟨fun k => ⟨Fld.cells ((r5 t m).1 k).1 q0, AtA.cells ((r5 t m).1 k).2 fun c => q _ c (Nat.le_add_right _ _) (by have := okA t m; omega)⟩, fun k => Fld.cells ((r5 t m).2 k) q0⟩, fun k => absurd k (by omega)⟩
end Keep
theorem apart {N i j n x : Nat} (hne : j ≠ i) (h1 : n + j * (N + 1) ≤ x) (h2 : x ≤ n + j * (N + 1) + N) : x < n + i * (N + 1) ∨ n + i * (N + 1) + N < x := by
  rcases Nat.lt_or_gt_of_ne hne with q | q
  · left
    have := Nat.mul_le_mul_right (N + 1) (show j + 1 ≤ i from q)
    rw [Nat.add_mul] at this
    omega
  · right
    have := Nat.mul_le_mul_right (N + 1) (show i + 1 ≤ j from q)
    rw [Nat.add_mul] at this
    omega
/-- one object's walk, seen from the law's level -/
theorem relL.step {Z : State} {cd : CD} {sc : Bool} {en : Nat × Nat} {sl : Int32} {sv : Int32 → Int32} {ws : List WO} {h h' : Heap} {i : Nat} {x y : WO} (okA : ∀ t ∈ cd.2.2.2, t.1 < cd.2.2.2.length) (hR : relL Z cd sc en (sl, sv, ws) h) (hi : ws[i]? = some x) (hoth : ∀ j z, ws[j]? = some z → j ≠ i → z.1 = cd.2.2.2.length)
    (hy : relC Z cd (en.1 + i * (cd.2.2.2.length + 1), en.1) y h') (hf : frmC cd (en.1 + i * (cd.2.2.2.length + 1), en.1) h h') (hz : h'.size + x.1 = h.size + y.1) : relL Z cd sc en (sl, sv, ws.set i y) h' := by
  obtain ⟨r1, r2, r3⟩ := hR
  refine ⟨fun q => ?_, fun j z hj => ?_, ?_⟩
  · obtain ⟨a1, a2, a3⟩ := r1 q
    refine ⟨a1, a2, AtA.cells a3 fun c hc => hf.2 _ c hc (Or.inl ?_)⟩
    show en.2 < en.1 + i * (cd.2.2.2.length + 1)
    omega
  · have hj' : (ws.set i y)[j]? = some z := hj
    rw [List.getElem?_set] at hj'
    by_cases e : i = j
    · subst e
      have : i < ws.length := (List.getElem?_eq_some_iff.mp hi).1
      simp [this] at hj'
      subst hj'
      exact hy
    · rw [if_neg e] at hj'
      exact relC.cells okA (r2 j z hj') (hoth j z hj' (Ne.symm e)) fun a c h1 h2 hc => hf.2 a c hc (apart (Ne.symm e) h1 h2)
  · have s1 := sum_set ws i x y hi
    have s2 : h.size = en.1 + (ws.map fun x => x.1 + 1).sum := r3
    show h'.size = en.1 + ((ws.set i y).map fun x => x.1 + 1).sum
    omega
section StepsL
variable {l : Launch} {Z : State} {a0 : Array Value} {cd : CD} {own : String} {sc : Bool} {md md' : MD} {pc pc' wt idx : Nat} {L L' : List Slot} {S stk as : List Value} {sl : Int32} {sv : Int32 → Int32} {ws ws' : List WO} {cu su cu' su' : Nat} {Q : Option Value → WL → Prop} {Q' : Option Value → WO → Prop}
theorem Wk.lenL (hd : InsA md pc .arraylength 1 pc') (h : Wk l Z (MoL Z cd own true) md pc' L (.int sl :: S) (sl, sv, ws) cu su Q) : Wk l Z (MoL Z cd own true) md pc L (.ref 0 :: S) (sl, sv, ws) cu su Q :=
  fun en p e s m args below meth c T locs r X K hz hF hR hL => by
  obtain ⟨hd, rfl⟩ := hd
  obtain ⟨a1, a2, cl, g1, g2, g3⟩ := hR.1 rfl
  have e1 : cl.slots.size.toInt32 = sl := by rw [g2]; exact (back32 a2).1
  refine (h en p e s m args below meth c T locs r X K hz hF hR hL).pre (fun _ q => q) fun t q => X.arraylength K.1 g1.1 (State.isArrayOf_alike K.2.1.alike g1.2.1) (g := mkF m pc r (.ref en.2 :: S.map (rv (rhoL cd en)))) rfl rfl (hb K.by hd) _ (by rw [e1]; exact q)
theorem Wk.ialoadL {x : Int32} (h0 : ¬ x < 0) (h1 : x < sl) (hd : InsA md pc .iaload 1 pc') (h : Wk l Z (MoL Z cd own true) md pc' L (.int (sv x) :: S) (sl, sv, ws) cu su Q) : Wk l Z (MoL Z cd own true) md pc L (.int x :: .ref 0 :: S) (sl, sv, ws) cu su Q :=
  fun en p e s m args below meth c T locs r X K hz hF hR hL => by
  obtain ⟨hd, rfl⟩ := hd
  obtain ⟨a1, a2, cl, g1, g2, g3⟩ := hR.1 rfl
  exact (h en p e s m args below meth c T locs r X K hz hF hR hL).pre (fun _ q => q) fun t q => X.iaload K.1 (j := x) (v := .int (sv x)) g1.1 (State.isArrayOf_alike K.2.1.alike g1.2.1) g1.2.2 (in_of g2 h0 h1) (g3 x h0 h1) (g := mkF m pc r (.int x :: .ref en.2 :: S.map (rv (rhoL cd en)))) rfl rfl (hb K.by hd) _ q
theorem Wk.newL (ok : CO Z a0 cd) {kk i' : Nat} (wc : (Cond.classLink own idx cd.1).before a0 Z = true) (wi : (Cond.instantiable cd.1 kk).before a0 Z = true) (wz : (Cond.initialized cd.1).before a0 Z = true) (hd : InsA md pc (.new idx) 3 pc') (hall : allK cd.2.2.2.length ws) (hi : ws.length + 1 = i') (hws : ws ++ [w0] = ws') (hcu : cu + 1 = cu') (hsu : su + kk = su') (hc : cu' ≤ (rmOf md).cells) (hs : su' ≤ (rmOf md).slots)
    (h : Wk l Z (MoL Z cd own sc) md pc' L (.ref i' :: S) (sl, sv, ws') cu' su' Q) : Wk l Z (MoL Z cd own sc) md pc L S (sl, sv, ws) cu su Q :=
  fun en p e s m args below meth c T locs r X K hz hF hR hL => by
  obtain ⟨hd, rfl⟩ := hd
  subst hi hws hcu hsu
  obtain ⟨T1, h1, X1, e1, E1, A1, D1, -, st⟩ := newO X K.1 K.2.1 K.2.2.1 wc wi wz rfl (g := mkF m pc r (S.map (rv (rhoL cd en)))) rfl (hb K.by hd) hc hs
  subst e1
  obtain ⟨r1, r2, r3⟩ := hR
  have r3' : T.heap.size = en.1 + (ws.map fun x => x.1 + 1).sum := r3
  have sm := hall.sum
  have z1 := X1.heapSize
  have z2 : (T.heap.size : Nat) < T1.heap.size := A1.lt
  have ea : T.heap.size = en.1 + ws.length * (cd.2.2.2.length + 1) := by rw [r3', sm]
  have okp := ok.2.2.2.2
  obtain ⟨q1, q2, q3, q4, q5, q6, q7, q8⟩ := okp
  have rel1 : relL Z cd sc en (sl, sv, ws ++ [w0]) T1.heap := by
    refine ⟨fun q => ⟨(r1 q).1, (r1 q).2.1, (r1 q).2.2.ext E1⟩, fun j z hj => ?_, ?_⟩
    · have hj' : (ws ++ [w0])[j]? = some z := hj
      by_cases e : j < ws.length
      · rw [List.getElem?_append_left e] at hj'
        exact relC.cells (fun t m => (q8 t m).2.1) (r2 j z hj') (allK.get _ hall _ _ hj') fun a c _ _ hc => E1.2 a c hc
      · have e2 : j = ws.length := by
          have := (List.getElem?_eq_some_iff.mp hj').1
          simp at this; omega
        subst e2
        simp at hj'
        subst hj'
        rw [← ea]
        refine ⟨by show en.1 ≤ T.heap.size; omega, A1, fun t m => ?_, fun t m => ?_, fun t m => ⟨fun k => absurd k (Nat.not_lt_zero _), fun _ => ?_⟩, fun _ => by show T1.heap.size = T.heap.size + 1 + 0; omega⟩
        · rcases q7 t m with q | q
          · exact D1 (ok.2.1 t m) q
          · exact D1 (ok.2.1 t m) q
        · exact D1 (ok.2.2.1 t m) pJ
        · exact D1 (ok.2.2.2.1 t m) (q8 t m).1
    · show T1.heap.size = en.1 + ((ws ++ [w0]).map fun x => x.1 + 1).sum
      rw [List.map_append, List.sum_append]
      show T1.heap.size = en.1 + ((ws.map fun x => x.1 + 1).sum + 1)
      omega
  refine (h en p e s m args below meth c T1 locs r X1 K (by omega) hF rel1 hL).pre (fun _ _ => trivial) fun t q => st t ?_
  rw [ea]
  exact q
theorem Wk.callLC (ok : CO Z a0 cd) (as : List Value) (i : Nat) (S : List Value) {i' : Nat} {x : WO} (hi' : i + 1 = i') (hs : stk = as.reverse ++ .ref i' :: S) (hx : ws[i]? = some x) (hoth : allK cd.2.2.2.length (ws.eraseIdx i)) (wl : (Cond.methodLink own idx (nmOf md')).before a0 Z = true) (cv : CalV Z a0 md' as.length) (hc : (nmOf md').cls = cd.1) (nr : noRef as = true) (hcal : Wk l Z (MoC Z cd) md' 0 L' [] x 0 0 Q') (hL' : (argsToLocals (.ref 0 :: as).toArray (mxOf md')).toList = L') (hw : wfL L' = true) (hl : L.length = mxOf md)
    (hwt : (S.map fun v => v.category).sum = wt) (ft : Fits md md' wt cu su cu' su') (hd : InsA md pc (.invokevirtual idx) 3 pc') (hk : ∀ v y, Q' v y → y.1 = x.1 + exOf md') (h : ∀ v y, Q' v y → Wk l Z (MoL Z cd own sc) md pc' L (v.toList ++ S) (sl, sv, ws.set i y) cu' su' Q) : Wk l Z (MoL Z cd own sc) md pc L stk (sl, sv, ws) cu su Q :=
  fun en p e s m args below meth c T locs r X K hz hF hR hL => by
  obtain ⟨hd, rfl⟩ := hd
  subst hs hi'
  have rx := hR.2.1 i x hx
  obtain ⟨v, T1, Lc, w1, X1, p1, p2, p3, p4, p5, p6, st⟩ := coreV (M' := MoC Z cd) (en := (en.1 + i * (cd.2.2.2.length + 1), en.1)) (r := r) (rest := S.map (rv (rhoL cd en))) X K hd wl cv hcal hc.symm rx (by rw [hc]; exact rx.2.1) rfl hL' hw ft (hL.1.trans hl) (by rw [cat_map]; omega)
  have f7 := ft.2.2.1
  have f8 := ft.2.2.2.2.2.2
  have em : (as.reverse ++ .ref (i + 1) :: S).map (rv (rhoL cd en)) = (as.map (rv ((MoC Z cd).rho (en.1 + i * (cd.2.2.2.length + 1), en.1)))).reverse ++ .ref ((MoC Z cd).rho (en.1 + i * (cd.2.2.2.length + 1), en.1) 0) :: S.map (rv (rhoL cd en)) := by
    rw [List.map_append, List.map_reverse, noRef.map as nr, noRef.map as nr]; rfl
  have oth : ∀ j z, ws[j]? = some z → j ≠ i → z.1 = cd.2.2.2.length := by
    intro j z hj hne
    by_cases e : j < i
    · exact allK.get _ hoth j z (by rw [List.getElem?_eraseIdx]; simp [e, hj])
    · refine allK.get _ hoth (j - 1) z ?_
      rw [List.getElem?_eraseIdx, if_neg (by omega), show j - 1 + 1 = j by omega]; exact hj
  have hkk := hk v w1 p1
  have okA : ∀ t ∈ cd.2.2.2, t.1 < cd.2.2.2.length := fun t m => (ok.2.2.2.2.2.2.2.2.2.2.2 t m).2.1
  have D := h v w1 p1 en p e s m args below meth c T1 _ r X1 K (by omega) (hF.app p4) (relL.step okA hR hx oth p2 p3 (by omega)) hL
  rw [res_map p6] at D
  show Done _ _ _ _ _ _ _ _ _ _ _ _ _ _ (mkF m pc r ((as.reverse ++ .ref (i + 1) :: S).map (rv (rhoL cd en))))
  rw [em]
  exact D.pre (fun _ _ => trivial) st
theorem Wk.ctorL (ok : CO Z a0 cd) (as : List Value) (i : Nat) (S : List Value) {i' : Nat} {x : WO} (hi' : i + 1 = i') (hs : stk = as.reverse ++ .ref i' :: S) (hx : ws[i]? = some x) (hoth : allK cd.2.2.2.length (ws.eraseIdx i)) (wl : (Cond.methodLink own idx (nmOf md')).before a0 Z = true) (cv : CalI Z a0 md' as.length) (hc : (nmOf md').cls = cd.1) (nr : noRef as = true) (hcal : Wk l Z (MoC Z cd) md' 0 L' [] x 0 0 Q') (hL' : (argsToLocals (.ref 0 :: as).toArray (mxOf md')).toList = L') (hw : wfL L' = true) (hl : L.length = mxOf md)
    (hwt : (S.map fun v => v.category).sum = wt) (ft : Fits md md' wt cu su cu' su') (hd : InsA md pc (.invokespecial idx) 3 pc') (hk : ∀ v y, Q' v y → y.1 = x.1 + exOf md') (h : ∀ v y, Q' v y → Wk l Z (MoL Z cd own sc) md pc' L (v.toList ++ S) (sl, sv, ws.set i y) cu' su' Q) : Wk l Z (MoL Z cd own sc) md pc L stk (sl, sv, ws) cu su Q :=
  fun en p e s m args below meth c T locs r X K hz hF hR hL => by
  obtain ⟨hd, rfl⟩ := hd
  subst hs hi'
  have rx := hR.2.1 i x hx
  obtain ⟨v, T1, Lc, w1, X1, p1, p2, p3, p4, p5, p6, st⟩ := coreI (M' := MoC Z cd) (en := (en.1 + i * (cd.2.2.2.length + 1), en.1)) (r := r) (rest := S.map (rv (rhoL cd en))) X K hd wl cv hcal hc.symm rx rfl hL' hw ft (hL.1.trans hl) (by rw [cat_map]; omega)
  have f7 := ft.2.2.1
  have f8 := ft.2.2.2.2.2.2
  have em : (as.reverse ++ .ref (i + 1) :: S).map (rv (rhoL cd en)) = (as.map (rv ((MoC Z cd).rho (en.1 + i * (cd.2.2.2.length + 1), en.1)))).reverse ++ .ref ((MoC Z cd).rho (en.1 + i * (cd.2.2.2.length + 1), en.1) 0) :: S.map (rv (rhoL cd en)) := by
    rw [List.map_append, List.map_reverse, noRef.map as nr, noRef.map as nr]; rfl
  have oth : ∀ j z, ws[j]? = some z → j ≠ i → z.1 = cd.2.2.2.length := by
    intro j z hj hne
    by_cases e : j < i
    · exact allK.get _ hoth j z (by rw [List.getElem?_eraseIdx]; simp [e, hj])
    · refine allK.get _ hoth (j - 1) z ?_
      rw [List.getElem?_eraseIdx, if_neg (by omega), show j - 1 + 1 = j by omega]; exact hj
  have hkk := hk v w1 p1
  have okA : ∀ t ∈ cd.2.2.2, t.1 < cd.2.2.2.length := fun t m => (ok.2.2.2.2.2.2.2.2.2.2.2 t m).2.1
  have D := h v w1 p1 en p e s m args below meth c T1 _ r X1 K (by omega) (hF.app p4) (relL.step okA hR hx oth p2 p3 (by omega)) hL
  rw [res_map p6] at D
  show Done _ _ _ _ _ _ _ _ _ _ _ _ _ _ (mkF m pc r ((as.reverse ++ .ref (i + 1) :: S).map (rv (rhoL cd en))))
  rw [em]
  exact D.pre (fun _ _ => trivial) st
end StepsL
end Jvm.Own

namespace Jvm.Own
open Jvm Jvm.ClassFile Sem Op Lib Jvm.Free Jvm.Stand Jvm.LawKit Jvm.RoadKit
/-- the class's list of fields, looked at -/
def okB (cd : CD) : Bool :=
  cd.2.1.all (fun (t : Nat × String × String) => cd.2.1.all fun t' => if t.1 = t'.1 then decide (t = t') else t.2.1 != t'.2.1) && cd.2.2.1.all (fun (t : Nat × String) => cd.2.2.1.all fun t' => if t.1 = t'.1 then decide (t = t') else t.2 != t'.2) && cd.2.2.2.all (fun (t : Nat × String × String × FieldType × Int32) => cd.2.2.2.all fun t' => if t.1 = t'.1 then decide (t = t') else t.2.1 != t'.2.1) &&
  cd.2.1.all (fun (t : Nat × String × String) => cd.2.2.1.all fun (t' : Nat × String) => t.2.1 != t'.2) && cd.2.1.all (fun (t : Nat × String × String) => cd.2.2.2.all fun (t' : Nat × String × String × FieldType × Int32) => t.2.1 != t'.2.1) && cd.2.2.1.all (fun (t : Nat × String) => cd.2.2.2.all fun (t' : Nat × String × String × FieldType × Int32) => t.2 != t'.2.1) &&
  cd.2.1.all (fun (t : Nat × String × String) => decide (parseFieldDescriptor t.2.2 = some .int) || decide (parseFieldDescriptor t.2.2 = some .boolean)) &&
  cd.2.2.2.all (fun (t : Nat × String × String × FieldType × Int32) => decide (parseFieldDescriptor t.2.2.1 = some (.array t.2.2.2.1)) && decide (t.1 < cd.2.2.2.length) && (decide (t.2.2.2.1 = .int) || decide (t.2.2.2.1 = .boolean) || decide (t.2.2.2.1 = .long)) && !decide (t.2.2.2.2 < 0))
theorem pair_of {α : Type} {L : List α} {f : α → Nat} {g : α → String} [DecidableEq α] (h : L.all (fun t => L.all fun t' => if f t = f t' then decide (t = t') else g t != g t') = true) : ∀ t ∈ L, ∀ t' ∈ L, (f t = f t' → t = t') ∧ (f t ≠ f t' → g t ≠ g t') := by
  intro t m t' m'
  have q := List.all_eq_true.mp (List.all_eq_true.mp h t m) t' m'
  constructor
  · intro e; rw [if_pos e] at q; exact of_decide_eq_true q
  · intro e; rw [if_neg e] at q; simpa using q
theorem apart_of {α β : Type} {L : List α} {L' : List β} {g : α → String} {g' : β → String} (h : L.all (fun t => L'.all fun t' => g t != g' t') = true) : ∀ t ∈ L, ∀ t' ∈ L', g t ≠ g' t' := by
  intro t m t' m'
  have q := List.all_eq_true.mp (List.all_eq_true.mp h t m) t' m'
  simpa using q
theorem okC.of {cd : CD} (h : okB cd = true) : okC cd := by
  unfold okB at h
  simp only [Bool.and_eq_true] at h
  obtain ⟨⟨⟨⟨⟨⟨⟨h1, h2⟩, h3⟩, h4⟩, h5⟩, h6⟩, h7⟩, h8⟩ := h
  refine ⟨pair_of (L := cd.2.1) (f := fun (t : Nat × String × String) => t.1) (g := fun (t : Nat × String × String) => t.2.1) h1, pair_of (L := cd.2.2.1) (f := fun (t : Nat × String) => t.1) (g := fun (t : Nat × String) => t.2) h2, pair_of (L := cd.2.2.2) (f := fun (t : Nat × String × String × FieldType × Int32) => t.1) (g := fun (t : Nat × String × String × FieldType × Int32) => t.2.1) h3, apart_of (L := cd.2.1) (L' := cd.2.2.1) (g := fun (t : Nat × String × String) => t.2.1) (g' := fun (t : Nat × String) => t.2) h4, apart_of (L := cd.2.1) (L' := cd.2.2.2) (g := fun (t : Nat × String × String) => t.2.1) (g' := fun (t : Nat × String × String × FieldType × Int32) => t.2.1) h5, apart_of (L := cd.2.2.1) (L' := cd.2.2.2) (g := fun (t : Nat × String) => t.2) (g' := fun (t : Nat × String × String × FieldType × Int32) => t.2.1) h6, fun t m => ?_, fun t m => ?_⟩
  · have q := List.all_eq_true.mp h7 t m
    simpa using q
  · have q := List.all_eq_true.mp h8 t m
    simp only [Bool.and_eq_true, Bool.or_eq_true, decide_eq_true_eq, Bool.not_eq_true', decide_eq_false_iff_not] at q
    exact ⟨q.1.1.1, q.1.1.2, by rcases q.1.2 with (a | a) | a <;> simp [a], q.2⟩
theorem nar1 : nar .boolean 1 = 1 := by decide
theorem nar0 : nar .boolean 0 = 0 := by decide
theorem nar_nar (x : Int32) : nar .boolean (nar .boolean x) = nar .boolean x := by
  show (x &&& 1) &&& 1 = x &&& 1
  rw [Int32.and_assoc]; rfl
theorem ne_toInt {x n : Int32} (q : ¬ x = n) : x.toInt ≠ n.toInt := fun h => q (Int32.toInt_inj.mp h)
/-! ## 6. The same calls where the callee's answer is known as a term -/
section FunC
variable {l : Launch} {Z : State} {a0 : Array Value} {cd : CD} {md md' : MD} {pc pc' wt idx : Nat} {L L' : List Slot} {S stk as : List Value} {w w1 : WO} {cu su cu' su' : Nat} {Q : Option Value → WO → Prop} {x : Value}
theorem Wk.callF (as : List Value) (S : List Value) (wl : (Cond.methodLink cd.1 idx (nmOf md')).before a0 Z = true) (cv : CalV Z a0 md' as.length) (hd : InsA md pc (.invokevirtual idx) 3 pc') (hcal : Wk l Z (MoC Z cd) md' 0 L' [] w 0 0 (fun v w' => v = some x ∧ w' = w1)) (ft : Fits md md' wt cu su cu' su') (hs : stk = as.reverse ++ .ref 0 :: S) (hc : (nmOf md').cls = cd.1) (nr : noRef as = true) (hL' : (argsToLocals (.ref 0 :: as).toArray (mxOf md')).toList = L') (hw : wfL L' = true) (hl : L.length = mxOf md)
    (hwt : (S.map fun v => v.category).sum = wt) (h : Wk l Z (MoC Z cd) md pc' L (x :: S) w1 cu' su' Q) : Wk l Z (MoC Z cd) md pc L stk w cu su Q :=
  Wk.callC as S hs wl cv hc nr hcal hL' hw hl hwt ft hd fun v w' q => by obtain ⟨rfl, rfl⟩ := q; exact h
theorem Wk.callU (as : List Value) (S : List Value) (wl : (Cond.methodLink cd.1 idx (nmOf md')).before a0 Z = true) (cv : CalV Z a0 md' as.length) (hd : InsA md pc (.invokevirtual idx) 3 pc') (hcal : Wk l Z (MoC Z cd) md' 0 L' [] w 0 0 (fun v w' => v = none ∧ w' = w1)) (ft : Fits md md' wt cu su cu' su') (hs : stk = as.reverse ++ .ref 0 :: S) (hc : (nmOf md').cls = cd.1) (nr : noRef as = true) (hL' : (argsToLocals (.ref 0 :: as).toArray (mxOf md')).toList = L') (hw : wfL L' = true) (hl : L.length = mxOf md)
    (hwt : (S.map fun v => v.category).sum = wt) (h : Wk l Z (MoC Z cd) md pc' L S w1 cu' su' Q) : Wk l Z (MoC Z cd) md pc L stk w cu su Q :=
  Wk.callC as S hs wl cv hc nr hcal hL' hw hl hwt ft hd fun v w' q => by obtain ⟨rfl, rfl⟩ := q; exact h
end FunC
section FunS
variable {μ E : Type} {l : Launch} {Z : State} {a0 : Array Value} {M : Mode μ E} {md md' : MD} {pc pc' wt idx : Nat} {L L' : List Slot} {S stk as : List Value} {w w1 : μ} {cu su cu' su' : Nat} {Q : Option Value → μ → Prop} {x : Value}
theorem Wk.callSF (hM : ∀ en h1 h2 h3, M.frm en h1 h2 → M.frm en h2 h3 → M.frm en h1 h3) (as : List Value) (S : List Value) (wl : (Cond.methodLink M.own idx (nmOf md')).before a0 Z = true) (cv : CalS Z a0 md' as.length) (hd : InsA md pc (.invokestatic idx) 3 pc') (hcal : Wk l Z M md' 0 L' [] w 0 0 (fun v w' => v = some x ∧ w' = w1)) (ft : Fits md md' wt cu su cu' su') (hs : stk = as.reverse ++ S) (hc : (nmOf md').cls = M.own) (hL' : (argsToLocals as.toArray (mxOf md')).toList = L') (hw : wfL L' = true) (hl : L.length = mxOf md)
    (hwt : (S.map fun v => v.category).sum = wt) (h : Wk l Z M md pc' L (x :: S) w1 cu' su' Q) : Wk l Z M md pc L stk w cu su Q :=
  Wk.callS hM as S hs wl cv hc hcal hL' hw hl hwt ft hd fun v w' q => by obtain ⟨rfl, rfl⟩ := q; exact h
theorem Wk.callSU (hM : ∀ en h1 h2 h3, M.frm en h1 h2 → M.frm en h2 h3 → M.frm en h1 h3) (as : List Value) (S : List Value) (wl : (Cond.methodLink M.own idx (nmOf md')).before a0 Z = true) (cv : CalS Z a0 md' as.length) (hd : InsA md pc (.invokestatic idx) 3 pc') (hcal : Wk l Z M md' 0 L' [] w 0 0 (fun v w' => v = none ∧ w' = w1)) (ft : Fits md md' wt cu su cu' su') (hs : stk = as.reverse ++ S) (hc : (nmOf md').cls = M.own) (hL' : (argsToLocals as.toArray (mxOf md')).toList = L') (hw : wfL L' = true) (hl : L.length = mxOf md)
    (hwt : (S.map fun v => v.category).sum = wt) (h : Wk l Z M md pc' L S w1 cu' su' Q) : Wk l Z M md pc L stk w cu su Q :=
  Wk.callS hM as S hs wl cv hc hcal hL' hw hl hwt ft hd fun v w' q => by obtain ⟨rfl, rfl⟩ := q; exact h
end FunS
section FunL
variable {l : Launch} {Z : State} {a0 : Array Value} {cd : CD} {own : String} {sc : Bool} {md md' : MD} {pc pc' wt idx : Nat} {L L' : List Slot} {S stk as : List Value} {sl : Int32} {sv : Int32 → Int32} {ws ws' : List WO} {cu su cu' su' : Nat} {Q : Option Value → WL → Prop} {v : Value} {y : WO}
theorem Wk.callLF (ok : CO Z a0 cd) (as : List Value) (i : Nat) (S : List Value) {i' : Nat} {x : WO} (wl : (Cond.methodLink own idx (nmOf md')).before a0 Z = true) (cv : CalV Z a0 md' as.length) (hd : InsA md pc (.invokevirtual idx) 3 pc') (hcal : Wk l Z (MoC Z cd) md' 0 L' [] x 0 0 (fun v' w' => v' = some v ∧ w' = y)) (ft : Fits md md' wt cu su cu' su') (hoth : allK cd.2.2.2.length (ws.eraseIdx i)) (hi' : i + 1 = i') (hs : stk = as.reverse ++ .ref i' :: S) (hx : ws[i]? = some x) (hc : (nmOf md').cls = cd.1) (nr : noRef as = true) (hL' : (argsToLocals (.ref 0 :: as).toArray (mxOf md')).toList = L') (hw : wfL L' = true) (hl : L.length = mxOf md)
    (hwt : (S.map fun v => v.category).sum = wt) (hk : y.1 = x.1 + exOf md') (hws : ws.set i y = ws') (h : Wk l Z (MoL Z cd own sc) md pc' L (v :: S) (sl, sv, ws') cu' su' Q) : Wk l Z (MoL Z cd own sc) md pc L stk (sl, sv, ws) cu su Q :=
  Wk.callLC ok as i S hi' hs hx hoth wl cv hc nr hcal hL' hw hl hwt ft hd (fun v' y' q => by obtain ⟨rfl, rfl⟩ := q; exact hk) fun v' y' q => by obtain ⟨rfl, rfl⟩ := q; subst hws; exact h
theorem Wk.callLU (ok : CO Z a0 cd) (as : List Value) (i : Nat) (S : List Value) {i' : Nat} {x : WO} (wl : (Cond.methodLink own idx (nmOf md')).before a0 Z = true) (cv : CalV Z a0 md' as.length) (hd : InsA md pc (.invokevirtual idx) 3 pc') (hcal : Wk l Z (MoC Z cd) md' 0 L' [] x 0 0 (fun v' w' => v' = none ∧ w' = y)) (ft : Fits md md' wt cu su cu' su') (hoth : allK cd.2.2.2.length (ws.eraseIdx i)) (hi' : i + 1 = i') (hs : stk = as.reverse ++ .ref i' :: S) (hx : ws[i]? = some x) (hc : (nmOf md').cls = cd.1) (nr : noRef as = true) (hL' : (argsToLocals (.ref 0 :: as).toArray (mxOf md')).toList = L') (hw : wfL L' = true) (hl : L.length = mxOf md)
    (hwt : (S.map fun v => v.category).sum = wt) (hk : y.1 = x.1 + exOf md') (hws : ws.set i y = ws') (h : Wk l Z (MoL Z cd own sc) md pc' L S (sl, sv, ws') cu' su' Q) : Wk l Z (MoL Z cd own sc) md pc L stk (sl, sv, ws) cu su Q :=
  Wk.callLC ok as i S hi' hs hx hoth wl cv hc nr hcal hL' hw hl hwt ft hd (fun v' y' q => by obtain ⟨rfl, rfl⟩ := q; exact hk) fun v' y' q => by obtain ⟨rfl, rfl⟩ := q; subst hws; exact h
theorem Wk.ctorLU (ok : CO Z a0 cd) (as : List Value) (i : Nat) (S : List Value) {i' : Nat} {x : WO} (wl : (Cond.methodLink own idx (nmOf md')).before a0 Z = true) (cv : CalI Z a0 md' as.length) (hd : InsA md pc (.invokespecial idx) 3 pc') (hcal : Wk l Z (MoC Z cd) md' 0 L' [] x 0 0 (fun v' w' => v' = none ∧ w' = y)) (ft : Fits md md' wt cu su cu' su') (hoth : allK cd.2.2.2.length (ws.eraseIdx i)) (hi' : i + 1 = i') (hs : stk = as.reverse ++ .ref i' :: S) (hx : ws[i]? = some x) (hc : (nmOf md').cls = cd.1) (nr : noRef as = true) (hL' : (argsToLocals (.ref 0 :: as).toArray (mxOf md')).toList = L') (hw : wfL L' = true) (hl : L.length = mxOf md)
    (hwt : (S.map fun v => v.category).sum = wt) (hk : y.1 = x.1 + exOf md') (hws : ws.set i y = ws') (h : Wk l Z (MoL Z cd own sc) md pc' L S (sl, sv, ws') cu' su' Q) : Wk l Z (MoL Z cd own sc) md pc L stk (sl, sv, ws) cu su Q :=
  Wk.ctorL ok as i S hi' hs hx hoth wl cv hc nr hcal hL' hw hl hwt ft hd (fun v' y' q => by obtain ⟨rfl, rfl⟩ := q; exact hk) fun v' y' q => by obtain ⟨rfl, rfl⟩ := q; subst hws; exact h
end FunL
end Jvm.Own

namespace Jvm.Own
open Jvm
/-! ## 7. Plain helpers -/
theorem lt_i {x y : Int32} : x < y ↔ x.toInt < y.toInt := Int32.lt_iff_toInt_lt
theorem add_toInt {x y : Int32} (h1 : -2147483648 ≤ x.toInt + y.toInt) (h2 : x.toInt + y.toInt < 2147483648) : (x + y).toInt = x.toInt + y.toInt := by
  rw [Int32.toInt_add]
  exact Int.bmod_eq_of_le (by omega) (by omega)
theorem sub_toInt {x y : Int32} (h1 : -2147483648 ≤ x.toInt - y.toInt) (h2 : x.toInt - y.toInt < 2147483648) : (x - y).toInt = x.toInt - y.toInt := by
  rw [Int32.toInt_sub]
  exact Int.bmod_eq_of_le (by omega) (by omega)
theorem succ_toInt {i n : Int32} (h : i < n) : (i + 1).toInt = i.toInt + 1 := by
  have h1 := lt_i.mp h
  have h2 := Int32.toInt_lt n
  have h3 := Int32.le_toInt i
  exact add_toInt (x := i) (y := 1) (by show -2147483648 ≤ i.toInt + 1; omega) (by show i.toInt + 1 < 2147483648; omega)
/-- a loop that counts up to n: backwards from its end -/
theorem loopUp {n : Int32} {P : Int32 → Prop} (hend : P n) (hstep : ∀ i, ¬ i < 0 → i < n → P (i + 1) → P i) : ∀ i, ¬ i < 0 → ¬ n < i → P i := by
  have key : ∀ (k : Nat) (i : Int32), ¬ i < 0 → ¬ n < i → (n.toInt - i.toInt).toNat = k → P i := by
    intro k
    induction k with
    | zero =>
      intro i h0 h1 hk
      have e : i = n := by
        rw [lt_i] at h1
        exact Int32.toInt_inj.mp (by omega)
      subst e; exact hend
    | succ k ih =>
      intro i h0 h1 hk
      rw [lt_i] at h1
      have hlt : i < n := lt_i.mpr (by omega)
      have hs := succ_toInt hlt
      have h0' : ¬ i.toInt < 0 := fun q => h0 (lt_i.mpr q)
      refine hstep i h0 hlt (ih (i + 1) ?_ ?_ ?_)
      · rw [lt_i, hs]; show ¬ i.toInt + 1 < 0; omega
      · rw [lt_i, hs]; omega
      · rw [hs]; omega
  exact fun i h0 h1 => key _ i h0 h1 rfl
/-- the first n places hold c -/
def fill {α : Type} (f : Int32 → α) (n : Int32) (c : α) : Int32 → α := fun x => if ¬ x < 0 ∧ x < n then c else f x
theorem fill_zero {α : Type} (f : Int32 → α) (c : α) : fill f 0 c = f := by
  funext x; exact if_neg fun q => q.1 q.2
theorem fill_succ {α : Type} (f : Int32 → α) (c : α) {i n : Int32} (h0 : ¬ i < 0) (h : i < n) : ups (fill f i c) i c = fill f (i + 1) c := by
  funext x
  have hs := succ_toInt h
  have h0' : ¬ i.toInt < 0 := fun q => h0 (lt_i.mpr q)
  unfold ups fill
  by_cases e : x = i
  · rw [if_pos e, if_pos]
    subst e
    exact ⟨h0, lt_i.mpr (by omega)⟩
  · rw [if_neg e]
    have e' : x.toInt ≠ i.toInt := fun q => e (Int32.toInt_inj.mp q)
    by_cases q : ¬ x < 0 ∧ x < i
    · rw [if_pos q, if_pos ⟨q.1, lt_i.mpr (by have := lt_i.mp q.2; omega)⟩]
    · rw [if_neg q, if_neg]
      rintro ⟨a, b⟩
      exact q ⟨a, lt_i.mpr (by have := lt_i.mp b; omega)⟩
theorem fill_in {α : Type} (f : Int32 → α) (c : α) {x n : Int32} (h0 : ¬ x < 0) (h : x < n) : fill f n c x = c := if_pos ⟨h0, h⟩
theorem ups_self {κ α : Type} [DecidableEq κ] (f : κ → α) (i : κ) : ups f i (f i) = f := by
  funext k; unfold ups; by_cases e : k = i
  · rw [if_pos e, e]
  · rw [if_neg e]
theorem ups_upd {κ α : Type} [DecidableEq κ] (f : κ → α) (i : κ) (x y : α) : ups (ups f i x) i y = ups f i y := by
  funext k; unfold ups; by_cases e : k = i
  · rw [if_pos e, if_pos e]
  · rw [if_neg e, if_neg e, if_neg e]
theorem ups_comm {κ α : Type} [DecidableEq κ] (f : κ → α) {i j : κ} (x y : α) (h : i ≠ j) : ups (ups f i x) j y = ups (ups f j y) i x := by
  funext k; unfold ups; by_cases e : k = i
  · have : k ≠ j := fun q => h (e.symm.trans q)
    rw [if_neg this, if_pos e, if_pos e]
  · by_cases e2 : k = j
    · rw [if_pos e2, if_neg e, if_pos e2]
    · rw [if_neg e2, if_neg e, if_neg e, if_neg e2]
end Jvm.Own

namespace Jvm.Own
open Jvm Jvm.Free
/-! ## 8. Bits -/
theorem toNat_toInt (x : Int32) : (x.toBitVec.toNat : Int) = x.toInt % 4294967296 := by
  have h1 : x.toInt = x.toBitVec.toInt := rfl
  rw [h1, BitVec.toInt_eq_toNat_bmod]
  have h2 := x.toBitVec.isLt
  have h3 := Int.bmod_emod (x := (x.toBitVec.toNat : Int)) (m := 2 ^ 32)
  have h4 : ((2 ^ 32 : Nat) : Int) = 4294967296 := rfl
  rw [h4] at h3
  rw [h3]; omega
theorem and_mask (x m : Int32) (k : Nat) (hk : k < 31) (hm : m.toBitVec.toNat = 2 ^ k - 1) : (x &&& m).toInt = x.toInt % ((2 ^ k : Nat) : Int) := by
  have h1 : (x &&& m).toInt = (x.toBitVec &&& m.toBitVec).toInt := rfl
  have h2 : (x.toBitVec &&& m.toBitVec).toNat = x.toBitVec.toNat % 2 ^ k := by rw [BitVec.toNat_and, hm, Nat.and_two_pow_sub_one_eq_mod]
  have h3 : (2 ^ k : Nat) ≤ 2 ^ 30 := Nat.pow_le_pow_right (by decide) (by omega)
  have h4 : x.toBitVec.toNat % 2 ^ k < 2 ^ k := Nat.mod_lt _ (Nat.two_pow_pos k)
  have h5 : (2 ^ k : Nat) ∣ 4294967296 := ⟨2 ^ (32 - k), by rw [← Nat.pow_add]; have : k + (32 - k) = 32 := by omega
                                                            rw [this]⟩
  rw [h1, BitVec.toInt_eq_toNat_of_lt (by rw [h2]; omega), h2, Int.natCast_emod, toNat_toInt]
  exact Int.emod_emod_of_dvd _ (Int.natCast_dvd_natCast.mpr h5)
theorem sar_toInt (x y : Int32) (k : Nat) (hy : y.toBitVec.smod 32#32 = BitVec.ofNat 32 k) (hk : k < 32) : (x >>> y).toInt = x.toInt / ((2 ^ k : Nat) : Int) := by
  have h1 : (x >>> y).toInt = (x.toBitVec.sshiftRight' (y.toBitVec.smod 32#32)).toInt := rfl
  rw [h1, hy, BitVec.sshiftRight_eq', BitVec.toInt_sshiftRight, BitVec.toNat_ofNat, Nat.mod_eq_of_lt (by omega), Int.shiftRight_eq_div_pow]
  rfl
theorem ushr_pos (x y : Int32) (k : Nat) (hy : (y &&& 31).toBitVec.toNat = k) (hx : ¬ x < 0) : (XT.ushr x y).toInt = x.toInt / ((2 ^ k : Nat) : Int) := by
  have hx' : 0 ≤ x.toInt := by rw [lt_i] at hx; have z : (0 : Int32).toInt = 0 := rfl; omega
  have h0 : (x.toBitVec.toNat : Int) = x.toInt := by rw [toNat_toInt]; have := Int32.toInt_lt x; omega
  have hy' : k < 32 := by
    rw [← hy]
    have : (y &&& 31).toBitVec.toNat = y.toBitVec.toNat % 2 ^ 5 := by
      show (y.toBitVec &&& 31#32).toNat = _
      rw [BitVec.toNat_and]; exact Nat.and_two_pow_sub_one_eq_mod _ 5
    omega
  have h1 : (XT.ushr x y).toBitVec = x.toBitVec >>> k := by
    show x.toBitVec >>> ((y &&& 31).toBitVec % 32#32) = _
    rw [BitVec.ushiftRight_eq', BitVec.toNat_umod, hy]
    show x.toBitVec >>> (k % 32) = _
    rw [Nat.mod_eq_of_lt hy']
  have h2 : (x.toBitVec >>> k).toNat = x.toBitVec.toNat / 2 ^ k := by rw [BitVec.toNat_ushiftRight, Nat.shiftRight_eq_div_pow]
  have h3 : (XT.ushr x y).toInt = (x.toBitVec >>> k).toInt := by rw [← h1]; rfl
  have h4 : x.toBitVec.toNat / 2 ^ k ≤ x.toBitVec.toNat := Nat.div_le_self _ _
  rw [h3, BitVec.toInt_eq_toNat_of_lt (by rw [h2]; have := Int32.toInt_lt x; omega), h2, Int.natCast_ediv, h0]
end Jvm.Own
namespace Jvm.Pilot.@@N@@
open Jvm Jvm.ClassFile Sem Op Lib Jvm.Free Jvm.Stand Jvm.LawKit Jvm.RoadKit Bundle Jvm.Own Jvm.Pilot.@@N@@.Jvm.D
def OK (Z : State) (a0 : Array Value) : Prop := ∀ d ∈ tables_1, d.before a0 Z = true
theorem OK.w {Z : State} {a0 : Array Value} (H : OK Z a0) (i : Nat) {d : Jvm.Cond} (h : tables_1[i]? = some d) : d.before a0 Z = true := H _ (List.mem_of_getElem? h)
abbrev cdC : CD := ("ContextProfiler", [(0, "capacity", "I"), (1, "period", "I"), (2, "maxDepth", "I"), (3, "status", "I"), (4, "codeSize", "I"), (5, "pc", "I"), (6, "sp", "I"), (7, "depth", "I"), (8, "executed", "I"), (9, "overflow", "I"), (10, "sampledOverflow", "I"), (11, "qLen", "I"), (12, "iCount", "I"), (13, "sCount", "I")], [], [(0, "ops", "[I", .int, 64), (1, "args", "[I", .int, 64), (2, "entries", "[I", .int, 8), (3, "stack", "[I", .int, 16), (4, "frameFunc", "[I", .int, 16), (5, "frameRet", "[I", .int, 16), (6, "frameNode", "[I", .int, 16), (7, "iParent", "[I", .int, 32), (8, "iFunc", "[I", .int, 32), (9, "iSelf", "[I", .int, 32), (10, "iIncl", "[I", .int, 32), (11, "iLost", "[I", .int, 32), (12, "sParent", "[I", .int, 32), (13, "sFunc", "[I", .int, 32), (14, "sSelf", "[I", .int, 32), (15, "query", "[I", .int, 16)])
theorem okcC : okC cdC := okC.of (by decide +kernel)
theorem mI_capacity : (0, "capacity", "I") ∈ cdC.2.1 := List.mem_of_getElem? (i := 0) rfl
theorem mI_period : (1, "period", "I") ∈ cdC.2.1 := List.mem_of_getElem? (i := 1) rfl
theorem mI_maxDepth : (2, "maxDepth", "I") ∈ cdC.2.1 := List.mem_of_getElem? (i := 2) rfl
theorem mI_status : (3, "status", "I") ∈ cdC.2.1 := List.mem_of_getElem? (i := 3) rfl
theorem mI_codeSize : (4, "codeSize", "I") ∈ cdC.2.1 := List.mem_of_getElem? (i := 4) rfl
theorem mI_pc : (5, "pc", "I") ∈ cdC.2.1 := List.mem_of_getElem? (i := 5) rfl
theorem mI_sp : (6, "sp", "I") ∈ cdC.2.1 := List.mem_of_getElem? (i := 6) rfl
theorem mI_depth : (7, "depth", "I") ∈ cdC.2.1 := List.mem_of_getElem? (i := 7) rfl
theorem mI_executed : (8, "executed", "I") ∈ cdC.2.1 := List.mem_of_getElem? (i := 8) rfl
theorem mI_overflow : (9, "overflow", "I") ∈ cdC.2.1 := List.mem_of_getElem? (i := 9) rfl
theorem mI_sampledOverflow : (10, "sampledOverflow", "I") ∈ cdC.2.1 := List.mem_of_getElem? (i := 10) rfl
theorem mI_qLen : (11, "qLen", "I") ∈ cdC.2.1 := List.mem_of_getElem? (i := 11) rfl
theorem mI_iCount : (12, "iCount", "I") ∈ cdC.2.1 := List.mem_of_getElem? (i := 12) rfl
theorem mI_sCount : (13, "sCount", "I") ∈ cdC.2.1 := List.mem_of_getElem? (i := 13) rfl
theorem mA_ops : (0, "ops", "[I", FieldType.int, (64 : Int32)) ∈ cdC.2.2.2 := List.mem_of_getElem? (i := 0) rfl
theorem mA_args : (1, "args", "[I", FieldType.int, (64 : Int32)) ∈ cdC.2.2.2 := List.mem_of_getElem? (i := 1) rfl
theorem mA_entries : (2, "entries", "[I", FieldType.int, (8 : Int32)) ∈ cdC.2.2.2 := List.mem_of_getElem? (i := 2) rfl
theorem mA_stack : (3, "stack", "[I", FieldType.int, (16 : Int32)) ∈ cdC.2.2.2 := List.mem_of_getElem? (i := 3) rfl
theorem mA_frameFunc : (4, "frameFunc", "[I", FieldType.int, (16 : Int32)) ∈ cdC.2.2.2 := List.mem_of_getElem? (i := 4) rfl
theorem mA_frameRet : (5, "frameRet", "[I", FieldType.int, (16 : Int32)) ∈ cdC.2.2.2 := List.mem_of_getElem? (i := 5) rfl
theorem mA_frameNode : (6, "frameNode", "[I", FieldType.int, (16 : Int32)) ∈ cdC.2.2.2 := List.mem_of_getElem? (i := 6) rfl
theorem mA_iParent : (7, "iParent", "[I", FieldType.int, (32 : Int32)) ∈ cdC.2.2.2 := List.mem_of_getElem? (i := 7) rfl
theorem mA_iFunc : (8, "iFunc", "[I", FieldType.int, (32 : Int32)) ∈ cdC.2.2.2 := List.mem_of_getElem? (i := 8) rfl
theorem mA_iSelf : (9, "iSelf", "[I", FieldType.int, (32 : Int32)) ∈ cdC.2.2.2 := List.mem_of_getElem? (i := 9) rfl
theorem mA_iIncl : (10, "iIncl", "[I", FieldType.int, (32 : Int32)) ∈ cdC.2.2.2 := List.mem_of_getElem? (i := 10) rfl
theorem mA_iLost : (11, "iLost", "[I", FieldType.int, (32 : Int32)) ∈ cdC.2.2.2 := List.mem_of_getElem? (i := 11) rfl
theorem mA_sParent : (12, "sParent", "[I", FieldType.int, (32 : Int32)) ∈ cdC.2.2.2 := List.mem_of_getElem? (i := 12) rfl
theorem mA_sFunc : (13, "sFunc", "[I", FieldType.int, (32 : Int32)) ∈ cdC.2.2.2 := List.mem_of_getElem? (i := 13) rfl
theorem mA_sSelf : (14, "sSelf", "[I", FieldType.int, (32 : Int32)) ∈ cdC.2.2.2 := List.mem_of_getElem? (i := 14) rfl
theorem mA_query : (15, "query", "[I", FieldType.int, (16 : Int32)) ∈ cdC.2.2.2 := List.mem_of_getElem? (i := 15) rfl
theorem wf_ops {Z : State} {a0 : Array Value} (H : OK Z a0) : (Cond.fieldLink "ContextProfiler" 7 "ContextProfiler" "ops" "[I").before a0 Z = true := H.w 10 rfl
theorem wf_args {Z : State} {a0 : Array Value} (H : OK Z a0) : (Cond.fieldLink "ContextProfiler" 13 "ContextProfiler" "args" "[I").before a0 Z = true := H.w 12 rfl
theorem wf_entries {Z : State} {a0 : Array Value} (H : OK Z a0) : (Cond.fieldLink "ContextProfiler" 16 "ContextProfiler" "entries" "[I").before a0 Z = true := H.w 14 rfl
theorem wf_stack {Z : State} {a0 : Array Value} (H : OK Z a0) : (Cond.fieldLink "ContextProfiler" 19 "ContextProfiler" "stack" "[I").before a0 Z = true := H.w 16 rfl
theorem wf_frameFunc {Z : State} {a0 : Array Value} (H : OK Z a0) : (Cond.fieldLink "ContextProfiler" 22 "ContextProfiler" "frameFunc" "[I").before a0 Z = true := H.w 18 rfl
theorem wf_frameRet {Z : State} {a0 : Array Value} (H : OK Z a0) : (Cond.fieldLink "ContextProfiler" 25 "ContextProfiler" "frameRet" "[I").before a0 Z = true := H.w 20 rfl
theorem wf_frameNode {Z : State} {a0 : Array Value} (H : OK Z a0) : (Cond.fieldLink "ContextProfiler" 28 "ContextProfiler" "frameNode" "[I").before a0 Z = true := H.w 22 rfl
theorem wf_iParent {Z : State} {a0 : Array Value} (H : OK Z a0) : (Cond.fieldLink "ContextProfiler" 31 "ContextProfiler" "iParent" "[I").before a0 Z = true := H.w 24 rfl
theorem wf_iFunc {Z : State} {a0 : Array Value} (H : OK Z a0) : (Cond.fieldLink "ContextProfiler" 34 "ContextProfiler" "iFunc" "[I").before a0 Z = true := H.w 26 rfl
theorem wf_iSelf {Z : State} {a0 : Array Value} (H : OK Z a0) : (Cond.fieldLink "ContextProfiler" 37 "ContextProfiler" "iSelf" "[I").before a0 Z = true := H.w 28 rfl
theorem wf_iIncl {Z : State} {a0 : Array Value} (H : OK Z a0) : (Cond.fieldLink "ContextProfiler" 40 "ContextProfiler" "iIncl" "[I").before a0 Z = true := H.w 30 rfl
theorem wf_iLost {Z : State} {a0 : Array Value} (H : OK Z a0) : (Cond.fieldLink "ContextProfiler" 43 "ContextProfiler" "iLost" "[I").before a0 Z = true := H.w 32 rfl
theorem wf_sParent {Z : State} {a0 : Array Value} (H : OK Z a0) : (Cond.fieldLink "ContextProfiler" 46 "ContextProfiler" "sParent" "[I").before a0 Z = true := H.w 34 rfl
theorem wf_sFunc {Z : State} {a0 : Array Value} (H : OK Z a0) : (Cond.fieldLink "ContextProfiler" 49 "ContextProfiler" "sFunc" "[I").before a0 Z = true := H.w 36 rfl
theorem wf_sSelf {Z : State} {a0 : Array Value} (H : OK Z a0) : (Cond.fieldLink "ContextProfiler" 52 "ContextProfiler" "sSelf" "[I").before a0 Z = true := H.w 38 rfl
theorem wf_query {Z : State} {a0 : Array Value} (H : OK Z a0) : (Cond.fieldLink "ContextProfiler" 55 "ContextProfiler" "query" "[I").before a0 Z = true := H.w 40 rfl
theorem wf_capacity {Z : State} {a0 : Array Value} (H : OK Z a0) : (Cond.fieldLink "ContextProfiler" 62 "ContextProfiler" "capacity" "I").before a0 Z = true := H.w 46 rfl
theorem wf_period {Z : State} {a0 : Array Value} (H : OK Z a0) : (Cond.fieldLink "ContextProfiler" 66 "ContextProfiler" "period" "I").before a0 Z = true := H.w 48 rfl
theorem wf_maxDepth {Z : State} {a0 : Array Value} (H : OK Z a0) : (Cond.fieldLink "ContextProfiler" 69 "ContextProfiler" "maxDepth" "I").before a0 Z = true := H.w 50 rfl
theorem wf_status {Z : State} {a0 : Array Value} (H : OK Z a0) : (Cond.fieldLink "ContextProfiler" 75 "ContextProfiler" "status" "I").before a0 Z = true := H.w 57 rfl
theorem wf_codeSize {Z : State} {a0 : Array Value} (H : OK Z a0) : (Cond.fieldLink "ContextProfiler" 78 "ContextProfiler" "codeSize" "I").before a0 Z = true := H.w 59 rfl
theorem wf_pc {Z : State} {a0 : Array Value} (H : OK Z a0) : (Cond.fieldLink "ContextProfiler" 81 "ContextProfiler" "pc" "I").before a0 Z = true := H.w 61 rfl
theorem wf_sp {Z : State} {a0 : Array Value} (H : OK Z a0) : (Cond.fieldLink "ContextProfiler" 84 "ContextProfiler" "sp" "I").before a0 Z = true := H.w 63 rfl
theorem wf_depth {Z : State} {a0 : Array Value} (H : OK Z a0) : (Cond.fieldLink "ContextProfiler" 87 "ContextProfiler" "depth" "I").before a0 Z = true := H.w 65 rfl
theorem wf_executed {Z : State} {a0 : Array Value} (H : OK Z a0) : (Cond.fieldLink "ContextProfiler" 90 "ContextProfiler" "executed" "I").before a0 Z = true := H.w 67 rfl
theorem wf_overflow {Z : State} {a0 : Array Value} (H : OK Z a0) : (Cond.fieldLink "ContextProfiler" 93 "ContextProfiler" "overflow" "I").before a0 Z = true := H.w 69 rfl
theorem wf_sampledOverflow {Z : State} {a0 : Array Value} (H : OK Z a0) : (Cond.fieldLink "ContextProfiler" 96 "ContextProfiler" "sampledOverflow" "I").before a0 Z = true := H.w 71 rfl
theorem wf_qLen {Z : State} {a0 : Array Value} (H : OK Z a0) : (Cond.fieldLink "ContextProfiler" 99 "ContextProfiler" "qLen" "I").before a0 Z = true := H.w 73 rfl
theorem wf_iCount {Z : State} {a0 : Array Value} (H : OK Z a0) : (Cond.fieldLink "ContextProfiler" 105 "ContextProfiler" "iCount" "I").before a0 Z = true := H.w 79 rfl
theorem wf_sCount {Z : State} {a0 : Array Value} (H : OK Z a0) : (Cond.fieldLink "ContextProfiler" 108 "ContextProfiler" "sCount" "I").before a0 Z = true := H.w 81 rfl
theorem wy_ops {Z : State} {a0 : Array Value} (H : OK Z a0) : (Cond.lays "ContextProfiler" "ContextProfiler" "ops" "[I").before a0 Z = true := H.w 11 rfl
theorem wy_args {Z : State} {a0 : Array Value} (H : OK Z a0) : (Cond.lays "ContextProfiler" "ContextProfiler" "args" "[I").before a0 Z = true := H.w 13 rfl
theorem wy_entries {Z : State} {a0 : Array Value} (H : OK Z a0) : (Cond.lays "ContextProfiler" "ContextProfiler" "entries" "[I").before a0 Z = true := H.w 15 rfl
theorem wy_stack {Z : State} {a0 : Array Value} (H : OK Z a0) : (Cond.lays "ContextProfiler" "ContextProfiler" "stack" "[I").before a0 Z = true := H.w 17 rfl
theorem wy_frameFunc {Z : State} {a0 : Array Value} (H : OK Z a0) : (Cond.lays "ContextProfiler" "ContextProfiler" "frameFunc" "[I").before a0 Z = true := H.w 19 rfl
theorem wy_frameRet {Z : State} {a0 : Array Value} (H : OK Z a0) : (Cond.lays "ContextProfiler" "ContextProfiler" "frameRet" "[I").before a0 Z = true := H.w 21 rfl
theorem wy_frameNode {Z : State} {a0 : Array Value} (H : OK Z a0) : (Cond.lays "ContextProfiler" "ContextProfiler" "frameNode" "[I").before a0 Z = true := H.w 23 rfl
theorem wy_iParent {Z : State} {a0 : Array Value} (H : OK Z a0) : (Cond.lays "ContextProfiler" "ContextProfiler" "iParent" "[I").before a0 Z = true := H.w 25 rfl
theorem wy_iFunc {Z : State} {a0 : Array Value} (H : OK Z a0) : (Cond.lays "ContextProfiler" "ContextProfiler" "iFunc" "[I").before a0 Z = true := H.w 27 rfl
theorem wy_iSelf {Z : State} {a0 : Array Value} (H : OK Z a0) : (Cond.lays "ContextProfiler" "ContextProfiler" "iSelf" "[I").before a0 Z = true := H.w 29 rfl
theorem wy_iIncl {Z : State} {a0 : Array Value} (H : OK Z a0) : (Cond.lays "ContextProfiler" "ContextProfiler" "iIncl" "[I").before a0 Z = true := H.w 31 rfl
theorem wy_iLost {Z : State} {a0 : Array Value} (H : OK Z a0) : (Cond.lays "ContextProfiler" "ContextProfiler" "iLost" "[I").before a0 Z = true := H.w 33 rfl
theorem wy_sParent {Z : State} {a0 : Array Value} (H : OK Z a0) : (Cond.lays "ContextProfiler" "ContextProfiler" "sParent" "[I").before a0 Z = true := H.w 35 rfl
theorem wy_sFunc {Z : State} {a0 : Array Value} (H : OK Z a0) : (Cond.lays "ContextProfiler" "ContextProfiler" "sFunc" "[I").before a0 Z = true := H.w 37 rfl
theorem wy_sSelf {Z : State} {a0 : Array Value} (H : OK Z a0) : (Cond.lays "ContextProfiler" "ContextProfiler" "sSelf" "[I").before a0 Z = true := H.w 39 rfl
theorem wy_query {Z : State} {a0 : Array Value} (H : OK Z a0) : (Cond.lays "ContextProfiler" "ContextProfiler" "query" "[I").before a0 Z = true := H.w 41 rfl
theorem wy_capacity {Z : State} {a0 : Array Value} (H : OK Z a0) : (Cond.lays "ContextProfiler" "ContextProfiler" "capacity" "I").before a0 Z = true := H.w 47 rfl
theorem wy_period {Z : State} {a0 : Array Value} (H : OK Z a0) : (Cond.lays "ContextProfiler" "ContextProfiler" "period" "I").before a0 Z = true := H.w 49 rfl
theorem wy_maxDepth {Z : State} {a0 : Array Value} (H : OK Z a0) : (Cond.lays "ContextProfiler" "ContextProfiler" "maxDepth" "I").before a0 Z = true := H.w 51 rfl
theorem wy_status {Z : State} {a0 : Array Value} (H : OK Z a0) : (Cond.lays "ContextProfiler" "ContextProfiler" "status" "I").before a0 Z = true := H.w 58 rfl
theorem wy_codeSize {Z : State} {a0 : Array Value} (H : OK Z a0) : (Cond.lays "ContextProfiler" "ContextProfiler" "codeSize" "I").before a0 Z = true := H.w 60 rfl
theorem wy_pc {Z : State} {a0 : Array Value} (H : OK Z a0) : (Cond.lays "ContextProfiler" "ContextProfiler" "pc" "I").before a0 Z = true := H.w 62 rfl
theorem wy_sp {Z : State} {a0 : Array Value} (H : OK Z a0) : (Cond.lays "ContextProfiler" "ContextProfiler" "sp" "I").before a0 Z = true := H.w 64 rfl
theorem wy_depth {Z : State} {a0 : Array Value} (H : OK Z a0) : (Cond.lays "ContextProfiler" "ContextProfiler" "depth" "I").before a0 Z = true := H.w 66 rfl
theorem wy_executed {Z : State} {a0 : Array Value} (H : OK Z a0) : (Cond.lays "ContextProfiler" "ContextProfiler" "executed" "I").before a0 Z = true := H.w 68 rfl
theorem wy_overflow {Z : State} {a0 : Array Value} (H : OK Z a0) : (Cond.lays "ContextProfiler" "ContextProfiler" "overflow" "I").before a0 Z = true := H.w 70 rfl
theorem wy_sampledOverflow {Z : State} {a0 : Array Value} (H : OK Z a0) : (Cond.lays "ContextProfiler" "ContextProfiler" "sampledOverflow" "I").before a0 Z = true := H.w 72 rfl
theorem wy_qLen {Z : State} {a0 : Array Value} (H : OK Z a0) : (Cond.lays "ContextProfiler" "ContextProfiler" "qLen" "I").before a0 Z = true := H.w 74 rfl
theorem wy_iCount {Z : State} {a0 : Array Value} (H : OK Z a0) : (Cond.lays "ContextProfiler" "ContextProfiler" "iCount" "I").before a0 Z = true := H.w 80 rfl
theorem wy_sCount {Z : State} {a0 : Array Value} (H : OK Z a0) : (Cond.lays "ContextProfiler" "ContextProfiler" "sCount" "I").before a0 Z = true := H.w 82 rfl
theorem wa_int {Z : State} {a0 : Array Value} (H : OK Z a0) : (Cond.arrayClass (newarray.typeOf .int)).before a0 Z = true := H.w 9 rfl
theorem wz_C {Z : State} {a0 : Array Value} (H : OK Z a0) : (Cond.initialized "ContextProfiler").before a0 Z = true := H.w 2 rfl
theorem coC {Z : State} {a0 : Array Value} (H : OK Z a0) : CO Z a0 cdC := by
  refine ⟨⟨30, H.w 1 rfl⟩, ?_, ?_, ?_, okcC⟩
  · intro t m; simp only [cdC, List.mem_cons, List.not_mem_nil, or_false] at m
    rcases m with rfl | rfl | rfl | rfl | rfl | rfl | rfl | rfl | rfl | rfl | rfl | rfl | rfl | rfl
    · exact Or.inl (wy_capacity H)
    · exact Or.inl (wy_period H)
    · exact Or.inl (wy_maxDepth H)
    · exact Or.inl (wy_status H)
    · exact Or.inl (wy_codeSize H)
    · exact Or.inl (wy_pc H)
    · exact Or.inl (wy_sp H)
    · exact Or.inl (wy_depth H)
    · exact Or.inl (wy_executed H)
    · exact Or.inl (wy_overflow H)
    · exact Or.inl (wy_sampledOverflow H)
    · exact Or.inl (wy_qLen H)
    · exact Or.inl (wy_iCount H)
    · exact Or.inl (wy_sCount H)
  · intro t m; cases m
  · intro t m; simp only [cdC, List.mem_cons, List.not_mem_nil, or_false] at m
    rcases m with rfl | rfl | rfl | rfl | rfl | rfl | rfl | rfl | rfl | rfl | rfl | rfl | rfl | rfl | rfl | rfl
    · exact Or.inl (wy_ops H)
    · exact Or.inl (wy_args H)
    · exact Or.inl (wy_entries H)
    · exact Or.inl (wy_stack H)
    · exact Or.inl (wy_frameFunc H)
    · exact Or.inl (wy_frameRet H)
    · exact Or.inl (wy_frameNode H)
    · exact Or.inl (wy_iParent H)
    · exact Or.inl (wy_iFunc H)
    · exact Or.inl (wy_iSelf H)
    · exact Or.inl (wy_iIncl H)
    · exact Or.inl (wy_iLost H)
    · exact Or.inl (wy_sParent H)
    · exact Or.inl (wy_sFunc H)
    · exact Or.inl (wy_sSelf H)
    · exact Or.inl (wy_query H)
theorem mrC {Z : State} (en : Nat × Nat) (h : Heap) : (MoC Z cdC).frm en h h := frmC.refl _ _ _
theorem mtC {Z : State} (en : Nat × Nat) (h1 h2 h3 : Heap) (a : (MoC Z cdC).frm en h1 h2) (b : (MoC Z cdC).frm en h2 h3) : (MoC Z cdC).frm en h1 h3 := frmC.trans a b
theorem mrL {Z : State} (en : Nat × Nat) (h : Heap) : (MoL Z cdC "ContextProfilerL3" false).frm en h h := trivial
theorem mtL {Z : State} (en : Nat × Nat) (h1 h2 h3 : Heap) (a : (MoL Z cdC "ContextProfilerL3" false).frm en h1 h2) (b : (MoL Z cdC "ContextProfilerL3" false).frm en h2 h3) : (MoL Z cdC "ContextProfilerL3" false).frm en h1 h3 := trivial
theorem pn_ContextProfiler : plainName "ContextProfiler" = true := by first | (simp [plainName, overriddenIn]; done) | decide +kernel
theorem pn_ContextProfilerL3 : plainName "ContextProfilerL3" = true := by first | (simp [plainName, overriddenIn]; done) | decide +kernel
theorem pd___I : ∀ sig, parseMethodDescriptor "()I" = some sig → 0 = sig.parameters.length := fun sig h => by
  have q : parseMethodDescriptor "()I" = some ⟨[], some .int⟩ := by decide +kernel
  cases q.symm.trans h; rfl
theorem pd___V : ∀ sig, parseMethodDescriptor "()V" = some sig → 0 = sig.parameters.length := fun sig h => by
  have q : parseMethodDescriptor "()V" = some ⟨[], none⟩ := by decide +kernel
  cases q.symm.trans h; rfl
theorem pd___Z : ∀ sig, parseMethodDescriptor "()Z" = some sig → 0 = sig.parameters.length := fun sig h => by
  have q : parseMethodDescriptor "()Z" = some ⟨[], some .boolean⟩ := by decide +kernel
  cases q.symm.trans h; rfl
theorem pd__I_I : ∀ sig, parseMethodDescriptor "(I)I" = some sig → 1 = sig.parameters.length := fun sig h => by
  have q : parseMethodDescriptor "(I)I" = some ⟨[.int], some .int⟩ := by decide +kernel
  cases q.symm.trans h; rfl
theorem pd__I_V : ∀ sig, parseMethodDescriptor "(I)V" = some sig → 1 = sig.parameters.length := fun sig h => by
  have q : parseMethodDescriptor "(I)V" = some ⟨[.int], none⟩ := by decide +kernel
  cases q.symm.trans h; rfl
theorem pd__I_Z : ∀ sig, parseMethodDescriptor "(I)Z" = some sig → 1 = sig.parameters.length := fun sig h => by
  have q : parseMethodDescriptor "(I)Z" = some ⟨[.int], some .boolean⟩ := by decide +kernel
  cases q.symm.trans h; rfl
theorem pd__II_I : ∀ sig, parseMethodDescriptor "(II)I" = some sig → 2 = sig.parameters.length := fun sig h => by
  have q : parseMethodDescriptor "(II)I" = some ⟨[.int, .int], some .int⟩ := by decide +kernel
  cases q.symm.trans h; rfl
theorem pd__II_V : ∀ sig, parseMethodDescriptor "(II)V" = some sig → 2 = sig.parameters.length := fun sig h => by
  have q : parseMethodDescriptor "(II)V" = some ⟨[.int, .int], none⟩ := by decide +kernel
  cases q.symm.trans h; rfl
theorem pd__II_Z : ∀ sig, parseMethodDescriptor "(II)Z" = some sig → 2 = sig.parameters.length := fun sig h => by
  have q : parseMethodDescriptor "(II)Z" = some ⟨[.int, .int], some .boolean⟩ := by decide +kernel
  cases q.symm.trans h; rfl
theorem pd__III_I : ∀ sig, parseMethodDescriptor "(III)I" = some sig → 3 = sig.parameters.length := fun sig h => by
  have q : parseMethodDescriptor "(III)I" = some ⟨[.int, .int, .int], some .int⟩ := by decide +kernel
  cases q.symm.trans h; rfl
theorem pd__III_V : ∀ sig, parseMethodDescriptor "(III)V" = some sig → 3 = sig.parameters.length := fun sig h => by
  have q : parseMethodDescriptor "(III)V" = some ⟨[.int, .int, .int], none⟩ := by decide +kernel
  cases q.symm.trans h; rfl
theorem pd__IIIIII_Z : ∀ sig, parseMethodDescriptor "(IIIIII)Z" = some sig → 6 = sig.parameters.length := fun sig h => by
  have q : parseMethodDescriptor "(IIIIII)Z" = some ⟨[.int, .int, .int, .int, .int, .int], some .boolean⟩ := by decide +kernel
  cases q.symm.trans h; rfl
theorem pd__Z_V : ∀ sig, parseMethodDescriptor "(Z)V" = some sig → 1 = sig.parameters.length := fun sig h => by
  have q : parseMethodDescriptor "(Z)V" = some ⟨[.boolean], none⟩ := by decide +kernel
  cases q.symm.trans h; rfl
abbrev md_init : MD := (⟨"ContextProfiler", "<init>", "(III)V"⟩, prog_1_method_1_code, 4, none, { frames := 2, cells := 16, slots := 472, locals := 26 }, 16)
theorem cv_init {Z : State} {a0 : Array Value} (H : OK Z a0) : CalI Z a0 md_init 3 := ⟨pn_ContextProfiler, by decide, pd__III_V, H.w 4 rfl, H.w 5 rfl, H.w 2 rfl, rfl, rfl⟩
theorem o_init_0 : InsA md_init 0 (.aload_n 0) 1 1 := ⟨by decide +kernel, rfl⟩
theorem o_init_1 : InsA md_init 1 (.invokespecial 1) 3 4 := ⟨by decide +kernel, rfl⟩
theorem o_init_4 : InsA md_init 4 (.aload_n 0) 1 5 := ⟨by decide +kernel, rfl⟩
theorem o_init_5 : InsA md_init 5 (.bipush 64) 2 7 := ⟨by decide +kernel, rfl⟩
theorem o_init_7 : InsA md_init 7 (.newarray .int) 2 9 := ⟨by decide +kernel, rfl⟩
theorem o_init_9 : InsA md_init 9 (.putfield 7) 3 12 := ⟨by decide +kernel, rfl⟩
theorem o_init_12 : InsA md_init 12 (.aload_n 0) 1 13 := ⟨by decide +kernel, rfl⟩
theorem o_init_13 : InsA md_init 13 (.bipush 64) 2 15 := ⟨by decide +kernel, rfl⟩
theorem o_init_15 : InsA md_init 15 (.newarray .int) 2 17 := ⟨by decide +kernel, rfl⟩
theorem o_init_17 : InsA md_init 17 (.putfield 13) 3 20 := ⟨by decide +kernel, rfl⟩
theorem o_init_20 : InsA md_init 20 (.aload_n 0) 1 21 := ⟨by decide +kernel, rfl⟩
theorem o_init_21 : InsA md_init 21 (.bipush 8) 2 23 := ⟨by decide +kernel, rfl⟩
theorem o_init_23 : InsA md_init 23 (.newarray .int) 2 25 := ⟨by decide +kernel, rfl⟩
theorem o_init_25 : InsA md_init 25 (.putfield 16) 3 28 := ⟨by decide +kernel, rfl⟩
theorem o_init_28 : InsA md_init 28 (.aload_n 0) 1 29 := ⟨by decide +kernel, rfl⟩
theorem o_init_29 : InsA md_init 29 (.bipush 16) 2 31 := ⟨by decide +kernel, rfl⟩
theorem o_init_31 : InsA md_init 31 (.newarray .int) 2 33 := ⟨by decide +kernel, rfl⟩
theorem o_init_33 : InsA md_init 33 (.putfield 19) 3 36 := ⟨by decide +kernel, rfl⟩
theorem o_init_36 : InsA md_init 36 (.aload_n 0) 1 37 := ⟨by decide +kernel, rfl⟩
theorem o_init_37 : InsA md_init 37 (.bipush 16) 2 39 := ⟨by decide +kernel, rfl⟩
theorem o_init_39 : InsA md_init 39 (.newarray .int) 2 41 := ⟨by decide +kernel, rfl⟩
theorem o_init_41 : InsA md_init 41 (.putfield 22) 3 44 := ⟨by decide +kernel, rfl⟩
theorem o_init_44 : InsA md_init 44 (.aload_n 0) 1 45 := ⟨by decide +kernel, rfl⟩
theorem o_init_45 : InsA md_init 45 (.bipush 16) 2 47 := ⟨by decide +kernel, rfl⟩
theorem o_init_47 : InsA md_init 47 (.newarray .int) 2 49 := ⟨by decide +kernel, rfl⟩
theorem o_init_49 : InsA md_init 49 (.putfield 25) 3 52 := ⟨by decide +kernel, rfl⟩
theorem o_init_52 : InsA md_init 52 (.aload_n 0) 1 53 := ⟨by decide +kernel, rfl⟩
theorem o_init_53 : InsA md_init 53 (.bipush 16) 2 55 := ⟨by decide +kernel, rfl⟩
theorem o_init_55 : InsA md_init 55 (.newarray .int) 2 57 := ⟨by decide +kernel, rfl⟩
theorem o_init_57 : InsA md_init 57 (.putfield 28) 3 60 := ⟨by decide +kernel, rfl⟩
theorem o_init_60 : InsA md_init 60 (.aload_n 0) 1 61 := ⟨by decide +kernel, rfl⟩
theorem o_init_61 : InsA md_init 61 (.bipush 32) 2 63 := ⟨by decide +kernel, rfl⟩
theorem o_init_63 : InsA md_init 63 (.newarray .int) 2 65 := ⟨by decide +kernel, rfl⟩
theorem o_init_65 : InsA md_init 65 (.putfield 31) 3 68 := ⟨by decide +kernel, rfl⟩
theorem o_init_68 : InsA md_init 68 (.aload_n 0) 1 69 := ⟨by decide +kernel, rfl⟩
theorem o_init_69 : InsA md_init 69 (.bipush 32) 2 71 := ⟨by decide +kernel, rfl⟩
theorem o_init_71 : InsA md_init 71 (.newarray .int) 2 73 := ⟨by decide +kernel, rfl⟩
theorem o_init_73 : InsA md_init 73 (.putfield 34) 3 76 := ⟨by decide +kernel, rfl⟩
theorem o_init_76 : InsA md_init 76 (.aload_n 0) 1 77 := ⟨by decide +kernel, rfl⟩
theorem o_init_77 : InsA md_init 77 (.bipush 32) 2 79 := ⟨by decide +kernel, rfl⟩
theorem o_init_79 : InsA md_init 79 (.newarray .int) 2 81 := ⟨by decide +kernel, rfl⟩
theorem o_init_81 : InsA md_init 81 (.putfield 37) 3 84 := ⟨by decide +kernel, rfl⟩
theorem o_init_84 : InsA md_init 84 (.aload_n 0) 1 85 := ⟨by decide +kernel, rfl⟩
theorem o_init_85 : InsA md_init 85 (.bipush 32) 2 87 := ⟨by decide +kernel, rfl⟩
theorem o_init_87 : InsA md_init 87 (.newarray .int) 2 89 := ⟨by decide +kernel, rfl⟩
theorem o_init_89 : InsA md_init 89 (.putfield 40) 3 92 := ⟨by decide +kernel, rfl⟩
theorem o_init_92 : InsA md_init 92 (.aload_n 0) 1 93 := ⟨by decide +kernel, rfl⟩
theorem o_init_93 : InsA md_init 93 (.bipush 32) 2 95 := ⟨by decide +kernel, rfl⟩
theorem o_init_95 : InsA md_init 95 (.newarray .int) 2 97 := ⟨by decide +kernel, rfl⟩
theorem o_init_97 : InsA md_init 97 (.putfield 43) 3 100 := ⟨by decide +kernel, rfl⟩
theorem o_init_100 : InsA md_init 100 (.aload_n 0) 1 101 := ⟨by decide +kernel, rfl⟩
theorem o_init_101 : InsA md_init 101 (.bipush 32) 2 103 := ⟨by decide +kernel, rfl⟩
theorem o_init_103 : InsA md_init 103 (.newarray .int) 2 105 := ⟨by decide +kernel, rfl⟩
theorem o_init_105 : InsA md_init 105 (.putfield 46) 3 108 := ⟨by decide +kernel, rfl⟩
theorem o_init_108 : InsA md_init 108 (.aload_n 0) 1 109 := ⟨by decide +kernel, rfl⟩
theorem o_init_109 : InsA md_init 109 (.bipush 32) 2 111 := ⟨by decide +kernel, rfl⟩
theorem o_init_111 : InsA md_init 111 (.newarray .int) 2 113 := ⟨by decide +kernel, rfl⟩
theorem o_init_113 : InsA md_init 113 (.putfield 49) 3 116 := ⟨by decide +kernel, rfl⟩
theorem o_init_116 : InsA md_init 116 (.aload_n 0) 1 117 := ⟨by decide +kernel, rfl⟩
theorem o_init_117 : InsA md_init 117 (.bipush 32) 2 119 := ⟨by decide +kernel, rfl⟩
theorem o_init_119 : InsA md_init 119 (.newarray .int) 2 121 := ⟨by decide +kernel, rfl⟩
theorem o_init_121 : InsA md_init 121 (.putfield 52) 3 124 := ⟨by decide +kernel, rfl⟩
theorem o_init_124 : InsA md_init 124 (.aload_n 0) 1 125 := ⟨by decide +kernel, rfl⟩
theorem o_init_125 : InsA md_init 125 (.bipush 16) 2 127 := ⟨by decide +kernel, rfl⟩
theorem o_init_127 : InsA md_init 127 (.newarray .int) 2 129 := ⟨by decide +kernel, rfl⟩
theorem o_init_129 : InsA md_init 129 (.putfield 55) 3 132 := ⟨by decide +kernel, rfl⟩
theorem o_init_132 : InsA md_init 132 (.aload_n 0) 1 133 := ⟨by decide +kernel, rfl⟩
theorem o_init_133 : InsA md_init 133 (.aload_n 0) 1 134 := ⟨by decide +kernel, rfl⟩
theorem o_init_134 : InsA md_init 134 (.iload_n 1) 1 135 := ⟨by decide +kernel, rfl⟩
theorem o_init_135 : InsA md_init 135 (.iconst 4) 1 136 := ⟨by decide +kernel, rfl⟩
theorem o_init_136 : InsA md_init 136 (.bipush 32) 2 138 := ⟨by decide +kernel, rfl⟩
theorem o_init_138 : InsA md_init 138 (.invokevirtual 58) 3 141 := ⟨by decide +kernel, rfl⟩
theorem o_init_141 : InsA md_init 141 (.putfield 62) 3 144 := ⟨by decide +kernel, rfl⟩
theorem o_init_144 : InsA md_init 144 (.aload_n 0) 1 145 := ⟨by decide +kernel, rfl⟩
theorem o_init_145 : InsA md_init 145 (.aload_n 0) 1 146 := ⟨by decide +kernel, rfl⟩
theorem o_init_146 : InsA md_init 146 (.iload_n 2) 1 147 := ⟨by decide +kernel, rfl⟩
theorem o_init_147 : InsA md_init 147 (.iconst 1) 1 148 := ⟨by decide +kernel, rfl⟩
theorem o_init_148 : InsA md_init 148 (.bipush 16) 2 150 := ⟨by decide +kernel, rfl⟩
theorem o_init_150 : InsA md_init 150 (.invokevirtual 58) 3 153 := ⟨by decide +kernel, rfl⟩
theorem o_init_153 : InsA md_init 153 (.putfield 66) 3 156 := ⟨by decide +kernel, rfl⟩
theorem o_init_156 : InsA md_init 156 (.aload_n 0) 1 157 := ⟨by decide +kernel, rfl⟩
theorem o_init_157 : InsA md_init 157 (.aload_n 0) 1 158 := ⟨by decide +kernel, rfl⟩
theorem o_init_158 : InsA md_init 158 (.iload_n 3) 1 159 := ⟨by decide +kernel, rfl⟩
theorem o_init_159 : InsA md_init 159 (.iconst 2) 1 160 := ⟨by decide +kernel, rfl⟩
theorem o_init_160 : InsA md_init 160 (.bipush 16) 2 162 := ⟨by decide +kernel, rfl⟩
theorem o_init_162 : InsA md_init 162 (.invokevirtual 58) 3 165 := ⟨by decide +kernel, rfl⟩
theorem o_init_165 : InsA md_init 165 (.putfield 69) 3 168 := ⟨by decide +kernel, rfl⟩
theorem o_init_168 : InsA md_init 168 (.aload_n 0) 1 169 := ⟨by decide +kernel, rfl⟩
theorem o_init_169 : InsA md_init 169 (.invokevirtual 72) 3 172 := ⟨by decide +kernel, rfl⟩
theorem o_init_172 : InsA md_init 172 (.return_) 1 173 := ⟨by decide +kernel, rfl⟩
abbrev md_clamp : MD := (⟨"ContextProfiler", "clamp", "(III)I"⟩, prog_1_method_2_code, 4, some .int, { frames := 0, cells := 0, slots := 0, locals := 0 }, 0)
theorem cv_clamp {Z : State} {a0 : Array Value} (H : OK Z a0) : CalV Z a0 md_clamp 3 := ⟨pn_ContextProfiler, by decide, pd__III_I, H.w 43 rfl, H.w 45 rfl, H.w 2 rfl, Or.inr ⟨H.w 44 rfl, 30, H.w 1 rfl⟩⟩
theorem o_clamp_0 : InsA md_clamp 0 (.iload_n 1) 1 1 := ⟨by decide +kernel, rfl⟩
theorem o_clamp_1 : InsA md_clamp 1 (.iload_n 2) 1 2 := ⟨by decide +kernel, rfl⟩
theorem o_clamp_2 : InsB md_clamp 2 (.if_icmp .ge 5) 3 5 (5) 7 := ⟨by decide +kernel, rfl, by decide, by decide⟩
theorem o_clamp_5 : InsA md_clamp 5 (.iload_n 2) 1 6 := ⟨by decide +kernel, rfl⟩
theorem o_clamp_6 : InsA md_clamp 6 (.ireturn) 1 7 := ⟨by decide +kernel, rfl⟩
theorem o_clamp_7 : InsA md_clamp 7 (.iload_n 1) 1 8 := ⟨by decide +kernel, rfl⟩
theorem o_clamp_8 : InsA md_clamp 8 (.iload_n 3) 1 9 := ⟨by decide +kernel, rfl⟩
theorem o_clamp_9 : InsB md_clamp 9 (.if_icmp .le 5) 3 12 (5) 14 := ⟨by decide +kernel, rfl, by decide, by decide⟩
theorem o_clamp_12 : InsA md_clamp 12 (.iload_n 3) 1 13 := ⟨by decide +kernel, rfl⟩
theorem o_clamp_13 : InsA md_clamp 13 (.ireturn) 1 14 := ⟨by decide +kernel, rfl⟩
theorem o_clamp_14 : InsA md_clamp 14 (.iload_n 1) 1 15 := ⟨by decide +kernel, rfl⟩
theorem o_clamp_15 : InsA md_clamp 15 (.ireturn) 1 16 := ⟨by decide +kernel, rfl⟩
abbrev md_reset : MD := (⟨"ContextProfiler", "reset", "()V"⟩, prog_1_method_3_code, 2, none, { frames := 1, cells := 0, slots := 0, locals := 13 }, 0)
theorem cv_reset {Z : State} {a0 : Array Value} (H : OK Z a0) : CalV Z a0 md_reset 0 := ⟨pn_ContextProfiler, by decide, pd___V, H.w 54 rfl, H.w 56 rfl, H.w 2 rfl, Or.inl ⟨H.w 53 rfl, H.w 55 rfl⟩⟩
theorem o_reset_0 : InsA md_reset 0 (.aload_n 0) 1 1 := ⟨by decide +kernel, rfl⟩
theorem o_reset_1 : InsA md_reset 1 (.iconst 0) 1 2 := ⟨by decide +kernel, rfl⟩
theorem o_reset_2 : InsA md_reset 2 (.putfield 75) 3 5 := ⟨by decide +kernel, rfl⟩
theorem o_reset_5 : InsA md_reset 5 (.aload_n 0) 1 6 := ⟨by decide +kernel, rfl⟩
theorem o_reset_6 : InsA md_reset 6 (.iconst 0) 1 7 := ⟨by decide +kernel, rfl⟩
theorem o_reset_7 : InsA md_reset 7 (.putfield 78) 3 10 := ⟨by decide +kernel, rfl⟩
theorem o_reset_10 : InsA md_reset 10 (.aload_n 0) 1 11 := ⟨by decide +kernel, rfl⟩
theorem o_reset_11 : InsA md_reset 11 (.iconst 0) 1 12 := ⟨by decide +kernel, rfl⟩
theorem o_reset_12 : InsA md_reset 12 (.putfield 81) 3 15 := ⟨by decide +kernel, rfl⟩
theorem o_reset_15 : InsA md_reset 15 (.aload_n 0) 1 16 := ⟨by decide +kernel, rfl⟩
theorem o_reset_16 : InsA md_reset 16 (.iconst 0) 1 17 := ⟨by decide +kernel, rfl⟩
theorem o_reset_17 : InsA md_reset 17 (.putfield 84) 3 20 := ⟨by decide +kernel, rfl⟩
theorem o_reset_20 : InsA md_reset 20 (.aload_n 0) 1 21 := ⟨by decide +kernel, rfl⟩
theorem o_reset_21 : InsA md_reset 21 (.iconst 0) 1 22 := ⟨by decide +kernel, rfl⟩
theorem o_reset_22 : InsA md_reset 22 (.putfield 87) 3 25 := ⟨by decide +kernel, rfl⟩
theorem o_reset_25 : InsA md_reset 25 (.aload_n 0) 1 26 := ⟨by decide +kernel, rfl⟩
theorem o_reset_26 : InsA md_reset 26 (.iconst 0) 1 27 := ⟨by decide +kernel, rfl⟩
theorem o_reset_27 : InsA md_reset 27 (.putfield 90) 3 30 := ⟨by decide +kernel, rfl⟩
theorem o_reset_30 : InsA md_reset 30 (.aload_n 0) 1 31 := ⟨by decide +kernel, rfl⟩
theorem o_reset_31 : InsA md_reset 31 (.iconst 0) 1 32 := ⟨by decide +kernel, rfl⟩
theorem o_reset_32 : InsA md_reset 32 (.putfield 93) 3 35 := ⟨by decide +kernel, rfl⟩
theorem o_reset_35 : InsA md_reset 35 (.aload_n 0) 1 36 := ⟨by decide +kernel, rfl⟩
theorem o_reset_36 : InsA md_reset 36 (.iconst 0) 1 37 := ⟨by decide +kernel, rfl⟩
theorem o_reset_37 : InsA md_reset 37 (.putfield 96) 3 40 := ⟨by decide +kernel, rfl⟩
theorem o_reset_40 : InsA md_reset 40 (.aload_n 0) 1 41 := ⟨by decide +kernel, rfl⟩
theorem o_reset_41 : InsA md_reset 41 (.iconst 0) 1 42 := ⟨by decide +kernel, rfl⟩
theorem o_reset_42 : InsA md_reset 42 (.putfield 99) 3 45 := ⟨by decide +kernel, rfl⟩
theorem o_reset_45 : InsA md_reset 45 (.iconst 0) 1 46 := ⟨by decide +kernel, rfl⟩
theorem o_reset_46 : InsA md_reset 46 (.istore_n 1) 1 47 := ⟨by decide +kernel, rfl⟩
theorem o_reset_47 : InsA md_reset 47 (.iload_n 1) 1 48 := ⟨by decide +kernel, rfl⟩
theorem o_reset_48 : InsA md_reset 48 (.bipush 64) 2 50 := ⟨by decide +kernel, rfl⟩
theorem o_reset_50 : InsB md_reset 50 (.if_icmp .ge 23) 3 53 (23) 73 := ⟨by decide +kernel, rfl, by decide, by decide⟩
theorem o_reset_53 : InsA md_reset 53 (.aload_n 0) 1 54 := ⟨by decide +kernel, rfl⟩
theorem o_reset_54 : InsA md_reset 54 (.getfield 7) 3 57 := ⟨by decide +kernel, rfl⟩
theorem o_reset_57 : InsA md_reset 57 (.iload_n 1) 1 58 := ⟨by decide +kernel, rfl⟩
theorem o_reset_58 : InsA md_reset 58 (.iconst 0) 1 59 := ⟨by decide +kernel, rfl⟩
theorem o_reset_59 : InsA md_reset 59 (.iastore) 1 60 := ⟨by decide +kernel, rfl⟩
theorem o_reset_60 : InsA md_reset 60 (.aload_n 0) 1 61 := ⟨by decide +kernel, rfl⟩
theorem o_reset_61 : InsA md_reset 61 (.getfield 13) 3 64 := ⟨by decide +kernel, rfl⟩
theorem o_reset_64 : InsA md_reset 64 (.iload_n 1) 1 65 := ⟨by decide +kernel, rfl⟩
theorem o_reset_65 : InsA md_reset 65 (.iconst 0) 1 66 := ⟨by decide +kernel, rfl⟩
theorem o_reset_66 : InsA md_reset 66 (.iastore) 1 67 := ⟨by decide +kernel, rfl⟩
theorem o_reset_67 : InsA md_reset 67 (.iinc 1 1) 3 70 := ⟨by decide +kernel, rfl⟩
theorem o_reset_70 : InsB md_reset 70 (.goto (-23)) 3 73 (-23) 47 := ⟨by decide +kernel, rfl, by decide, by decide⟩
theorem o_reset_73 : InsA md_reset 73 (.iconst 0) 1 74 := ⟨by decide +kernel, rfl⟩
theorem o_reset_74 : InsA md_reset 74 (.istore_n 1) 1 75 := ⟨by decide +kernel, rfl⟩
theorem o_reset_75 : InsA md_reset 75 (.iload_n 1) 1 76 := ⟨by decide +kernel, rfl⟩
theorem o_reset_76 : InsA md_reset 76 (.bipush 8) 2 78 := ⟨by decide +kernel, rfl⟩
theorem o_reset_78 : InsB md_reset 78 (.if_icmp .ge 16) 3 81 (16) 94 := ⟨by decide +kernel, rfl, by decide, by decide⟩
theorem o_reset_81 : InsA md_reset 81 (.aload_n 0) 1 82 := ⟨by decide +kernel, rfl⟩
theorem o_reset_82 : InsA md_reset 82 (.getfield 16) 3 85 := ⟨by decide +kernel, rfl⟩
theorem o_reset_85 : InsA md_reset 85 (.iload_n 1) 1 86 := ⟨by decide +kernel, rfl⟩
theorem o_reset_86 : InsA md_reset 86 (.iconst (-1)) 1 87 := ⟨by decide +kernel, rfl⟩
theorem o_reset_87 : InsA md_reset 87 (.iastore) 1 88 := ⟨by decide +kernel, rfl⟩
theorem o_reset_88 : InsA md_reset 88 (.iinc 1 1) 3 91 := ⟨by decide +kernel, rfl⟩
theorem o_reset_91 : InsB md_reset 91 (.goto (-16)) 3 94 (-16) 75 := ⟨by decide +kernel, rfl, by decide, by decide⟩
theorem o_reset_94 : InsA md_reset 94 (.iconst 0) 1 95 := ⟨by decide +kernel, rfl⟩
theorem o_reset_95 : InsA md_reset 95 (.istore_n 1) 1 96 := ⟨by decide +kernel, rfl⟩
theorem o_reset_96 : InsA md_reset 96 (.iload_n 1) 1 97 := ⟨by decide +kernel, rfl⟩
theorem o_reset_97 : InsA md_reset 97 (.bipush 16) 2 99 := ⟨by decide +kernel, rfl⟩
theorem o_reset_99 : InsB md_reset 99 (.if_icmp .ge 44) 3 102 (44) 143 := ⟨by decide +kernel, rfl, by decide, by decide⟩
theorem o_reset_102 : InsA md_reset 102 (.aload_n 0) 1 103 := ⟨by decide +kernel, rfl⟩
theorem o_reset_103 : InsA md_reset 103 (.getfield 19) 3 106 := ⟨by decide +kernel, rfl⟩
theorem o_reset_106 : InsA md_reset 106 (.iload_n 1) 1 107 := ⟨by decide +kernel, rfl⟩
theorem o_reset_107 : InsA md_reset 107 (.iconst 0) 1 108 := ⟨by decide +kernel, rfl⟩
theorem o_reset_108 : InsA md_reset 108 (.iastore) 1 109 := ⟨by decide +kernel, rfl⟩
theorem o_reset_109 : InsA md_reset 109 (.aload_n 0) 1 110 := ⟨by decide +kernel, rfl⟩
theorem o_reset_110 : InsA md_reset 110 (.getfield 22) 3 113 := ⟨by decide +kernel, rfl⟩
theorem o_reset_113 : InsA md_reset 113 (.iload_n 1) 1 114 := ⟨by decide +kernel, rfl⟩
theorem o_reset_114 : InsA md_reset 114 (.iconst 0) 1 115 := ⟨by decide +kernel, rfl⟩
theorem o_reset_115 : InsA md_reset 115 (.iastore) 1 116 := ⟨by decide +kernel, rfl⟩
theorem o_reset_116 : InsA md_reset 116 (.aload_n 0) 1 117 := ⟨by decide +kernel, rfl⟩
theorem o_reset_117 : InsA md_reset 117 (.getfield 25) 3 120 := ⟨by decide +kernel, rfl⟩
theorem o_reset_120 : InsA md_reset 120 (.iload_n 1) 1 121 := ⟨by decide +kernel, rfl⟩
theorem o_reset_121 : InsA md_reset 121 (.iconst 0) 1 122 := ⟨by decide +kernel, rfl⟩
theorem o_reset_122 : InsA md_reset 122 (.iastore) 1 123 := ⟨by decide +kernel, rfl⟩
theorem o_reset_123 : InsA md_reset 123 (.aload_n 0) 1 124 := ⟨by decide +kernel, rfl⟩
theorem o_reset_124 : InsA md_reset 124 (.getfield 28) 3 127 := ⟨by decide +kernel, rfl⟩
theorem o_reset_127 : InsA md_reset 127 (.iload_n 1) 1 128 := ⟨by decide +kernel, rfl⟩
theorem o_reset_128 : InsA md_reset 128 (.iconst (-1)) 1 129 := ⟨by decide +kernel, rfl⟩
theorem o_reset_129 : InsA md_reset 129 (.iastore) 1 130 := ⟨by decide +kernel, rfl⟩
theorem o_reset_130 : InsA md_reset 130 (.aload_n 0) 1 131 := ⟨by decide +kernel, rfl⟩
theorem o_reset_131 : InsA md_reset 131 (.getfield 55) 3 134 := ⟨by decide +kernel, rfl⟩
theorem o_reset_134 : InsA md_reset 134 (.iload_n 1) 1 135 := ⟨by decide +kernel, rfl⟩
theorem o_reset_135 : InsA md_reset 135 (.iconst 0) 1 136 := ⟨by decide +kernel, rfl⟩
theorem o_reset_136 : InsA md_reset 136 (.iastore) 1 137 := ⟨by decide +kernel, rfl⟩
theorem o_reset_137 : InsA md_reset 137 (.iinc 1 1) 3 140 := ⟨by decide +kernel, rfl⟩
theorem o_reset_140 : InsB md_reset 140 (.goto (-44)) 3 143 (-44) 96 := ⟨by decide +kernel, rfl, by decide, by decide⟩
theorem o_reset_143 : InsA md_reset 143 (.aload_n 0) 1 144 := ⟨by decide +kernel, rfl⟩
theorem o_reset_144 : InsA md_reset 144 (.invokevirtual 102) 3 147 := ⟨by decide +kernel, rfl⟩
theorem o_reset_147 : InsA md_reset 147 (.return_) 1 148 := ⟨by decide +kernel, rfl⟩
abbrev md_clearTrees : MD := (⟨"ContextProfiler", "clearTrees", "()V"⟩, prog_1_method_4_code, 2, none, { frames := 0, cells := 0, slots := 0, locals := 0 }, 0)
theorem cv_clearTrees {Z : State} {a0 : Array Value} (H : OK Z a0) : CalV Z a0 md_clearTrees 0 := ⟨pn_ContextProfiler, by decide, pd___V, H.w 76 rfl, H.w 78 rfl, H.w 2 rfl, Or.inr ⟨H.w 77 rfl, 30, H.w 1 rfl⟩⟩
theorem o_clearTrees_0 : InsA md_clearTrees 0 (.iconst 0) 1 1 := ⟨by decide +kernel, rfl⟩
theorem o_clearTrees_1 : InsA md_clearTrees 1 (.istore_n 1) 1 2 := ⟨by decide +kernel, rfl⟩
theorem o_clearTrees_2 : InsA md_clearTrees 2 (.iload_n 1) 1 3 := ⟨by decide +kernel, rfl⟩
theorem o_clearTrees_3 : InsA md_clearTrees 3 (.bipush 32) 2 5 := ⟨by decide +kernel, rfl⟩
theorem o_clearTrees_5 : InsB md_clearTrees 5 (.if_icmp .ge 65) 3 8 (65) 70 := ⟨by decide +kernel, rfl, by decide, by decide⟩
theorem o_clearTrees_8 : InsA md_clearTrees 8 (.aload_n 0) 1 9 := ⟨by decide +kernel, rfl⟩
theorem o_clearTrees_9 : InsA md_clearTrees 9 (.getfield 31) 3 12 := ⟨by decide +kernel, rfl⟩
theorem o_clearTrees_12 : InsA md_clearTrees 12 (.iload_n 1) 1 13 := ⟨by decide +kernel, rfl⟩
theorem o_clearTrees_13 : InsA md_clearTrees 13 (.iconst (-1)) 1 14 := ⟨by decide +kernel, rfl⟩
theorem o_clearTrees_14 : InsA md_clearTrees 14 (.iastore) 1 15 := ⟨by decide +kernel, rfl⟩
theorem o_clearTrees_15 : InsA md_clearTrees 15 (.aload_n 0) 1 16 := ⟨by decide +kernel, rfl⟩
theorem o_clearTrees_16 : InsA md_clearTrees 16 (.getfield 34) 3 19 := ⟨by decide +kernel, rfl⟩
theorem o_clearTrees_19 : InsA md_clearTrees 19 (.iload_n 1) 1 20 := ⟨by decide +kernel, rfl⟩
theorem o_clearTrees_20 : InsA md_clearTrees 20 (.iconst 0) 1 21 := ⟨by decide +kernel, rfl⟩
theorem o_clearTrees_21 : InsA md_clearTrees 21 (.iastore) 1 22 := ⟨by decide +kernel, rfl⟩
theorem o_clearTrees_22 : InsA md_clearTrees 22 (.aload_n 0) 1 23 := ⟨by decide +kernel, rfl⟩
theorem o_clearTrees_23 : InsA md_clearTrees 23 (.getfield 37) 3 26 := ⟨by decide +kernel, rfl⟩
theorem o_clearTrees_26 : InsA md_clearTrees 26 (.iload_n 1) 1 27 := ⟨by decide +kernel, rfl⟩
theorem o_clearTrees_27 : InsA md_clearTrees 27 (.iconst 0) 1 28 := ⟨by decide +kernel, rfl⟩
theorem o_clearTrees_28 : InsA md_clearTrees 28 (.iastore) 1 29 := ⟨by decide +kernel, rfl⟩
theorem o_clearTrees_29 : InsA md_clearTrees 29 (.aload_n 0) 1 30 := ⟨by decide +kernel, rfl⟩
theorem o_clearTrees_30 : InsA md_clearTrees 30 (.getfield 40) 3 33 := ⟨by decide +kernel, rfl⟩
theorem o_clearTrees_33 : InsA md_clearTrees 33 (.iload_n 1) 1 34 := ⟨by decide +kernel, rfl⟩
theorem o_clearTrees_34 : InsA md_clearTrees 34 (.iconst 0) 1 35 := ⟨by decide +kernel, rfl⟩
theorem o_clearTrees_35 : InsA md_clearTrees 35 (.iastore) 1 36 := ⟨by decide +kernel, rfl⟩
theorem o_clearTrees_36 : InsA md_clearTrees 36 (.aload_n 0) 1 37 := ⟨by decide +kernel, rfl⟩
theorem o_clearTrees_37 : InsA md_clearTrees 37 (.getfield 43) 3 40 := ⟨by decide +kernel, rfl⟩
theorem o_clearTrees_40 : InsA md_clearTrees 40 (.iload_n 1) 1 41 := ⟨by decide +kernel, rfl⟩
theorem o_clearTrees_41 : InsA md_clearTrees 41 (.iconst 0) 1 42 := ⟨by decide +kernel, rfl⟩
theorem o_clearTrees_42 : InsA md_clearTrees 42 (.iastore) 1 43 := ⟨by decide +kernel, rfl⟩
theorem o_clearTrees_43 : InsA md_clearTrees 43 (.aload_n 0) 1 44 := ⟨by decide +kernel, rfl⟩
theorem o_clearTrees_44 : InsA md_clearTrees 44 (.getfield 46) 3 47 := ⟨by decide +kernel, rfl⟩
theorem o_clearTrees_47 : InsA md_clearTrees 47 (.iload_n 1) 1 48 := ⟨by decide +kernel, rfl⟩
theorem o_clearTrees_48 : InsA md_clearTrees 48 (.iconst (-1)) 1 49 := ⟨by decide +kernel, rfl⟩
theorem o_clearTrees_49 : InsA md_clearTrees 49 (.iastore) 1 50 := ⟨by decide +kernel, rfl⟩
theorem o_clearTrees_50 : InsA md_clearTrees 50 (.aload_n 0) 1 51 := ⟨by decide +kernel, rfl⟩
theorem o_clearTrees_51 : InsA md_clearTrees 51 (.getfield 49) 3 54 := ⟨by decide +kernel, rfl⟩
theorem o_clearTrees_54 : InsA md_clearTrees 54 (.iload_n 1) 1 55 := ⟨by decide +kernel, rfl⟩
theorem o_clearTrees_55 : InsA md_clearTrees 55 (.iconst 0) 1 56 := ⟨by decide +kernel, rfl⟩
theorem o_clearTrees_56 : InsA md_clearTrees 56 (.iastore) 1 57 := ⟨by decide +kernel, rfl⟩
theorem o_clearTrees_57 : InsA md_clearTrees 57 (.aload_n 0) 1 58 := ⟨by decide +kernel, rfl⟩
theorem o_clearTrees_58 : InsA md_clearTrees 58 (.getfield 52) 3 61 := ⟨by decide +kernel, rfl⟩
theorem o_clearTrees_61 : InsA md_clearTrees 61 (.iload_n 1) 1 62 := ⟨by decide +kernel, rfl⟩
theorem o_clearTrees_62 : InsA md_clearTrees 62 (.iconst 0) 1 63 := ⟨by decide +kernel, rfl⟩
theorem o_clearTrees_63 : InsA md_clearTrees 63 (.iastore) 1 64 := ⟨by decide +kernel, rfl⟩
theorem o_clearTrees_64 : InsA md_clearTrees 64 (.iinc 1 1) 3 67 := ⟨by decide +kernel, rfl⟩
theorem o_clearTrees_67 : InsB md_clearTrees 67 (.goto (-65)) 3 70 (-65) 2 := ⟨by decide +kernel, rfl, by decide, by decide⟩
theorem o_clearTrees_70 : InsA md_clearTrees 70 (.aload_n 0) 1 71 := ⟨by decide +kernel, rfl⟩
theorem o_clearTrees_71 : InsA md_clearTrees 71 (.iconst 1) 1 72 := ⟨by decide +kernel, rfl⟩
theorem o_clearTrees_72 : InsA md_clearTrees 72 (.putfield 105) 3 75 := ⟨by decide +kernel, rfl⟩
theorem o_clearTrees_75 : InsA md_clearTrees 75 (.aload_n 0) 1 76 := ⟨by decide +kernel, rfl⟩
theorem o_clearTrees_76 : InsA md_clearTrees 76 (.iconst 1) 1 77 := ⟨by decide +kernel, rfl⟩
theorem o_clearTrees_77 : InsA md_clearTrees 77 (.putfield 108) 3 80 := ⟨by decide +kernel, rfl⟩
theorem o_clearTrees_80 : InsA md_clearTrees 80 (.return_) 1 81 := ⟨by decide +kernel, rfl⟩
abbrev md_emit : MD := (⟨"ContextProfiler", "emit", "(II)I"⟩, prog_1_method_5_code, 4, some .int, { frames := 0, cells := 0, slots := 0, locals := 0 }, 0)
theorem cv_emit {Z : State} {a0 : Array Value} (H : OK Z a0) : CalV Z a0 md_emit 2 := ⟨pn_ContextProfiler, by decide, pd__II_I, H.w 85 rfl, H.w 87 rfl, H.w 2 rfl, Or.inl ⟨H.w 84 rfl, H.w 86 rfl⟩⟩
theorem o_emit_0 : InsA md_emit 0 (.aload_n 0) 1 1 := ⟨by decide +kernel, rfl⟩
theorem o_emit_1 : InsA md_emit 1 (.getfield 75) 3 4 := ⟨by decide +kernel, rfl⟩
theorem o_emit_4 : InsB md_emit 4 (.ifCond .eq 5) 3 7 (5) 9 := ⟨by decide +kernel, rfl, by decide, by decide⟩
theorem o_emit_7 : InsA md_emit 7 (.iconst (-1)) 1 8 := ⟨by decide +kernel, rfl⟩
theorem o_emit_8 : InsA md_emit 8 (.ireturn) 1 9 := ⟨by decide +kernel, rfl⟩
theorem o_emit_9 : InsA md_emit 9 (.iload_n 1) 1 10 := ⟨by decide +kernel, rfl⟩
theorem o_emit_10 : InsB md_emit 10 (.ifCond .lt 9) 3 13 (9) 19 := ⟨by decide +kernel, rfl, by decide, by decide⟩
theorem o_emit_13 : InsA md_emit 13 (.iload_n 1) 1 14 := ⟨by decide +kernel, rfl⟩
theorem o_emit_14 : InsA md_emit 14 (.bipush 10) 2 16 := ⟨by decide +kernel, rfl⟩
theorem o_emit_16 : InsB md_emit 16 (.if_icmp .le 5) 3 19 (5) 21 := ⟨by decide +kernel, rfl, by decide, by decide⟩
theorem o_emit_19 : InsA md_emit 19 (.iconst (-1)) 1 20 := ⟨by decide +kernel, rfl⟩
theorem o_emit_20 : InsA md_emit 20 (.ireturn) 1 21 := ⟨by decide +kernel, rfl⟩
theorem o_emit_21 : InsA md_emit 21 (.aload_n 0) 1 22 := ⟨by decide +kernel, rfl⟩
theorem o_emit_22 : InsA md_emit 22 (.getfield 78) 3 25 := ⟨by decide +kernel, rfl⟩
theorem o_emit_25 : InsA md_emit 25 (.bipush 64) 2 27 := ⟨by decide +kernel, rfl⟩
theorem o_emit_27 : InsB md_emit 27 (.if_icmp .lt 5) 3 30 (5) 32 := ⟨by decide +kernel, rfl, by decide, by decide⟩
theorem o_emit_30 : InsA md_emit 30 (.iconst (-1)) 1 31 := ⟨by decide +kernel, rfl⟩
theorem o_emit_31 : InsA md_emit 31 (.ireturn) 1 32 := ⟨by decide +kernel, rfl⟩
theorem o_emit_32 : InsA md_emit 32 (.aload_n 0) 1 33 := ⟨by decide +kernel, rfl⟩
theorem o_emit_33 : InsA md_emit 33 (.getfield 78) 3 36 := ⟨by decide +kernel, rfl⟩
theorem o_emit_36 : InsA md_emit 36 (.istore_n 3) 1 37 := ⟨by decide +kernel, rfl⟩
theorem o_emit_37 : InsA md_emit 37 (.aload_n 0) 1 38 := ⟨by decide +kernel, rfl⟩
theorem o_emit_38 : InsA md_emit 38 (.getfield 7) 3 41 := ⟨by decide +kernel, rfl⟩
theorem o_emit_41 : InsA md_emit 41 (.iload_n 3) 1 42 := ⟨by decide +kernel, rfl⟩
theorem o_emit_42 : InsA md_emit 42 (.iload_n 1) 1 43 := ⟨by decide +kernel, rfl⟩
theorem o_emit_43 : InsA md_emit 43 (.iastore) 1 44 := ⟨by decide +kernel, rfl⟩
theorem o_emit_44 : InsA md_emit 44 (.aload_n 0) 1 45 := ⟨by decide +kernel, rfl⟩
theorem o_emit_45 : InsA md_emit 45 (.getfield 13) 3 48 := ⟨by decide +kernel, rfl⟩
theorem o_emit_48 : InsA md_emit 48 (.iload_n 3) 1 49 := ⟨by decide +kernel, rfl⟩
theorem o_emit_49 : InsA md_emit 49 (.iload_n 2) 1 50 := ⟨by decide +kernel, rfl⟩
theorem o_emit_50 : InsA md_emit 50 (.iastore) 1 51 := ⟨by decide +kernel, rfl⟩
theorem o_emit_51 : InsA md_emit 51 (.aload_n 0) 1 52 := ⟨by decide +kernel, rfl⟩
theorem o_emit_52 : InsA md_emit 52 (.iload_n 3) 1 53 := ⟨by decide +kernel, rfl⟩
theorem o_emit_53 : InsA md_emit 53 (.iconst 1) 1 54 := ⟨by decide +kernel, rfl⟩
theorem o_emit_54 : InsA md_emit 54 (.iadd) 1 55 := ⟨by decide +kernel, rfl⟩
theorem o_emit_55 : InsA md_emit 55 (.putfield 78) 3 58 := ⟨by decide +kernel, rfl⟩
theorem o_emit_58 : InsA md_emit 58 (.iload_n 3) 1 59 := ⟨by decide +kernel, rfl⟩
theorem o_emit_59 : InsA md_emit 59 (.ireturn) 1 60 := ⟨by decide +kernel, rfl⟩
abbrev md_setEntry : MD := (⟨"ContextProfiler", "setEntry", "(II)Z"⟩, prog_1_method_6_code, 3, some .boolean, { frames := 0, cells := 0, slots := 0, locals := 0 }, 0)
theorem cv_setEntry {Z : State} {a0 : Array Value} (H : OK Z a0) : CalV Z a0 md_setEntry 2 := ⟨pn_ContextProfiler, by decide, pd__II_Z, H.w 90 rfl, H.w 92 rfl, H.w 2 rfl, Or.inl ⟨H.w 89 rfl, H.w 91 rfl⟩⟩
theorem o_setEntry_0 : InsA md_setEntry 0 (.aload_n 0) 1 1 := ⟨by decide +kernel, rfl⟩
theorem o_setEntry_1 : InsA md_setEntry 1 (.getfield 75) 3 4 := ⟨by decide +kernel, rfl⟩
theorem o_setEntry_4 : InsB md_setEntry 4 (.ifCond .ne 23) 3 7 (23) 27 := ⟨by decide +kernel, rfl, by decide, by decide⟩
theorem o_setEntry_7 : InsA md_setEntry 7 (.iload_n 1) 1 8 := ⟨by decide +kernel, rfl⟩
theorem o_setEntry_8 : InsB md_setEntry 8 (.ifCond .lt 19) 3 11 (19) 27 := ⟨by decide +kernel, rfl, by decide, by decide⟩
theorem o_setEntry_11 : InsA md_setEntry 11 (.iload_n 1) 1 12 := ⟨by decide +kernel, rfl⟩
theorem o_setEntry_12 : InsA md_setEntry 12 (.bipush 7) 2 14 := ⟨by decide +kernel, rfl⟩
theorem o_setEntry_14 : InsB md_setEntry 14 (.if_icmp .gt 13) 3 17 (13) 27 := ⟨by decide +kernel, rfl, by decide, by decide⟩
theorem o_setEntry_17 : InsA md_setEntry 17 (.iload_n 2) 1 18 := ⟨by decide +kernel, rfl⟩
theorem o_setEntry_18 : InsB md_setEntry 18 (.ifCond .lt 9) 3 21 (9) 27 := ⟨by decide +kernel, rfl, by decide, by decide⟩
theorem o_setEntry_21 : InsA md_setEntry 21 (.iload_n 2) 1 22 := ⟨by decide +kernel, rfl⟩
theorem o_setEntry_22 : InsA md_setEntry 22 (.bipush 63) 2 24 := ⟨by decide +kernel, rfl⟩
theorem o_setEntry_24 : InsB md_setEntry 24 (.if_icmp .le 5) 3 27 (5) 29 := ⟨by decide +kernel, rfl, by decide, by decide⟩
theorem o_setEntry_27 : InsA md_setEntry 27 (.iconst 0) 1 28 := ⟨by decide +kernel, rfl⟩
theorem o_setEntry_28 : InsA md_setEntry 28 (.ireturn) 1 29 := ⟨by decide +kernel, rfl⟩
theorem o_setEntry_29 : InsA md_setEntry 29 (.aload_n 0) 1 30 := ⟨by decide +kernel, rfl⟩
theorem o_setEntry_30 : InsA md_setEntry 30 (.getfield 16) 3 33 := ⟨by decide +kernel, rfl⟩
theorem o_setEntry_33 : InsA md_setEntry 33 (.iload_n 1) 1 34 := ⟨by decide +kernel, rfl⟩
theorem o_setEntry_34 : InsA md_setEntry 34 (.iload_n 2) 1 35 := ⟨by decide +kernel, rfl⟩
theorem o_setEntry_35 : InsA md_setEntry 35 (.iastore) 1 36 := ⟨by decide +kernel, rfl⟩
theorem o_setEntry_36 : InsA md_setEntry 36 (.iconst 1) 1 37 := ⟨by decide +kernel, rfl⟩
theorem o_setEntry_37 : InsA md_setEntry 37 (.ireturn) 1 38 := ⟨by decide +kernel, rfl⟩
abbrev md_run : MD := (⟨"ContextProfiler", "run", "(I)I"⟩, prog_1_method_7_code, 5, some .int, { frames := 4, cells := 0, slots := 0, locals := 58 }, 0)
theorem cv_run {Z : State} {a0 : Array Value} (H : OK Z a0) : CalV Z a0 md_run 1 := ⟨pn_ContextProfiler, by decide, pd__I_I, H.w 95 rfl, H.w 97 rfl, H.w 2 rfl, Or.inl ⟨H.w 94 rfl, H.w 96 rfl⟩⟩
theorem o_run_0 : InsA md_run 0 (.iload_n 1) 1 1 := ⟨by decide +kernel, rfl⟩
theorem o_run_1 : InsB md_run 1 (.ifCond .le 19) 3 4 (19) 20 := ⟨by decide +kernel, rfl, by decide, by decide⟩
theorem o_run_4 : InsA md_run 4 (.aload_n 0) 1 5 := ⟨by decide +kernel, rfl⟩
theorem o_run_5 : InsA md_run 5 (.getfield 75) 3 8 := ⟨by decide +kernel, rfl⟩
theorem o_run_8 : InsA md_run 8 (.iconst 2) 1 9 := ⟨by decide +kernel, rfl⟩
theorem o_run_9 : InsB md_run 9 (.if_icmp .eq 11) 3 12 (11) 20 := ⟨by decide +kernel, rfl, by decide, by decide⟩
theorem o_run_12 : InsA md_run 12 (.aload_n 0) 1 13 := ⟨by decide +kernel, rfl⟩
theorem o_run_13 : InsA md_run 13 (.getfield 75) 3 16 := ⟨by decide +kernel, rfl⟩
theorem o_run_16 : InsA md_run 16 (.iconst 3) 1 17 := ⟨by decide +kernel, rfl⟩
theorem o_run_17 : InsB md_run 17 (.if_icmp .ne 5) 3 20 (5) 22 := ⟨by decide +kernel, rfl, by decide, by decide⟩
theorem o_run_20 : InsA md_run 20 (.iconst 0) 1 21 := ⟨by decide +kernel, rfl⟩
theorem o_run_21 : InsA md_run 21 (.ireturn) 1 22 := ⟨by decide +kernel, rfl⟩
theorem o_run_22 : InsA md_run 22 (.iload_n 1) 1 23 := ⟨by decide +kernel, rfl⟩
theorem o_run_23 : InsA md_run 23 (.sipush 1000) 3 26 := ⟨by decide +kernel, rfl⟩
theorem o_run_26 : InsB md_run 26 (.if_icmp .le 9) 3 29 (9) 35 := ⟨by decide +kernel, rfl, by decide, by decide⟩
theorem o_run_29 : InsA md_run 29 (.sipush 1000) 3 32 := ⟨by decide +kernel, rfl⟩
theorem o_run_32 : InsB md_run 32 (.goto 4) 3 35 (4) 36 := ⟨by decide +kernel, rfl, by decide, by decide⟩
theorem o_run_35 : InsA md_run 35 (.iload_n 1) 1 36 := ⟨by decide +kernel, rfl⟩
theorem o_run_36 : InsA md_run 36 (.istore_n 2) 1 37 := ⟨by decide +kernel, rfl⟩
theorem o_run_37 : InsA md_run 37 (.aload_n 0) 1 38 := ⟨by decide +kernel, rfl⟩
theorem o_run_38 : InsA md_run 38 (.getfield 75) 3 41 := ⟨by decide +kernel, rfl⟩
theorem o_run_41 : InsB md_run 41 (.ifCond .ne 23) 3 44 (23) 64 := ⟨by decide +kernel, rfl, by decide, by decide⟩
theorem o_run_44 : InsA md_run 44 (.aload_n 0) 1 45 := ⟨by decide +kernel, rfl⟩
theorem o_run_45 : InsA md_run 45 (.getfield 16) 3 48 := ⟨by decide +kernel, rfl⟩
theorem o_run_48 : InsA md_run 48 (.iconst 0) 1 49 := ⟨by decide +kernel, rfl⟩
theorem o_run_49 : InsA md_run 49 (.iaload) 1 50 := ⟨by decide +kernel, rfl⟩
theorem o_run_50 : InsB md_run 50 (.ifCond .ge 10) 3 53 (10) 60 := ⟨by decide +kernel, rfl, by decide, by decide⟩
theorem o_run_53 : InsA md_run 53 (.aload_n 0) 1 54 := ⟨by decide +kernel, rfl⟩
theorem o_run_54 : InsA md_run 54 (.iconst 3) 1 55 := ⟨by decide +kernel, rfl⟩
theorem o_run_55 : InsA md_run 55 (.putfield 75) 3 58 := ⟨by decide +kernel, rfl⟩
theorem o_run_58 : InsA md_run 58 (.iconst 0) 1 59 := ⟨by decide +kernel, rfl⟩
theorem o_run_59 : InsA md_run 59 (.ireturn) 1 60 := ⟨by decide +kernel, rfl⟩
theorem o_run_60 : InsA md_run 60 (.aload_n 0) 1 61 := ⟨by decide +kernel, rfl⟩
theorem o_run_61 : InsA md_run 61 (.invokevirtual 111) 3 64 := ⟨by decide +kernel, rfl⟩
theorem o_run_64 : InsA md_run 64 (.iconst 0) 1 65 := ⟨by decide +kernel, rfl⟩
theorem o_run_65 : InsA md_run 65 (.istore_n 3) 1 66 := ⟨by decide +kernel, rfl⟩
theorem o_run_66 : InsA md_run 66 (.iconst 0) 1 67 := ⟨by decide +kernel, rfl⟩
theorem o_run_67 : InsA md_run 67 (.istore 4) 2 69 := ⟨by decide +kernel, rfl⟩
theorem o_run_69 : InsA md_run 69 (.iload 4) 2 71 := ⟨by decide +kernel, rfl⟩
theorem o_run_71 : InsA md_run 71 (.iload_n 2) 1 72 := ⟨by decide +kernel, rfl⟩
theorem o_run_72 : InsB md_run 72 (.if_icmp .ge 33) 3 75 (33) 105 := ⟨by decide +kernel, rfl, by decide, by decide⟩
theorem o_run_75 : InsA md_run 75 (.aload_n 0) 1 76 := ⟨by decide +kernel, rfl⟩
theorem o_run_76 : InsA md_run 76 (.invokevirtual 114) 3 79 := ⟨by decide +kernel, rfl⟩
theorem o_run_79 : InsB md_run 79 (.ifCond .ne 6) 3 82 (6) 85 := ⟨by decide +kernel, rfl, by decide, by decide⟩
theorem o_run_82 : InsB md_run 82 (.goto 23) 3 85 (23) 105 := ⟨by decide +kernel, rfl, by decide, by decide⟩
theorem o_run_85 : InsA md_run 85 (.iinc 3 1) 3 88 := ⟨by decide +kernel, rfl⟩
theorem o_run_88 : InsA md_run 88 (.aload_n 0) 1 89 := ⟨by decide +kernel, rfl⟩
theorem o_run_89 : InsA md_run 89 (.getfield 75) 3 92 := ⟨by decide +kernel, rfl⟩
theorem o_run_92 : InsA md_run 92 (.iconst 1) 1 93 := ⟨by decide +kernel, rfl⟩
theorem o_run_93 : InsB md_run 93 (.if_icmp .eq 6) 3 96 (6) 99 := ⟨by decide +kernel, rfl, by decide, by decide⟩
theorem o_run_96 : InsB md_run 96 (.goto 9) 3 99 (9) 105 := ⟨by decide +kernel, rfl, by decide, by decide⟩
theorem o_run_99 : InsA md_run 99 (.iinc 4 1) 3 102 := ⟨by decide +kernel, rfl⟩
theorem o_run_102 : InsB md_run 102 (.goto (-33)) 3 105 (-33) 69 := ⟨by decide +kernel, rfl, by decide, by decide⟩
theorem o_run_105 : InsA md_run 105 (.iload_n 3) 1 106 := ⟨by decide +kernel, rfl⟩
theorem o_run_106 : InsA md_run 106 (.ireturn) 1 107 := ⟨by decide +kernel, rfl⟩
abbrev md_start : MD := (⟨"ContextProfiler", "start", "()V"⟩, prog_1_method_8_code, 1, none, { frames := 0, cells := 0, slots := 0, locals := 0 }, 0)
theorem cv_start {Z : State} {a0 : Array Value} (H : OK Z a0) : CalV Z a0 md_start 0 := ⟨pn_ContextProfiler, by decide, pd___V, H.w 99 rfl, H.w 101 rfl, H.w 2 rfl, Or.inr ⟨H.w 100 rfl, 30, H.w 1 rfl⟩⟩
theorem o_start_0 : InsA md_start 0 (.aload_n 0) 1 1 := ⟨by decide +kernel, rfl⟩
theorem o_start_1 : InsA md_start 1 (.iconst 1) 1 2 := ⟨by decide +kernel, rfl⟩
theorem o_start_2 : InsA md_start 2 (.putfield 75) 3 5 := ⟨by decide +kernel, rfl⟩
theorem o_start_5 : InsA md_start 5 (.aload_n 0) 1 6 := ⟨by decide +kernel, rfl⟩
theorem o_start_6 : InsA md_start 6 (.aload_n 0) 1 7 := ⟨by decide +kernel, rfl⟩
theorem o_start_7 : InsA md_start 7 (.getfield 16) 3 10 := ⟨by decide +kernel, rfl⟩
theorem o_start_10 : InsA md_start 10 (.iconst 0) 1 11 := ⟨by decide +kernel, rfl⟩
theorem o_start_11 : InsA md_start 11 (.iaload) 1 12 := ⟨by decide +kernel, rfl⟩
theorem o_start_12 : InsA md_start 12 (.putfield 81) 3 15 := ⟨by decide +kernel, rfl⟩
theorem o_start_15 : InsA md_start 15 (.aload_n 0) 1 16 := ⟨by decide +kernel, rfl⟩
theorem o_start_16 : InsA md_start 16 (.iconst 1) 1 17 := ⟨by decide +kernel, rfl⟩
theorem o_start_17 : InsA md_start 17 (.putfield 87) 3 20 := ⟨by decide +kernel, rfl⟩
theorem o_start_20 : InsA md_start 20 (.aload_n 0) 1 21 := ⟨by decide +kernel, rfl⟩
theorem o_start_21 : InsA md_start 21 (.getfield 22) 3 24 := ⟨by decide +kernel, rfl⟩
theorem o_start_24 : InsA md_start 24 (.iconst 0) 1 25 := ⟨by decide +kernel, rfl⟩
theorem o_start_25 : InsA md_start 25 (.iconst 0) 1 26 := ⟨by decide +kernel, rfl⟩
theorem o_start_26 : InsA md_start 26 (.iastore) 1 27 := ⟨by decide +kernel, rfl⟩
theorem o_start_27 : InsA md_start 27 (.aload_n 0) 1 28 := ⟨by decide +kernel, rfl⟩
theorem o_start_28 : InsA md_start 28 (.getfield 25) 3 31 := ⟨by decide +kernel, rfl⟩
theorem o_start_31 : InsA md_start 31 (.iconst 0) 1 32 := ⟨by decide +kernel, rfl⟩
theorem o_start_32 : InsA md_start 32 (.iconst 0) 1 33 := ⟨by decide +kernel, rfl⟩
theorem o_start_33 : InsA md_start 33 (.iastore) 1 34 := ⟨by decide +kernel, rfl⟩
theorem o_start_34 : InsA md_start 34 (.aload_n 0) 1 35 := ⟨by decide +kernel, rfl⟩
theorem o_start_35 : InsA md_start 35 (.getfield 28) 3 38 := ⟨by decide +kernel, rfl⟩
theorem o_start_38 : InsA md_start 38 (.iconst 0) 1 39 := ⟨by decide +kernel, rfl⟩
theorem o_start_39 : InsA md_start 39 (.iconst 0) 1 40 := ⟨by decide +kernel, rfl⟩
theorem o_start_40 : InsA md_start 40 (.iastore) 1 41 := ⟨by decide +kernel, rfl⟩
theorem o_start_41 : InsA md_start 41 (.return_) 1 42 := ⟨by decide +kernel, rfl⟩
abbrev md_stepOnce : MD := (⟨"ContextProfiler", "stepOnce", "()Z"⟩, prog_1_method_9_code, 3, some .boolean, { frames := 3, cells := 0, slots := 0, locals := 44 }, 0)
theorem cv_stepOnce {Z : State} {a0 : Array Value} (H : OK Z a0) : CalV Z a0 md_stepOnce 0 := ⟨pn_ContextProfiler, by decide, pd___Z, H.w 103 rfl, H.w 105 rfl, H.w 2 rfl, Or.inr ⟨H.w 104 rfl, 30, H.w 1 rfl⟩⟩
theorem o_stepOnce_0 : InsA md_stepOnce 0 (.aload_n 0) 1 1 := ⟨by decide +kernel, rfl⟩
theorem o_stepOnce_1 : InsA md_stepOnce 1 (.getfield 81) 3 4 := ⟨by decide +kernel, rfl⟩
theorem o_stepOnce_4 : InsB md_stepOnce 4 (.ifCond .lt 14) 3 7 (14) 18 := ⟨by decide +kernel, rfl, by decide, by decide⟩
theorem o_stepOnce_7 : InsA md_stepOnce 7 (.aload_n 0) 1 8 := ⟨by decide +kernel, rfl⟩
theorem o_stepOnce_8 : InsA md_stepOnce 8 (.getfield 81) 3 11 := ⟨by decide +kernel, rfl⟩
theorem o_stepOnce_11 : InsA md_stepOnce 11 (.aload_n 0) 1 12 := ⟨by decide +kernel, rfl⟩
theorem o_stepOnce_12 : InsA md_stepOnce 12 (.getfield 78) 3 15 := ⟨by decide +kernel, rfl⟩
theorem o_stepOnce_15 : InsB md_stepOnce 15 (.if_icmp .lt 10) 3 18 (10) 25 := ⟨by decide +kernel, rfl, by decide, by decide⟩
theorem o_stepOnce_18 : InsA md_stepOnce 18 (.aload_n 0) 1 19 := ⟨by decide +kernel, rfl⟩
theorem o_stepOnce_19 : InsA md_stepOnce 19 (.iconst 3) 1 20 := ⟨by decide +kernel, rfl⟩
theorem o_stepOnce_20 : InsA md_stepOnce 20 (.putfield 75) 3 23 := ⟨by decide +kernel, rfl⟩
theorem o_stepOnce_23 : InsA md_stepOnce 23 (.iconst 0) 1 24 := ⟨by decide +kernel, rfl⟩
theorem o_stepOnce_24 : InsA md_stepOnce 24 (.ireturn) 1 25 := ⟨by decide +kernel, rfl⟩
theorem o_stepOnce_25 : InsA md_stepOnce 25 (.aload_n 0) 1 26 := ⟨by decide +kernel, rfl⟩
theorem o_stepOnce_26 : InsA md_stepOnce 26 (.getfield 7) 3 29 := ⟨by decide +kernel, rfl⟩
theorem o_stepOnce_29 : InsA md_stepOnce 29 (.aload_n 0) 1 30 := ⟨by decide +kernel, rfl⟩
theorem o_stepOnce_30 : InsA md_stepOnce 30 (.getfield 81) 3 33 := ⟨by decide +kernel, rfl⟩
theorem o_stepOnce_33 : InsA md_stepOnce 33 (.iaload) 1 34 := ⟨by decide +kernel, rfl⟩
theorem o_stepOnce_34 : InsA md_stepOnce 34 (.istore_n 1) 1 35 := ⟨by decide +kernel, rfl⟩
theorem o_stepOnce_35 : InsA md_stepOnce 35 (.aload_n 0) 1 36 := ⟨by decide +kernel, rfl⟩
theorem o_stepOnce_36 : InsA md_stepOnce 36 (.getfield 13) 3 39 := ⟨by decide +kernel, rfl⟩
theorem o_stepOnce_39 : InsA md_stepOnce 39 (.aload_n 0) 1 40 := ⟨by decide +kernel, rfl⟩
theorem o_stepOnce_40 : InsA md_stepOnce 40 (.getfield 81) 3 43 := ⟨by decide +kernel, rfl⟩
theorem o_stepOnce_43 : InsA md_stepOnce 43 (.iaload) 1 44 := ⟨by decide +kernel, rfl⟩
theorem o_stepOnce_44 : InsA md_stepOnce 44 (.istore_n 2) 1 45 := ⟨by decide +kernel, rfl⟩
theorem o_stepOnce_45 : InsA md_stepOnce 45 (.aload_n 0) 1 46 := ⟨by decide +kernel, rfl⟩
theorem o_stepOnce_46 : InsA md_stepOnce 46 (.iload_n 1) 1 47 := ⟨by decide +kernel, rfl⟩
theorem o_stepOnce_47 : InsA md_stepOnce 47 (.iload_n 2) 1 48 := ⟨by decide +kernel, rfl⟩
theorem o_stepOnce_48 : InsA md_stepOnce 48 (.invokevirtual 118) 3 51 := ⟨by decide +kernel, rfl⟩
theorem o_stepOnce_51 : InsB md_stepOnce 51 (.ifCond .eq 10) 3 54 (10) 61 := ⟨by decide +kernel, rfl, by decide, by decide⟩
theorem o_stepOnce_54 : InsA md_stepOnce 54 (.aload_n 0) 1 55 := ⟨by decide +kernel, rfl⟩
theorem o_stepOnce_55 : InsA md_stepOnce 55 (.iconst 3) 1 56 := ⟨by decide +kernel, rfl⟩
theorem o_stepOnce_56 : InsA md_stepOnce 56 (.putfield 75) 3 59 := ⟨by decide +kernel, rfl⟩
theorem o_stepOnce_59 : InsA md_stepOnce 59 (.iconst 0) 1 60 := ⟨by decide +kernel, rfl⟩
theorem o_stepOnce_60 : InsA md_stepOnce 60 (.ireturn) 1 61 := ⟨by decide +kernel, rfl⟩
theorem o_stepOnce_61 : InsA md_stepOnce 61 (.aload_n 0) 1 62 := ⟨by decide +kernel, rfl⟩
theorem o_stepOnce_62 : InsA md_stepOnce 62 (.invokevirtual 122) 3 65 := ⟨by decide +kernel, rfl⟩
theorem o_stepOnce_65 : InsA md_stepOnce 65 (.aload_n 0) 1 66 := ⟨by decide +kernel, rfl⟩
theorem o_stepOnce_66 : InsA md_stepOnce 66 (.iload_n 1) 1 67 := ⟨by decide +kernel, rfl⟩
theorem o_stepOnce_67 : InsA md_stepOnce 67 (.iload_n 2) 1 68 := ⟨by decide +kernel, rfl⟩
theorem o_stepOnce_68 : InsA md_stepOnce 68 (.invokevirtual 125) 3 71 := ⟨by decide +kernel, rfl⟩
theorem o_stepOnce_71 : InsA md_stepOnce 71 (.iconst 1) 1 72 := ⟨by decide +kernel, rfl⟩
theorem o_stepOnce_72 : InsA md_stepOnce 72 (.ireturn) 1 73 := ⟨by decide +kernel, rfl⟩
abbrev md_faults : MD := (⟨"ContextProfiler", "faults", "(II)Z"⟩, prog_1_method_10_code, 3, some .boolean, { frames := 1, cells := 0, slots := 0, locals := 13 }, 0)
theorem cv_faults {Z : State} {a0 : Array Value} (H : OK Z a0) : CalV Z a0 md_faults 2 := ⟨pn_ContextProfiler, by decide, pd__II_Z, H.w 107 rfl, H.w 109 rfl, H.w 2 rfl, Or.inr ⟨H.w 108 rfl, 30, H.w 1 rfl⟩⟩
theorem o_faults_0 : InsA md_faults 0 (.iload_n 1) 1 1 := ⟨by decide +kernel, rfl⟩
theorem o_faults_1 : decode (byOf md_faults) 1 = .ok (.tableswitch 117 1 8 #[47, 62, 62, 76, 98, 117, 98, 111], 47) := by decide +kernel
theorem o_faults_1_d : InsB md_faults 1 (.tableswitch 117 1 8 #[47, 62, 62, 76, 98, 117, 98, 111]) 47 48 (117) 118 := ⟨o_faults_1, rfl, by decide, by decide⟩
theorem o_faults_1_1 : InsB md_faults 1 (.tableswitch 117 1 8 #[47, 62, 62, 76, 98, 117, 98, 111]) 47 48 (47) 48 := ⟨o_faults_1, rfl, by decide, by decide⟩
theorem o_faults_1_2 : InsB md_faults 1 (.tableswitch 117 1 8 #[47, 62, 62, 76, 98, 117, 98, 111]) 47 48 (62) 63 := ⟨o_faults_1, rfl, by decide, by decide⟩
theorem o_faults_1_3 : InsB md_faults 1 (.tableswitch 117 1 8 #[47, 62, 62, 76, 98, 117, 98, 111]) 47 48 (62) 63 := ⟨o_faults_1, rfl, by decide, by decide⟩
theorem o_faults_1_4 : InsB md_faults 1 (.tableswitch 117 1 8 #[47, 62, 62, 76, 98, 117, 98, 111]) 47 48 (76) 77 := ⟨o_faults_1, rfl, by decide, by decide⟩
theorem o_faults_1_5 : InsB md_faults 1 (.tableswitch 117 1 8 #[47, 62, 62, 76, 98, 117, 98, 111]) 47 48 (98) 99 := ⟨o_faults_1, rfl, by decide, by decide⟩
theorem o_faults_1_6 : InsB md_faults 1 (.tableswitch 117 1 8 #[47, 62, 62, 76, 98, 117, 98, 111]) 47 48 (117) 118 := ⟨o_faults_1, rfl, by decide, by decide⟩
theorem o_faults_1_7 : InsB md_faults 1 (.tableswitch 117 1 8 #[47, 62, 62, 76, 98, 117, 98, 111]) 47 48 (98) 99 := ⟨o_faults_1, rfl, by decide, by decide⟩
theorem o_faults_1_8 : InsB md_faults 1 (.tableswitch 117 1 8 #[47, 62, 62, 76, 98, 117, 98, 111]) 47 48 (111) 112 := ⟨o_faults_1, rfl, by decide, by decide⟩
theorem o_faults_48 : InsA md_faults 48 (.aload_n 0) 1 49 := ⟨by decide +kernel, rfl⟩
theorem o_faults_49 : InsA md_faults 49 (.getfield 84) 3 52 := ⟨by decide +kernel, rfl⟩
theorem o_faults_52 : InsA md_faults 52 (.bipush 16) 2 54 := ⟨by decide +kernel, rfl⟩
theorem o_faults_54 : InsB md_faults 54 (.if_icmp .lt 7) 3 57 (7) 61 := ⟨by decide +kernel, rfl, by decide, by decide⟩
theorem o_faults_57 : InsA md_faults 57 (.iconst 1) 1 58 := ⟨by decide +kernel, rfl⟩
theorem o_faults_58 : InsB md_faults 58 (.goto 4) 3 61 (4) 62 := ⟨by decide +kernel, rfl, by decide, by decide⟩
theorem o_faults_61 : InsA md_faults 61 (.iconst 0) 1 62 := ⟨by decide +kernel, rfl⟩
theorem o_faults_62 : InsA md_faults 62 (.ireturn) 1 63 := ⟨by decide +kernel, rfl⟩
theorem o_faults_63 : InsA md_faults 63 (.aload_n 0) 1 64 := ⟨by decide +kernel, rfl⟩
theorem o_faults_64 : InsA md_faults 64 (.getfield 84) 3 67 := ⟨by decide +kernel, rfl⟩
theorem o_faults_67 : InsA md_faults 67 (.iconst 2) 1 68 := ⟨by decide +kernel, rfl⟩
theorem o_faults_68 : InsB md_faults 68 (.if_icmp .ge 7) 3 71 (7) 75 := ⟨by decide +kernel, rfl, by decide, by decide⟩
theorem o_faults_71 : InsA md_faults 71 (.iconst 1) 1 72 := ⟨by decide +kernel, rfl⟩
theorem o_faults_72 : InsB md_faults 72 (.goto 4) 3 75 (4) 76 := ⟨by decide +kernel, rfl, by decide, by decide⟩
theorem o_faults_75 : InsA md_faults 75 (.iconst 0) 1 76 := ⟨by decide +kernel, rfl⟩
theorem o_faults_76 : InsA md_faults 76 (.ireturn) 1 77 := ⟨by decide +kernel, rfl⟩
theorem o_faults_77 : InsA md_faults 77 (.aload_n 0) 1 78 := ⟨by decide +kernel, rfl⟩
theorem o_faults_78 : InsA md_faults 78 (.getfield 84) 3 81 := ⟨by decide +kernel, rfl⟩
theorem o_faults_81 : InsB md_faults 81 (.ifCond .le 12) 3 84 (12) 93 := ⟨by decide +kernel, rfl, by decide, by decide⟩
theorem o_faults_84 : InsA md_faults 84 (.aload_n 0) 1 85 := ⟨by decide +kernel, rfl⟩
theorem o_faults_85 : InsA md_faults 85 (.getfield 84) 3 88 := ⟨by decide +kernel, rfl⟩
theorem o_faults_88 : InsA md_faults 88 (.bipush 16) 2 90 := ⟨by decide +kernel, rfl⟩
theorem o_faults_90 : InsB md_faults 90 (.if_icmp .lt 7) 3 93 (7) 97 := ⟨by decide +kernel, rfl, by decide, by decide⟩
theorem o_faults_93 : InsA md_faults 93 (.iconst 1) 1 94 := ⟨by decide +kernel, rfl⟩
theorem o_faults_94 : InsB md_faults 94 (.goto 4) 3 97 (4) 98 := ⟨by decide +kernel, rfl, by decide, by decide⟩
theorem o_faults_97 : InsA md_faults 97 (.iconst 0) 1 98 := ⟨by decide +kernel, rfl⟩
theorem o_faults_98 : InsA md_faults 98 (.ireturn) 1 99 := ⟨by decide +kernel, rfl⟩
theorem o_faults_99 : InsA md_faults 99 (.aload_n 0) 1 100 := ⟨by decide +kernel, rfl⟩
theorem o_faults_100 : InsA md_faults 100 (.getfield 84) 3 103 := ⟨by decide +kernel, rfl⟩
theorem o_faults_103 : InsB md_faults 103 (.ifCond .gt 7) 3 106 (7) 110 := ⟨by decide +kernel, rfl, by decide, by decide⟩
theorem o_faults_106 : InsA md_faults 106 (.iconst 1) 1 107 := ⟨by decide +kernel, rfl⟩
theorem o_faults_107 : InsB md_faults 107 (.goto 4) 3 110 (4) 111 := ⟨by decide +kernel, rfl, by decide, by decide⟩
theorem o_faults_110 : InsA md_faults 110 (.iconst 0) 1 111 := ⟨by decide +kernel, rfl⟩
theorem o_faults_111 : InsA md_faults 111 (.ireturn) 1 112 := ⟨by decide +kernel, rfl⟩
theorem o_faults_112 : InsA md_faults 112 (.aload_n 0) 1 113 := ⟨by decide +kernel, rfl⟩
theorem o_faults_113 : InsA md_faults 113 (.iload_n 2) 1 114 := ⟨by decide +kernel, rfl⟩
theorem o_faults_114 : InsA md_faults 114 (.invokevirtual 129) 3 117 := ⟨by decide +kernel, rfl⟩
theorem o_faults_117 : InsA md_faults 117 (.ireturn) 1 118 := ⟨by decide +kernel, rfl⟩
theorem o_faults_118 : InsA md_faults 118 (.iconst 0) 1 119 := ⟨by decide +kernel, rfl⟩
theorem o_faults_119 : InsA md_faults 119 (.ireturn) 1 120 := ⟨by decide +kernel, rfl⟩
abbrev md_charge : MD := (⟨"ContextProfiler", "charge", "()V"⟩, prog_1_method_17_code, 2, none, { frames := 2, cells := 0, slots := 0, locals := 31 }, 0)
theorem cv_charge {Z : State} {a0 : Array Value} (H : OK Z a0) : CalV Z a0 md_charge 0 := ⟨pn_ContextProfiler, by decide, pd___V, H.w 111 rfl, H.w 113 rfl, H.w 2 rfl, Or.inr ⟨H.w 112 rfl, 30, H.w 1 rfl⟩⟩
theorem o_charge_0 : InsA md_charge 0 (.aload_n 0) 1 1 := ⟨by decide +kernel, rfl⟩
theorem o_charge_1 : InsA md_charge 1 (.dup) 1 2 := ⟨by decide +kernel, rfl⟩
theorem o_charge_2 : InsA md_charge 2 (.getfield 90) 3 5 := ⟨by decide +kernel, rfl⟩
theorem o_charge_5 : InsA md_charge 5 (.iconst 1) 1 6 := ⟨by decide +kernel, rfl⟩
theorem o_charge_6 : InsA md_charge 6 (.iadd) 1 7 := ⟨by decide +kernel, rfl⟩
theorem o_charge_7 : InsA md_charge 7 (.putfield 90) 3 10 := ⟨by decide +kernel, rfl⟩
theorem o_charge_10 : InsA md_charge 10 (.aload_n 0) 1 11 := ⟨by decide +kernel, rfl⟩
theorem o_charge_11 : InsA md_charge 11 (.getfield 28) 3 14 := ⟨by decide +kernel, rfl⟩
theorem o_charge_14 : InsA md_charge 14 (.aload_n 0) 1 15 := ⟨by decide +kernel, rfl⟩
theorem o_charge_15 : InsA md_charge 15 (.getfield 87) 3 18 := ⟨by decide +kernel, rfl⟩
theorem o_charge_18 : InsA md_charge 18 (.iconst 1) 1 19 := ⟨by decide +kernel, rfl⟩
theorem o_charge_19 : InsA md_charge 19 (.isub) 1 20 := ⟨by decide +kernel, rfl⟩
theorem o_charge_20 : InsA md_charge 20 (.iaload) 1 21 := ⟨by decide +kernel, rfl⟩
theorem o_charge_21 : InsA md_charge 21 (.istore_n 1) 1 22 := ⟨by decide +kernel, rfl⟩
theorem o_charge_22 : InsA md_charge 22 (.iload_n 1) 1 23 := ⟨by decide +kernel, rfl⟩
theorem o_charge_23 : InsB md_charge 23 (.ifCond .lt 16) 3 26 (16) 39 := ⟨by decide +kernel, rfl, by decide, by decide⟩
theorem o_charge_26 : InsA md_charge 26 (.aload_n 0) 1 27 := ⟨by decide +kernel, rfl⟩
theorem o_charge_27 : InsA md_charge 27 (.getfield 37) 3 30 := ⟨by decide +kernel, rfl⟩
theorem o_charge_30 : InsA md_charge 30 (.iload_n 1) 1 31 := ⟨by decide +kernel, rfl⟩
theorem o_charge_31 : InsA md_charge 31 (.dup2) 1 32 := ⟨by decide +kernel, rfl⟩
theorem o_charge_32 : InsA md_charge 32 (.iaload) 1 33 := ⟨by decide +kernel, rfl⟩
theorem o_charge_33 : InsA md_charge 33 (.iconst 1) 1 34 := ⟨by decide +kernel, rfl⟩
theorem o_charge_34 : InsA md_charge 34 (.iadd) 1 35 := ⟨by decide +kernel, rfl⟩
theorem o_charge_35 : InsA md_charge 35 (.iastore) 1 36 := ⟨by decide +kernel, rfl⟩
theorem o_charge_36 : InsB md_charge 36 (.goto 28) 3 39 (28) 64 := ⟨by decide +kernel, rfl, by decide, by decide⟩
theorem o_charge_39 : InsA md_charge 39 (.aload_n 0) 1 40 := ⟨by decide +kernel, rfl⟩
theorem o_charge_40 : InsA md_charge 40 (.dup) 1 41 := ⟨by decide +kernel, rfl⟩
theorem o_charge_41 : InsA md_charge 41 (.getfield 93) 3 44 := ⟨by decide +kernel, rfl⟩
theorem o_charge_44 : InsA md_charge 44 (.iconst 1) 1 45 := ⟨by decide +kernel, rfl⟩
theorem o_charge_45 : InsA md_charge 45 (.iadd) 1 46 := ⟨by decide +kernel, rfl⟩
theorem o_charge_46 : InsA md_charge 46 (.putfield 93) 3 49 := ⟨by decide +kernel, rfl⟩
theorem o_charge_49 : InsA md_charge 49 (.aload_n 0) 1 50 := ⟨by decide +kernel, rfl⟩
theorem o_charge_50 : InsA md_charge 50 (.invokevirtual 154) 3 53 := ⟨by decide +kernel, rfl⟩
theorem o_charge_64 : InsA md_charge 64 (.aload_n 0) 1 65 := ⟨by decide +kernel, rfl⟩
theorem o_charge_65 : InsA md_charge 65 (.iload_n 1) 1 66 := ⟨by decide +kernel, rfl⟩
theorem o_charge_66 : InsA md_charge 66 (.invokevirtual 158) 3 69 := ⟨by decide +kernel, rfl⟩
theorem o_charge_69 : InsA md_charge 69 (.aload_n 0) 1 70 := ⟨by decide +kernel, rfl⟩
theorem o_charge_70 : InsA md_charge 70 (.getfield 90) 3 73 := ⟨by decide +kernel, rfl⟩
theorem o_charge_73 : InsA md_charge 73 (.aload_n 0) 1 74 := ⟨by decide +kernel, rfl⟩
theorem o_charge_74 : InsA md_charge 74 (.getfield 66) 3 77 := ⟨by decide +kernel, rfl⟩
theorem o_charge_77 : InsA md_charge 77 (.irem) 1 78 := ⟨by decide +kernel, rfl⟩
theorem o_charge_78 : InsB md_charge 78 (.ifCond .ne 7) 3 81 (7) 85 := ⟨by decide +kernel, rfl, by decide, by decide⟩
theorem o_charge_81 : InsA md_charge 81 (.aload_n 0) 1 82 := ⟨by decide +kernel, rfl⟩
theorem o_charge_82 : InsA md_charge 82 (.invokevirtual 161) 3 85 := ⟨by decide +kernel, rfl⟩
theorem o_charge_85 : InsA md_charge 85 (.return_) 1 86 := ⟨by decide +kernel, rfl⟩
abbrev md_addInclusive : MD := (⟨"ContextProfiler", "addInclusive", "(I)V"⟩, prog_1_method_19_code, 4, none, { frames := 0, cells := 0, slots := 0, locals := 0 }, 0)
theorem cv_addInclusive {Z : State} {a0 : Array Value} (H : OK Z a0) : CalV Z a0 md_addInclusive 1 := ⟨pn_ContextProfiler, by decide, pd__I_V, H.w 115 rfl, H.w 117 rfl, H.w 2 rfl, Or.inr ⟨H.w 116 rfl, 30, H.w 1 rfl⟩⟩
theorem o_addInclusive_0 : InsA md_addInclusive 0 (.iload_n 1) 1 1 := ⟨by decide +kernel, rfl⟩
theorem o_addInclusive_1 : InsA md_addInclusive 1 (.istore_n 2) 1 2 := ⟨by decide +kernel, rfl⟩
theorem o_addInclusive_2 : InsA md_addInclusive 2 (.iconst 0) 1 3 := ⟨by decide +kernel, rfl⟩
theorem o_addInclusive_3 : InsA md_addInclusive 3 (.istore_n 3) 1 4 := ⟨by decide +kernel, rfl⟩
theorem o_addInclusive_4 : InsA md_addInclusive 4 (.iload_n 3) 1 5 := ⟨by decide +kernel, rfl⟩
theorem o_addInclusive_5 : InsA md_addInclusive 5 (.bipush 32) 2 7 := ⟨by decide +kernel, rfl⟩
theorem o_addInclusive_7 : InsB md_addInclusive 7 (.if_icmp .ge 30) 3 10 (30) 37 := ⟨by decide +kernel, rfl, by decide, by decide⟩
theorem o_addInclusive_10 : InsA md_addInclusive 10 (.iload_n 2) 1 11 := ⟨by decide +kernel, rfl⟩
theorem o_addInclusive_11 : InsB md_addInclusive 11 (.ifCond .lt 26) 3 14 (26) 37 := ⟨by decide +kernel, rfl, by decide, by decide⟩
theorem o_addInclusive_14 : InsA md_addInclusive 14 (.aload_n 0) 1 15 := ⟨by decide +kernel, rfl⟩
theorem o_addInclusive_15 : InsA md_addInclusive 15 (.getfield 40) 3 18 := ⟨by decide +kernel, rfl⟩
theorem o_addInclusive_18 : InsA md_addInclusive 18 (.iload_n 2) 1 19 := ⟨by decide +kernel, rfl⟩
theorem o_addInclusive_19 : InsA md_addInclusive 19 (.dup2) 1 20 := ⟨by decide +kernel, rfl⟩
theorem o_addInclusive_20 : InsA md_addInclusive 20 (.iaload) 1 21 := ⟨by decide +kernel, rfl⟩
theorem o_addInclusive_21 : InsA md_addInclusive 21 (.iconst 1) 1 22 := ⟨by decide +kernel, rfl⟩
theorem o_addInclusive_22 : InsA md_addInclusive 22 (.iadd) 1 23 := ⟨by decide +kernel, rfl⟩
theorem o_addInclusive_23 : InsA md_addInclusive 23 (.iastore) 1 24 := ⟨by decide +kernel, rfl⟩
theorem o_addInclusive_24 : InsA md_addInclusive 24 (.aload_n 0) 1 25 := ⟨by decide +kernel, rfl⟩
theorem o_addInclusive_25 : InsA md_addInclusive 25 (.getfield 31) 3 28 := ⟨by decide +kernel, rfl⟩
theorem o_addInclusive_28 : InsA md_addInclusive 28 (.iload_n 2) 1 29 := ⟨by decide +kernel, rfl⟩
theorem o_addInclusive_29 : InsA md_addInclusive 29 (.iaload) 1 30 := ⟨by decide +kernel, rfl⟩
theorem o_addInclusive_30 : InsA md_addInclusive 30 (.istore_n 2) 1 31 := ⟨by decide +kernel, rfl⟩
theorem o_addInclusive_31 : InsA md_addInclusive 31 (.iinc 3 1) 3 34 := ⟨by decide +kernel, rfl⟩
theorem o_addInclusive_34 : InsB md_addInclusive 34 (.goto (-30)) 3 37 (-30) 4 := ⟨by decide +kernel, rfl, by decide, by decide⟩
theorem o_addInclusive_37 : InsA md_addInclusive 37 (.return_) 1 38 := ⟨by decide +kernel, rfl⟩
abbrev md_apply : MD := (⟨"ContextProfiler", "apply", "(II)V"⟩, prog_1_method_12_code, 3, none, { frames := 2, cells := 0, slots := 0, locals := 30 }, 0)
theorem cv_apply {Z : State} {a0 : Array Value} (H : OK Z a0) : CalV Z a0 md_apply 2 := ⟨pn_ContextProfiler, by decide, pd__II_V, H.w 119 rfl, H.w 121 rfl, H.w 2 rfl, Or.inr ⟨H.w 120 rfl, 30, H.w 1 rfl⟩⟩
theorem o_apply_0 : InsA md_apply 0 (.iload_n 1) 1 1 := ⟨by decide +kernel, rfl⟩
theorem o_apply_1 : decode (byOf md_apply) 1 = .ok (.tableswitch 220 1 10 #[55, 88, 88, 115, 158, 181, 189, 197, 205, 212], 55) := by decide +kernel
theorem o_apply_1_d : InsB md_apply 1 (.tableswitch 220 1 10 #[55, 88, 88, 115, 158, 181, 189, 197, 205, 212]) 55 56 (220) 221 := ⟨o_apply_1, rfl, by decide, by decide⟩
theorem o_apply_1_1 : InsB md_apply 1 (.tableswitch 220 1 10 #[55, 88, 88, 115, 158, 181, 189, 197, 205, 212]) 55 56 (55) 56 := ⟨o_apply_1, rfl, by decide, by decide⟩
theorem o_apply_1_2 : InsB md_apply 1 (.tableswitch 220 1 10 #[55, 88, 88, 115, 158, 181, 189, 197, 205, 212]) 55 56 (88) 89 := ⟨o_apply_1, rfl, by decide, by decide⟩
theorem o_apply_1_3 : InsB md_apply 1 (.tableswitch 220 1 10 #[55, 88, 88, 115, 158, 181, 189, 197, 205, 212]) 55 56 (88) 89 := ⟨o_apply_1, rfl, by decide, by decide⟩
theorem o_apply_1_4 : InsB md_apply 1 (.tableswitch 220 1 10 #[55, 88, 88, 115, 158, 181, 189, 197, 205, 212]) 55 56 (115) 116 := ⟨o_apply_1, rfl, by decide, by decide⟩
theorem o_apply_1_5 : InsB md_apply 1 (.tableswitch 220 1 10 #[55, 88, 88, 115, 158, 181, 189, 197, 205, 212]) 55 56 (158) 159 := ⟨o_apply_1, rfl, by decide, by decide⟩
theorem o_apply_1_6 : InsB md_apply 1 (.tableswitch 220 1 10 #[55, 88, 88, 115, 158, 181, 189, 197, 205, 212]) 55 56 (181) 182 := ⟨o_apply_1, rfl, by decide, by decide⟩
theorem o_apply_1_7 : InsB md_apply 1 (.tableswitch 220 1 10 #[55, 88, 88, 115, 158, 181, 189, 197, 205, 212]) 55 56 (189) 190 := ⟨o_apply_1, rfl, by decide, by decide⟩
theorem o_apply_1_8 : InsB md_apply 1 (.tableswitch 220 1 10 #[55, 88, 88, 115, 158, 181, 189, 197, 205, 212]) 55 56 (197) 198 := ⟨o_apply_1, rfl, by decide, by decide⟩
theorem o_apply_1_9 : InsB md_apply 1 (.tableswitch 220 1 10 #[55, 88, 88, 115, 158, 181, 189, 197, 205, 212]) 55 56 (205) 206 := ⟨o_apply_1, rfl, by decide, by decide⟩
theorem o_apply_1_10 : InsB md_apply 1 (.tableswitch 220 1 10 #[55, 88, 88, 115, 158, 181, 189, 197, 205, 212]) 55 56 (212) 213 := ⟨o_apply_1, rfl, by decide, by decide⟩
theorem o_apply_56 : InsA md_apply 56 (.aload_n 0) 1 57 := ⟨by decide +kernel, rfl⟩
theorem o_apply_57 : InsA md_apply 57 (.getfield 19) 3 60 := ⟨by decide +kernel, rfl⟩
theorem o_apply_60 : InsA md_apply 60 (.aload_n 0) 1 61 := ⟨by decide +kernel, rfl⟩
theorem o_apply_61 : InsA md_apply 61 (.getfield 84) 3 64 := ⟨by decide +kernel, rfl⟩
theorem o_apply_64 : InsA md_apply 64 (.iload_n 2) 1 65 := ⟨by decide +kernel, rfl⟩
theorem o_apply_65 : InsA md_apply 65 (.iastore) 1 66 := ⟨by decide +kernel, rfl⟩
theorem o_apply_66 : InsA md_apply 66 (.aload_n 0) 1 67 := ⟨by decide +kernel, rfl⟩
theorem o_apply_67 : InsA md_apply 67 (.dup) 1 68 := ⟨by decide +kernel, rfl⟩
theorem o_apply_68 : InsA md_apply 68 (.getfield 84) 3 71 := ⟨by decide +kernel, rfl⟩
theorem o_apply_71 : InsA md_apply 71 (.iconst 1) 1 72 := ⟨by decide +kernel, rfl⟩
theorem o_apply_72 : InsA md_apply 72 (.iadd) 1 73 := ⟨by decide +kernel, rfl⟩
theorem o_apply_73 : InsA md_apply 73 (.putfield 84) 3 76 := ⟨by decide +kernel, rfl⟩
theorem o_apply_76 : InsA md_apply 76 (.aload_n 0) 1 77 := ⟨by decide +kernel, rfl⟩
theorem o_apply_77 : InsA md_apply 77 (.dup) 1 78 := ⟨by decide +kernel, rfl⟩
theorem o_apply_78 : InsA md_apply 78 (.getfield 81) 3 81 := ⟨by decide +kernel, rfl⟩
theorem o_apply_81 : InsA md_apply 81 (.iconst 1) 1 82 := ⟨by decide +kernel, rfl⟩
theorem o_apply_82 : InsA md_apply 82 (.iadd) 1 83 := ⟨by decide +kernel, rfl⟩
theorem o_apply_83 : InsA md_apply 83 (.putfield 81) 3 86 := ⟨by decide +kernel, rfl⟩
theorem o_apply_86 : InsB md_apply 86 (.goto 145) 3 89 (145) 231 := ⟨by decide +kernel, rfl, by decide, by decide⟩
theorem o_apply_89 : InsA md_apply 89 (.aload_n 0) 1 90 := ⟨by decide +kernel, rfl⟩
theorem o_apply_90 : InsA md_apply 90 (.iload_n 1) 1 91 := ⟨by decide +kernel, rfl⟩
theorem o_apply_91 : InsA md_apply 91 (.iconst 2) 1 92 := ⟨by decide +kernel, rfl⟩
theorem o_apply_92 : InsB md_apply 92 (.if_icmp .ne 7) 3 95 (7) 99 := ⟨by decide +kernel, rfl, by decide, by decide⟩
theorem o_apply_95 : InsA md_apply 95 (.iconst 1) 1 96 := ⟨by decide +kernel, rfl⟩
theorem o_apply_96 : InsB md_apply 96 (.goto 4) 3 99 (4) 100 := ⟨by decide +kernel, rfl, by decide, by decide⟩
theorem o_apply_99 : InsA md_apply 99 (.iconst 0) 1 100 := ⟨by decide +kernel, rfl⟩
theorem o_apply_100 : InsA md_apply 100 (.invokevirtual 133) 3 103 := ⟨by decide +kernel, rfl⟩
theorem o_apply_103 : InsA md_apply 103 (.aload_n 0) 1 104 := ⟨by decide +kernel, rfl⟩
theorem o_apply_104 : InsA md_apply 104 (.dup) 1 105 := ⟨by decide +kernel, rfl⟩
theorem o_apply_105 : InsA md_apply 105 (.getfield 81) 3 108 := ⟨by decide +kernel, rfl⟩
theorem o_apply_108 : InsA md_apply 108 (.iconst 1) 1 109 := ⟨by decide +kernel, rfl⟩
theorem o_apply_109 : InsA md_apply 109 (.iadd) 1 110 := ⟨by decide +kernel, rfl⟩
theorem o_apply_110 : InsA md_apply 110 (.putfield 81) 3 113 := ⟨by decide +kernel, rfl⟩
theorem o_apply_113 : InsB md_apply 113 (.goto 118) 3 116 (118) 231 := ⟨by decide +kernel, rfl, by decide, by decide⟩
theorem o_apply_116 : InsA md_apply 116 (.aload_n 0) 1 117 := ⟨by decide +kernel, rfl⟩
theorem o_apply_117 : InsA md_apply 117 (.getfield 19) 3 120 := ⟨by decide +kernel, rfl⟩
theorem o_apply_120 : InsA md_apply 120 (.aload_n 0) 1 121 := ⟨by decide +kernel, rfl⟩
theorem o_apply_121 : InsA md_apply 121 (.getfield 84) 3 124 := ⟨by decide +kernel, rfl⟩
theorem o_apply_124 : InsA md_apply 124 (.aload_n 0) 1 125 := ⟨by decide +kernel, rfl⟩
theorem o_apply_125 : InsA md_apply 125 (.getfield 19) 3 128 := ⟨by decide +kernel, rfl⟩
theorem o_apply_128 : InsA md_apply 128 (.aload_n 0) 1 129 := ⟨by decide +kernel, rfl⟩
theorem o_apply_129 : InsA md_apply 129 (.getfield 84) 3 132 := ⟨by decide +kernel, rfl⟩
theorem o_apply_132 : InsA md_apply 132 (.iconst 1) 1 133 := ⟨by decide +kernel, rfl⟩
theorem o_apply_133 : InsA md_apply 133 (.isub) 1 134 := ⟨by decide +kernel, rfl⟩
theorem o_apply_134 : InsA md_apply 134 (.iaload) 1 135 := ⟨by decide +kernel, rfl⟩
theorem o_apply_135 : InsA md_apply 135 (.iastore) 1 136 := ⟨by decide +kernel, rfl⟩
theorem o_apply_136 : InsA md_apply 136 (.aload_n 0) 1 137 := ⟨by decide +kernel, rfl⟩
theorem o_apply_137 : InsA md_apply 137 (.dup) 1 138 := ⟨by decide +kernel, rfl⟩
theorem o_apply_138 : InsA md_apply 138 (.getfield 84) 3 141 := ⟨by decide +kernel, rfl⟩
theorem o_apply_141 : InsA md_apply 141 (.iconst 1) 1 142 := ⟨by decide +kernel, rfl⟩
theorem o_apply_142 : InsA md_apply 142 (.iadd) 1 143 := ⟨by decide +kernel, rfl⟩
theorem o_apply_143 : InsA md_apply 143 (.putfield 84) 3 146 := ⟨by decide +kernel, rfl⟩
theorem o_apply_146 : InsA md_apply 146 (.aload_n 0) 1 147 := ⟨by decide +kernel, rfl⟩
theorem o_apply_147 : InsA md_apply 147 (.dup) 1 148 := ⟨by decide +kernel, rfl⟩
theorem o_apply_148 : InsA md_apply 148 (.getfield 81) 3 151 := ⟨by decide +kernel, rfl⟩
theorem o_apply_151 : InsA md_apply 151 (.iconst 1) 1 152 := ⟨by decide +kernel, rfl⟩
theorem o_apply_152 : InsA md_apply 152 (.iadd) 1 153 := ⟨by decide +kernel, rfl⟩
theorem o_apply_153 : InsA md_apply 153 (.putfield 81) 3 156 := ⟨by decide +kernel, rfl⟩
theorem o_apply_156 : InsB md_apply 156 (.goto 75) 3 159 (75) 231 := ⟨by decide +kernel, rfl, by decide, by decide⟩
theorem o_apply_159 : InsA md_apply 159 (.aload_n 0) 1 160 := ⟨by decide +kernel, rfl⟩
theorem o_apply_160 : InsA md_apply 160 (.dup) 1 161 := ⟨by decide +kernel, rfl⟩
theorem o_apply_161 : InsA md_apply 161 (.getfield 84) 3 164 := ⟨by decide +kernel, rfl⟩
theorem o_apply_164 : InsA md_apply 164 (.iconst 1) 1 165 := ⟨by decide +kernel, rfl⟩
theorem o_apply_165 : InsA md_apply 165 (.isub) 1 166 := ⟨by decide +kernel, rfl⟩
theorem o_apply_166 : InsA md_apply 166 (.putfield 84) 3 169 := ⟨by decide +kernel, rfl⟩
theorem o_apply_169 : InsA md_apply 169 (.aload_n 0) 1 170 := ⟨by decide +kernel, rfl⟩
theorem o_apply_170 : InsA md_apply 170 (.dup) 1 171 := ⟨by decide +kernel, rfl⟩
theorem o_apply_171 : InsA md_apply 171 (.getfield 81) 3 174 := ⟨by decide +kernel, rfl⟩
theorem o_apply_174 : InsA md_apply 174 (.iconst 1) 1 175 := ⟨by decide +kernel, rfl⟩
theorem o_apply_175 : InsA md_apply 175 (.iadd) 1 176 := ⟨by decide +kernel, rfl⟩
theorem o_apply_176 : InsA md_apply 176 (.putfield 81) 3 179 := ⟨by decide +kernel, rfl⟩
theorem o_apply_179 : InsB md_apply 179 (.goto 52) 3 182 (52) 231 := ⟨by decide +kernel, rfl, by decide, by decide⟩
theorem o_apply_182 : InsA md_apply 182 (.aload_n 0) 1 183 := ⟨by decide +kernel, rfl⟩
theorem o_apply_183 : InsA md_apply 183 (.iload_n 2) 1 184 := ⟨by decide +kernel, rfl⟩
theorem o_apply_184 : InsA md_apply 184 (.putfield 81) 3 187 := ⟨by decide +kernel, rfl⟩
theorem o_apply_187 : InsB md_apply 187 (.goto 44) 3 190 (44) 231 := ⟨by decide +kernel, rfl, by decide, by decide⟩
theorem o_apply_190 : InsA md_apply 190 (.aload_n 0) 1 191 := ⟨by decide +kernel, rfl⟩
theorem o_apply_191 : InsA md_apply 191 (.iload_n 2) 1 192 := ⟨by decide +kernel, rfl⟩
theorem o_apply_192 : InsA md_apply 192 (.invokevirtual 137) 3 195 := ⟨by decide +kernel, rfl⟩
theorem o_apply_198 : InsA md_apply 198 (.aload_n 0) 1 199 := ⟨by decide +kernel, rfl⟩
theorem o_apply_199 : InsA md_apply 199 (.iload_n 2) 1 200 := ⟨by decide +kernel, rfl⟩
theorem o_apply_200 : InsA md_apply 200 (.invokevirtual 141) 3 203 := ⟨by decide +kernel, rfl⟩
theorem o_apply_203 : InsB md_apply 203 (.goto 28) 3 206 (28) 231 := ⟨by decide +kernel, rfl, by decide, by decide⟩
theorem o_apply_206 : InsA md_apply 206 (.aload_n 0) 1 207 := ⟨by decide +kernel, rfl⟩
theorem o_apply_207 : InsA md_apply 207 (.invokevirtual 144) 3 210 := ⟨by decide +kernel, rfl⟩
theorem o_apply_210 : InsB md_apply 210 (.goto 21) 3 213 (21) 231 := ⟨by decide +kernel, rfl, by decide, by decide⟩
theorem o_apply_213 : InsA md_apply 213 (.aload_n 0) 1 214 := ⟨by decide +kernel, rfl⟩
theorem o_apply_214 : InsA md_apply 214 (.iconst 2) 1 215 := ⟨by decide +kernel, rfl⟩
theorem o_apply_215 : InsA md_apply 215 (.putfield 75) 3 218 := ⟨by decide +kernel, rfl⟩
theorem o_apply_218 : InsB md_apply 218 (.goto 13) 3 221 (13) 231 := ⟨by decide +kernel, rfl, by decide, by decide⟩
theorem o_apply_221 : InsA md_apply 221 (.aload_n 0) 1 222 := ⟨by decide +kernel, rfl⟩
theorem o_apply_222 : InsA md_apply 222 (.dup) 1 223 := ⟨by decide +kernel, rfl⟩
theorem o_apply_223 : InsA md_apply 223 (.getfield 81) 3 226 := ⟨by decide +kernel, rfl⟩
theorem o_apply_226 : InsA md_apply 226 (.iconst 1) 1 227 := ⟨by decide +kernel, rfl⟩
theorem o_apply_227 : InsA md_apply 227 (.iadd) 1 228 := ⟨by decide +kernel, rfl⟩
theorem o_apply_228 : InsA md_apply 228 (.putfield 81) 3 231 := ⟨by decide +kernel, rfl⟩
theorem o_apply_231 : InsA md_apply 231 (.return_) 1 232 := ⟨by decide +kernel, rfl⟩
abbrev md_callFaults : MD := (⟨"ContextProfiler", "callFaults", "(I)Z"⟩, prog_1_method_11_code, 2, some .boolean, { frames := 0, cells := 0, slots := 0, locals := 0 }, 0)
theorem cv_callFaults {Z : State} {a0 : Array Value} (H : OK Z a0) : CalV Z a0 md_callFaults 1 := ⟨pn_ContextProfiler, by decide, pd__I_Z, H.w 123 rfl, H.w 125 rfl, H.w 2 rfl, Or.inr ⟨H.w 124 rfl, 30, H.w 1 rfl⟩⟩
theorem o_callFaults_0 : InsA md_callFaults 0 (.iload_n 1) 1 1 := ⟨by decide +kernel, rfl⟩
theorem o_callFaults_1 : InsB md_callFaults 1 (.ifCond .lt 9) 3 4 (9) 10 := ⟨by decide +kernel, rfl, by decide, by decide⟩
theorem o_callFaults_4 : InsA md_callFaults 4 (.iload_n 1) 1 5 := ⟨by decide +kernel, rfl⟩
theorem o_callFaults_5 : InsA md_callFaults 5 (.bipush 7) 2 7 := ⟨by decide +kernel, rfl⟩
theorem o_callFaults_7 : InsB md_callFaults 7 (.if_icmp .le 5) 3 10 (5) 12 := ⟨by decide +kernel, rfl, by decide, by decide⟩
theorem o_callFaults_10 : InsA md_callFaults 10 (.iconst 1) 1 11 := ⟨by decide +kernel, rfl⟩
theorem o_callFaults_11 : InsA md_callFaults 11 (.ireturn) 1 12 := ⟨by decide +kernel, rfl⟩
theorem o_callFaults_12 : InsA md_callFaults 12 (.aload_n 0) 1 13 := ⟨by decide +kernel, rfl⟩
theorem o_callFaults_13 : InsA md_callFaults 13 (.getfield 16) 3 16 := ⟨by decide +kernel, rfl⟩
theorem o_callFaults_16 : InsA md_callFaults 16 (.iload_n 1) 1 17 := ⟨by decide +kernel, rfl⟩
theorem o_callFaults_17 : InsA md_callFaults 17 (.iaload) 1 18 := ⟨by decide +kernel, rfl⟩
theorem o_callFaults_18 : InsB md_callFaults 18 (.ifCond .ge 5) 3 21 (5) 23 := ⟨by decide +kernel, rfl, by decide, by decide⟩
theorem o_callFaults_21 : InsA md_callFaults 21 (.iconst 1) 1 22 := ⟨by decide +kernel, rfl⟩
theorem o_callFaults_22 : InsA md_callFaults 22 (.ireturn) 1 23 := ⟨by decide +kernel, rfl⟩
theorem o_callFaults_23 : InsA md_callFaults 23 (.aload_n 0) 1 24 := ⟨by decide +kernel, rfl⟩
theorem o_callFaults_24 : InsA md_callFaults 24 (.getfield 87) 3 27 := ⟨by decide +kernel, rfl⟩
theorem o_callFaults_27 : InsA md_callFaults 27 (.aload_n 0) 1 28 := ⟨by decide +kernel, rfl⟩
theorem o_callFaults_28 : InsA md_callFaults 28 (.getfield 69) 3 31 := ⟨by decide +kernel, rfl⟩
theorem o_callFaults_31 : InsB md_callFaults 31 (.if_icmp .ge 12) 3 34 (12) 43 := ⟨by decide +kernel, rfl, by decide, by decide⟩
theorem o_callFaults_34 : InsA md_callFaults 34 (.aload_n 0) 1 35 := ⟨by decide +kernel, rfl⟩
theorem o_callFaults_35 : InsA md_callFaults 35 (.getfield 87) 3 38 := ⟨by decide +kernel, rfl⟩
theorem o_callFaults_38 : InsA md_callFaults 38 (.bipush 16) 2 40 := ⟨by decide +kernel, rfl⟩
theorem o_callFaults_40 : InsB md_callFaults 40 (.if_icmp .lt 7) 3 43 (7) 47 := ⟨by decide +kernel, rfl, by decide, by decide⟩
theorem o_callFaults_43 : InsA md_callFaults 43 (.iconst 1) 1 44 := ⟨by decide +kernel, rfl⟩
theorem o_callFaults_44 : InsB md_callFaults 44 (.goto 4) 3 47 (4) 48 := ⟨by decide +kernel, rfl, by decide, by decide⟩
theorem o_callFaults_47 : InsA md_callFaults 47 (.iconst 0) 1 48 := ⟨by decide +kernel, rfl⟩
theorem o_callFaults_48 : InsA md_callFaults 48 (.ireturn) 1 49 := ⟨by decide +kernel, rfl⟩
abbrev md_doCall : MD := (⟨"ContextProfiler", "doCall", "(I)V"⟩, prog_1_method_15_code, 4, none, { frames := 1, cells := 0, slots := 0, locals := 15 }, 0)
theorem cv_doCall {Z : State} {a0 : Array Value} (H : OK Z a0) : CalV Z a0 md_doCall 1 := ⟨pn_ContextProfiler, by decide, pd__I_V, H.w 127 rfl, H.w 129 rfl, H.w 2 rfl, Or.inr ⟨H.w 128 rfl, 30, H.w 1 rfl⟩⟩
theorem o_doCall_0 : InsA md_doCall 0 (.aload_n 0) 1 1 := ⟨by decide +kernel, rfl⟩
theorem o_doCall_1 : InsA md_doCall 1 (.getfield 28) 3 4 := ⟨by decide +kernel, rfl⟩
theorem o_doCall_4 : InsA md_doCall 4 (.aload_n 0) 1 5 := ⟨by decide +kernel, rfl⟩
theorem o_doCall_5 : InsA md_doCall 5 (.getfield 87) 3 8 := ⟨by decide +kernel, rfl⟩
theorem o_doCall_8 : InsA md_doCall 8 (.iconst 1) 1 9 := ⟨by decide +kernel, rfl⟩
theorem o_doCall_9 : InsA md_doCall 9 (.isub) 1 10 := ⟨by decide +kernel, rfl⟩
theorem o_doCall_10 : InsA md_doCall 10 (.iaload) 1 11 := ⟨by decide +kernel, rfl⟩
theorem o_doCall_11 : InsA md_doCall 11 (.istore_n 2) 1 12 := ⟨by decide +kernel, rfl⟩
theorem o_doCall_12 : InsA md_doCall 12 (.iconst (-1)) 1 13 := ⟨by decide +kernel, rfl⟩
theorem o_doCall_13 : InsA md_doCall 13 (.istore_n 3) 1 14 := ⟨by decide +kernel, rfl⟩
theorem o_doCall_14 : InsA md_doCall 14 (.iload_n 2) 1 15 := ⟨by decide +kernel, rfl⟩
theorem o_doCall_15 : InsB md_doCall 15 (.ifCond .lt 32) 3 18 (32) 47 := ⟨by decide +kernel, rfl, by decide, by decide⟩
theorem o_doCall_18 : InsA md_doCall 18 (.aload_n 0) 1 19 := ⟨by decide +kernel, rfl⟩
theorem o_doCall_19 : InsA md_doCall 19 (.iload_n 2) 1 20 := ⟨by decide +kernel, rfl⟩
theorem o_doCall_20 : InsA md_doCall 20 (.iload_n 1) 1 21 := ⟨by decide +kernel, rfl⟩
theorem o_doCall_21 : InsA md_doCall 21 (.invokevirtual 147) 3 24 := ⟨by decide +kernel, rfl⟩
theorem o_doCall_24 : InsA md_doCall 24 (.istore_n 3) 1 25 := ⟨by decide +kernel, rfl⟩
theorem o_doCall_25 : InsA md_doCall 25 (.iload_n 3) 1 26 := ⟨by decide +kernel, rfl⟩
theorem o_doCall_26 : InsB md_doCall 26 (.ifCond .ge 21) 3 29 (21) 47 := ⟨by decide +kernel, rfl, by decide, by decide⟩
theorem o_doCall_29 : InsA md_doCall 29 (.aload_n 0) 1 30 := ⟨by decide +kernel, rfl⟩
theorem o_doCall_30 : InsA md_doCall 30 (.getfield 105) 3 33 := ⟨by decide +kernel, rfl⟩
theorem o_doCall_33 : InsA md_doCall 33 (.aload_n 0) 1 34 := ⟨by decide +kernel, rfl⟩
theorem o_doCall_34 : InsA md_doCall 34 (.getfield 62) 3 37 := ⟨by decide +kernel, rfl⟩
theorem o_doCall_37 : InsB md_doCall 37 (.if_icmp .ge 10) 3 40 (10) 47 := ⟨by decide +kernel, rfl, by decide, by decide⟩
theorem o_doCall_40 : InsA md_doCall 40 (.aload_n 0) 1 41 := ⟨by decide +kernel, rfl⟩
theorem o_doCall_41 : InsA md_doCall 41 (.iload_n 2) 1 42 := ⟨by decide +kernel, rfl⟩
theorem o_doCall_42 : InsA md_doCall 42 (.iload_n 1) 1 43 := ⟨by decide +kernel, rfl⟩
theorem o_doCall_43 : InsA md_doCall 43 (.invokevirtual 151) 3 46 := ⟨by decide +kernel, rfl⟩
theorem o_doCall_46 : InsA md_doCall 46 (.istore_n 3) 1 47 := ⟨by decide +kernel, rfl⟩
theorem o_doCall_47 : InsA md_doCall 47 (.aload_n 0) 1 48 := ⟨by decide +kernel, rfl⟩
theorem o_doCall_48 : InsA md_doCall 48 (.getfield 22) 3 51 := ⟨by decide +kernel, rfl⟩
theorem o_doCall_51 : InsA md_doCall 51 (.aload_n 0) 1 52 := ⟨by decide +kernel, rfl⟩
theorem o_doCall_52 : InsA md_doCall 52 (.getfield 87) 3 55 := ⟨by decide +kernel, rfl⟩
theorem o_doCall_55 : InsA md_doCall 55 (.iload_n 1) 1 56 := ⟨by decide +kernel, rfl⟩
theorem o_doCall_56 : InsA md_doCall 56 (.iastore) 1 57 := ⟨by decide +kernel, rfl⟩
theorem o_doCall_57 : InsA md_doCall 57 (.aload_n 0) 1 58 := ⟨by decide +kernel, rfl⟩
theorem o_doCall_58 : InsA md_doCall 58 (.getfield 25) 3 61 := ⟨by decide +kernel, rfl⟩
theorem o_doCall_61 : InsA md_doCall 61 (.aload_n 0) 1 62 := ⟨by decide +kernel, rfl⟩
theorem o_doCall_62 : InsA md_doCall 62 (.getfield 87) 3 65 := ⟨by decide +kernel, rfl⟩
theorem o_doCall_65 : InsA md_doCall 65 (.aload_n 0) 1 66 := ⟨by decide +kernel, rfl⟩
theorem o_doCall_66 : InsA md_doCall 66 (.getfield 81) 3 69 := ⟨by decide +kernel, rfl⟩
theorem o_doCall_69 : InsA md_doCall 69 (.iconst 1) 1 70 := ⟨by decide +kernel, rfl⟩
theorem o_doCall_70 : InsA md_doCall 70 (.iadd) 1 71 := ⟨by decide +kernel, rfl⟩
theorem o_doCall_71 : InsA md_doCall 71 (.iastore) 1 72 := ⟨by decide +kernel, rfl⟩
theorem o_doCall_72 : InsA md_doCall 72 (.aload_n 0) 1 73 := ⟨by decide +kernel, rfl⟩
theorem o_doCall_73 : InsA md_doCall 73 (.getfield 28) 3 76 := ⟨by decide +kernel, rfl⟩
theorem o_doCall_76 : InsA md_doCall 76 (.aload_n 0) 1 77 := ⟨by decide +kernel, rfl⟩
theorem o_doCall_77 : InsA md_doCall 77 (.getfield 87) 3 80 := ⟨by decide +kernel, rfl⟩
theorem o_doCall_80 : InsA md_doCall 80 (.iload_n 3) 1 81 := ⟨by decide +kernel, rfl⟩
theorem o_doCall_81 : InsA md_doCall 81 (.iastore) 1 82 := ⟨by decide +kernel, rfl⟩
theorem o_doCall_82 : InsA md_doCall 82 (.aload_n 0) 1 83 := ⟨by decide +kernel, rfl⟩
theorem o_doCall_83 : InsA md_doCall 83 (.dup) 1 84 := ⟨by decide +kernel, rfl⟩
theorem o_doCall_84 : InsA md_doCall 84 (.getfield 87) 3 87 := ⟨by decide +kernel, rfl⟩
theorem o_doCall_87 : InsA md_doCall 87 (.iconst 1) 1 88 := ⟨by decide +kernel, rfl⟩
theorem o_doCall_88 : InsA md_doCall 88 (.iadd) 1 89 := ⟨by decide +kernel, rfl⟩
theorem o_doCall_89 : InsA md_doCall 89 (.putfield 87) 3 92 := ⟨by decide +kernel, rfl⟩
theorem o_doCall_92 : InsA md_doCall 92 (.aload_n 0) 1 93 := ⟨by decide +kernel, rfl⟩
theorem o_doCall_93 : InsA md_doCall 93 (.aload_n 0) 1 94 := ⟨by decide +kernel, rfl⟩
theorem o_doCall_94 : InsA md_doCall 94 (.getfield 16) 3 97 := ⟨by decide +kernel, rfl⟩
theorem o_doCall_97 : InsA md_doCall 97 (.iload_n 1) 1 98 := ⟨by decide +kernel, rfl⟩
theorem o_doCall_98 : InsA md_doCall 98 (.iaload) 1 99 := ⟨by decide +kernel, rfl⟩
theorem o_doCall_99 : InsA md_doCall 99 (.putfield 81) 3 102 := ⟨by decide +kernel, rfl⟩
theorem o_doCall_102 : InsA md_doCall 102 (.return_) 1 103 := ⟨by decide +kernel, rfl⟩
abbrev md_findInstrChild : MD := (⟨"ContextProfiler", "findInstrChild", "(II)I"⟩, prog_1_method_20_code, 4, some .int, { frames := 0, cells := 0, slots := 0, locals := 0 }, 0)
theorem cv_findInstrChild {Z : State} {a0 : Array Value} (H : OK Z a0) : CalV Z a0 md_findInstrChild 2 := ⟨pn_ContextProfiler, by decide, pd__II_I, H.w 131 rfl, H.w 133 rfl, H.w 2 rfl, Or.inr ⟨H.w 132 rfl, 30, H.w 1 rfl⟩⟩
theorem o_findInstrChild_0 : InsA md_findInstrChild 0 (.iconst 1) 1 1 := ⟨by decide +kernel, rfl⟩
theorem o_findInstrChild_1 : InsA md_findInstrChild 1 (.istore_n 3) 1 2 := ⟨by decide +kernel, rfl⟩
theorem o_findInstrChild_2 : InsA md_findInstrChild 2 (.iload_n 3) 1 3 := ⟨by decide +kernel, rfl⟩
theorem o_findInstrChild_3 : InsA md_findInstrChild 3 (.aload_n 0) 1 4 := ⟨by decide +kernel, rfl⟩
theorem o_findInstrChild_4 : InsA md_findInstrChild 4 (.getfield 105) 3 7 := ⟨by decide +kernel, rfl⟩
theorem o_findInstrChild_7 : InsB md_findInstrChild 7 (.if_icmp .ge 31) 3 10 (31) 38 := ⟨by decide +kernel, rfl, by decide, by decide⟩
theorem o_findInstrChild_10 : InsA md_findInstrChild 10 (.aload_n 0) 1 11 := ⟨by decide +kernel, rfl⟩
theorem o_findInstrChild_11 : InsA md_findInstrChild 11 (.getfield 31) 3 14 := ⟨by decide +kernel, rfl⟩
theorem o_findInstrChild_14 : InsA md_findInstrChild 14 (.iload_n 3) 1 15 := ⟨by decide +kernel, rfl⟩
theorem o_findInstrChild_15 : InsA md_findInstrChild 15 (.iaload) 1 16 := ⟨by decide +kernel, rfl⟩
theorem o_findInstrChild_16 : InsA md_findInstrChild 16 (.iload_n 1) 1 17 := ⟨by decide +kernel, rfl⟩
theorem o_findInstrChild_17 : InsB md_findInstrChild 17 (.if_icmp .ne 15) 3 20 (15) 32 := ⟨by decide +kernel, rfl, by decide, by decide⟩
theorem o_findInstrChild_20 : InsA md_findInstrChild 20 (.aload_n 0) 1 21 := ⟨by decide +kernel, rfl⟩
theorem o_findInstrChild_21 : InsA md_findInstrChild 21 (.getfield 34) 3 24 := ⟨by decide +kernel, rfl⟩
theorem o_findInstrChild_24 : InsA md_findInstrChild 24 (.iload_n 3) 1 25 := ⟨by decide +kernel, rfl⟩
theorem o_findInstrChild_25 : InsA md_findInstrChild 25 (.iaload) 1 26 := ⟨by decide +kernel, rfl⟩
theorem o_findInstrChild_26 : InsA md_findInstrChild 26 (.iload_n 2) 1 27 := ⟨by decide +kernel, rfl⟩
theorem o_findInstrChild_27 : InsB md_findInstrChild 27 (.if_icmp .ne 5) 3 30 (5) 32 := ⟨by decide +kernel, rfl, by decide, by decide⟩
theorem o_findInstrChild_30 : InsA md_findInstrChild 30 (.iload_n 3) 1 31 := ⟨by decide +kernel, rfl⟩
theorem o_findInstrChild_31 : InsA md_findInstrChild 31 (.ireturn) 1 32 := ⟨by decide +kernel, rfl⟩
theorem o_findInstrChild_32 : InsA md_findInstrChild 32 (.iinc 3 1) 3 35 := ⟨by decide +kernel, rfl⟩
theorem o_findInstrChild_35 : InsB md_findInstrChild 35 (.goto (-33)) 3 38 (-33) 2 := ⟨by decide +kernel, rfl, by decide, by decide⟩
theorem o_findInstrChild_38 : InsA md_findInstrChild 38 (.iconst (-1)) 1 39 := ⟨by decide +kernel, rfl⟩
theorem o_findInstrChild_39 : InsA md_findInstrChild 39 (.ireturn) 1 40 := ⟨by decide +kernel, rfl⟩
abbrev md_newInstrNode : MD := (⟨"ContextProfiler", "newInstrNode", "(II)I"⟩, prog_1_method_21_code, 4, some .int, { frames := 0, cells := 0, slots := 0, locals := 0 }, 0)
theorem cv_newInstrNode {Z : State} {a0 : Array Value} (H : OK Z a0) : CalV Z a0 md_newInstrNode 2 := ⟨pn_ContextProfiler, by decide, pd__II_I, H.w 135 rfl, H.w 137 rfl, H.w 2 rfl, Or.inr ⟨H.w 136 rfl, 30, H.w 1 rfl⟩⟩
theorem o_newInstrNode_0 : InsA md_newInstrNode 0 (.aload_n 0) 1 1 := ⟨by decide +kernel, rfl⟩
theorem o_newInstrNode_1 : InsA md_newInstrNode 1 (.getfield 105) 3 4 := ⟨by decide +kernel, rfl⟩
theorem o_newInstrNode_4 : InsA md_newInstrNode 4 (.istore_n 3) 1 5 := ⟨by decide +kernel, rfl⟩
theorem o_newInstrNode_5 : InsA md_newInstrNode 5 (.aload_n 0) 1 6 := ⟨by decide +kernel, rfl⟩
theorem o_newInstrNode_6 : InsA md_newInstrNode 6 (.getfield 31) 3 9 := ⟨by decide +kernel, rfl⟩
theorem o_newInstrNode_9 : InsA md_newInstrNode 9 (.iload_n 3) 1 10 := ⟨by decide +kernel, rfl⟩
theorem o_newInstrNode_10 : InsA md_newInstrNode 10 (.iload_n 1) 1 11 := ⟨by decide +kernel, rfl⟩
theorem o_newInstrNode_11 : InsA md_newInstrNode 11 (.iastore) 1 12 := ⟨by decide +kernel, rfl⟩
theorem o_newInstrNode_12 : InsA md_newInstrNode 12 (.aload_n 0) 1 13 := ⟨by decide +kernel, rfl⟩
theorem o_newInstrNode_13 : InsA md_newInstrNode 13 (.getfield 34) 3 16 := ⟨by decide +kernel, rfl⟩
theorem o_newInstrNode_16 : InsA md_newInstrNode 16 (.iload_n 3) 1 17 := ⟨by decide +kernel, rfl⟩
theorem o_newInstrNode_17 : InsA md_newInstrNode 17 (.iload_n 2) 1 18 := ⟨by decide +kernel, rfl⟩
theorem o_newInstrNode_18 : InsA md_newInstrNode 18 (.iastore) 1 19 := ⟨by decide +kernel, rfl⟩
theorem o_newInstrNode_19 : InsA md_newInstrNode 19 (.aload_n 0) 1 20 := ⟨by decide +kernel, rfl⟩
theorem o_newInstrNode_20 : InsA md_newInstrNode 20 (.getfield 37) 3 23 := ⟨by decide +kernel, rfl⟩
theorem o_newInstrNode_23 : InsA md_newInstrNode 23 (.iload_n 3) 1 24 := ⟨by decide +kernel, rfl⟩
theorem o_newInstrNode_24 : InsA md_newInstrNode 24 (.iconst 0) 1 25 := ⟨by decide +kernel, rfl⟩
theorem o_newInstrNode_25 : InsA md_newInstrNode 25 (.iastore) 1 26 := ⟨by decide +kernel, rfl⟩
theorem o_newInstrNode_26 : InsA md_newInstrNode 26 (.aload_n 0) 1 27 := ⟨by decide +kernel, rfl⟩
theorem o_newInstrNode_27 : InsA md_newInstrNode 27 (.getfield 40) 3 30 := ⟨by decide +kernel, rfl⟩
theorem o_newInstrNode_30 : InsA md_newInstrNode 30 (.iload_n 3) 1 31 := ⟨by decide +kernel, rfl⟩
theorem o_newInstrNode_31 : InsA md_newInstrNode 31 (.iconst 0) 1 32 := ⟨by decide +kernel, rfl⟩
theorem o_newInstrNode_32 : InsA md_newInstrNode 32 (.iastore) 1 33 := ⟨by decide +kernel, rfl⟩
theorem o_newInstrNode_33 : InsA md_newInstrNode 33 (.aload_n 0) 1 34 := ⟨by decide +kernel, rfl⟩
theorem o_newInstrNode_34 : InsA md_newInstrNode 34 (.getfield 43) 3 37 := ⟨by decide +kernel, rfl⟩
theorem o_newInstrNode_37 : InsA md_newInstrNode 37 (.iload_n 3) 1 38 := ⟨by decide +kernel, rfl⟩
theorem o_newInstrNode_38 : InsA md_newInstrNode 38 (.iconst 0) 1 39 := ⟨by decide +kernel, rfl⟩
theorem o_newInstrNode_39 : InsA md_newInstrNode 39 (.iastore) 1 40 := ⟨by decide +kernel, rfl⟩
theorem o_newInstrNode_40 : InsA md_newInstrNode 40 (.aload_n 0) 1 41 := ⟨by decide +kernel, rfl⟩
theorem o_newInstrNode_41 : InsA md_newInstrNode 41 (.iload_n 3) 1 42 := ⟨by decide +kernel, rfl⟩
theorem o_newInstrNode_42 : InsA md_newInstrNode 42 (.iconst 1) 1 43 := ⟨by decide +kernel, rfl⟩
theorem o_newInstrNode_43 : InsA md_newInstrNode 43 (.iadd) 1 44 := ⟨by decide +kernel, rfl⟩
theorem o_newInstrNode_44 : InsA md_newInstrNode 44 (.putfield 105) 3 47 := ⟨by decide +kernel, rfl⟩
theorem o_newInstrNode_47 : InsA md_newInstrNode 47 (.iload_n 3) 1 48 := ⟨by decide +kernel, rfl⟩
theorem o_newInstrNode_48 : InsA md_newInstrNode 48 (.ireturn) 1 49 := ⟨by decide +kernel, rfl⟩
abbrev md_sample : MD := (⟨"ContextProfiler", "sample", "()V"⟩, prog_1_method_22_code, 5, none, { frames := 1, cells := 0, slots := 0, locals := 15 }, 0)
theorem cv_sample {Z : State} {a0 : Array Value} (H : OK Z a0) : CalV Z a0 md_sample 0 := ⟨pn_ContextProfiler, by decide, pd___V, H.w 139 rfl, H.w 141 rfl, H.w 2 rfl, Or.inr ⟨H.w 140 rfl, 30, H.w 1 rfl⟩⟩
theorem o_sample_0 : InsA md_sample 0 (.iconst 0) 1 1 := ⟨by decide +kernel, rfl⟩
theorem o_sample_1 : InsA md_sample 1 (.istore_n 1) 1 2 := ⟨by decide +kernel, rfl⟩
theorem o_sample_2 : InsA md_sample 2 (.iconst 1) 1 3 := ⟨by decide +kernel, rfl⟩
theorem o_sample_3 : InsA md_sample 3 (.istore_n 2) 1 4 := ⟨by decide +kernel, rfl⟩
theorem o_sample_4 : InsA md_sample 4 (.iload_n 2) 1 5 := ⟨by decide +kernel, rfl⟩
theorem o_sample_5 : InsA md_sample 5 (.aload_n 0) 1 6 := ⟨by decide +kernel, rfl⟩
theorem o_sample_6 : InsA md_sample 6 (.getfield 87) 3 9 := ⟨by decide +kernel, rfl⟩
theorem o_sample_9 : InsB md_sample 9 (.if_icmp .ge 62) 3 12 (62) 71 := ⟨by decide +kernel, rfl, by decide, by decide⟩
theorem o_sample_12 : InsA md_sample 12 (.aload_n 0) 1 13 := ⟨by decide +kernel, rfl⟩
theorem o_sample_13 : InsA md_sample 13 (.getfield 22) 3 16 := ⟨by decide +kernel, rfl⟩
theorem o_sample_16 : InsA md_sample 16 (.iload_n 2) 1 17 := ⟨by decide +kernel, rfl⟩
theorem o_sample_17 : InsA md_sample 17 (.iaload) 1 18 := ⟨by decide +kernel, rfl⟩
theorem o_sample_18 : InsA md_sample 18 (.istore_n 3) 1 19 := ⟨by decide +kernel, rfl⟩
theorem o_sample_19 : InsA md_sample 19 (.aload_n 0) 1 20 := ⟨by decide +kernel, rfl⟩
theorem o_sample_20 : InsA md_sample 20 (.iload_n 1) 1 21 := ⟨by decide +kernel, rfl⟩
theorem o_sample_21 : InsA md_sample 21 (.iload_n 3) 1 22 := ⟨by decide +kernel, rfl⟩
theorem o_sample_22 : InsA md_sample 22 (.invokevirtual 164) 3 25 := ⟨by decide +kernel, rfl⟩
theorem o_sample_25 : InsA md_sample 25 (.istore 4) 2 27 := ⟨by decide +kernel, rfl⟩
theorem o_sample_27 : InsA md_sample 27 (.iload 4) 2 29 := ⟨by decide +kernel, rfl⟩
theorem o_sample_29 : InsB md_sample 29 (.ifCond .ge 33) 3 32 (33) 62 := ⟨by decide +kernel, rfl, by decide, by decide⟩
theorem o_sample_32 : InsA md_sample 32 (.aload_n 0) 1 33 := ⟨by decide +kernel, rfl⟩
theorem o_sample_33 : InsA md_sample 33 (.getfield 108) 3 36 := ⟨by decide +kernel, rfl⟩
theorem o_sample_36 : InsA md_sample 36 (.aload_n 0) 1 37 := ⟨by decide +kernel, rfl⟩
theorem o_sample_37 : InsA md_sample 37 (.getfield 62) 3 40 := ⟨by decide +kernel, rfl⟩
theorem o_sample_40 : InsB md_sample 40 (.if_icmp .lt 14) 3 43 (14) 54 := ⟨by decide +kernel, rfl, by decide, by decide⟩
theorem o_sample_43 : InsA md_sample 43 (.aload_n 0) 1 44 := ⟨by decide +kernel, rfl⟩
theorem o_sample_44 : InsA md_sample 44 (.dup) 1 45 := ⟨by decide +kernel, rfl⟩
theorem o_sample_45 : InsA md_sample 45 (.getfield 96) 3 48 := ⟨by decide +kernel, rfl⟩
theorem o_sample_48 : InsA md_sample 48 (.iconst 1) 1 49 := ⟨by decide +kernel, rfl⟩
theorem o_sample_49 : InsA md_sample 49 (.iadd) 1 50 := ⟨by decide +kernel, rfl⟩
theorem o_sample_50 : InsA md_sample 50 (.putfield 96) 3 53 := ⟨by decide +kernel, rfl⟩
theorem o_sample_53 : InsA md_sample 53 (.return_) 1 54 := ⟨by decide +kernel, rfl⟩
theorem o_sample_54 : InsA md_sample 54 (.aload_n 0) 1 55 := ⟨by decide +kernel, rfl⟩
theorem o_sample_55 : InsA md_sample 55 (.iload_n 1) 1 56 := ⟨by decide +kernel, rfl⟩
theorem o_sample_56 : InsA md_sample 56 (.iload_n 3) 1 57 := ⟨by decide +kernel, rfl⟩
theorem o_sample_57 : InsA md_sample 57 (.invokevirtual 167) 3 60 := ⟨by decide +kernel, rfl⟩
theorem o_sample_60 : InsA md_sample 60 (.istore 4) 2 62 := ⟨by decide +kernel, rfl⟩
theorem o_sample_62 : InsA md_sample 62 (.iload 4) 2 64 := ⟨by decide +kernel, rfl⟩
theorem o_sample_64 : InsA md_sample 64 (.istore_n 1) 1 65 := ⟨by decide +kernel, rfl⟩
theorem o_sample_65 : InsA md_sample 65 (.iinc 2 1) 3 68 := ⟨by decide +kernel, rfl⟩
theorem o_sample_68 : InsB md_sample 68 (.goto (-64)) 3 71 (-64) 4 := ⟨by decide +kernel, rfl, by decide, by decide⟩
theorem o_sample_71 : InsA md_sample 71 (.aload_n 0) 1 72 := ⟨by decide +kernel, rfl⟩
theorem o_sample_72 : InsA md_sample 72 (.getfield 52) 3 75 := ⟨by decide +kernel, rfl⟩
theorem o_sample_75 : InsA md_sample 75 (.iload_n 1) 1 76 := ⟨by decide +kernel, rfl⟩
theorem o_sample_76 : InsA md_sample 76 (.dup2) 1 77 := ⟨by decide +kernel, rfl⟩
theorem o_sample_77 : InsA md_sample 77 (.iaload) 1 78 := ⟨by decide +kernel, rfl⟩
theorem o_sample_78 : InsA md_sample 78 (.iconst 1) 1 79 := ⟨by decide +kernel, rfl⟩
theorem o_sample_79 : InsA md_sample 79 (.iadd) 1 80 := ⟨by decide +kernel, rfl⟩
theorem o_sample_80 : InsA md_sample 80 (.iastore) 1 81 := ⟨by decide +kernel, rfl⟩
theorem o_sample_81 : InsA md_sample 81 (.return_) 1 82 := ⟨by decide +kernel, rfl⟩
abbrev md_findSampledChild : MD := (⟨"ContextProfiler", "findSampledChild", "(II)I"⟩, prog_1_method_23_code, 4, some .int, { frames := 0, cells := 0, slots := 0, locals := 0 }, 0)
theorem cv_findSampledChild {Z : State} {a0 : Array Value} (H : OK Z a0) : CalV Z a0 md_findSampledChild 2 := ⟨pn_ContextProfiler, by decide, pd__II_I, H.w 143 rfl, H.w 145 rfl, H.w 2 rfl, Or.inr ⟨H.w 144 rfl, 30, H.w 1 rfl⟩⟩
theorem o_findSampledChild_0 : InsA md_findSampledChild 0 (.iconst 1) 1 1 := ⟨by decide +kernel, rfl⟩
theorem o_findSampledChild_1 : InsA md_findSampledChild 1 (.istore_n 3) 1 2 := ⟨by decide +kernel, rfl⟩
theorem o_findSampledChild_2 : InsA md_findSampledChild 2 (.iload_n 3) 1 3 := ⟨by decide +kernel, rfl⟩
theorem o_findSampledChild_3 : InsA md_findSampledChild 3 (.aload_n 0) 1 4 := ⟨by decide +kernel, rfl⟩
theorem o_findSampledChild_4 : InsA md_findSampledChild 4 (.getfield 108) 3 7 := ⟨by decide +kernel, rfl⟩
theorem o_findSampledChild_7 : InsB md_findSampledChild 7 (.if_icmp .ge 31) 3 10 (31) 38 := ⟨by decide +kernel, rfl, by decide, by decide⟩
theorem o_findSampledChild_10 : InsA md_findSampledChild 10 (.aload_n 0) 1 11 := ⟨by decide +kernel, rfl⟩
theorem o_findSampledChild_11 : InsA md_findSampledChild 11 (.getfield 46) 3 14 := ⟨by decide +kernel, rfl⟩
theorem o_findSampledChild_14 : InsA md_findSampledChild 14 (.iload_n 3) 1 15 := ⟨by decide +kernel, rfl⟩
theorem o_findSampledChild_15 : InsA md_findSampledChild 15 (.iaload) 1 16 := ⟨by decide +kernel, rfl⟩
theorem o_findSampledChild_16 : InsA md_findSampledChild 16 (.iload_n 1) 1 17 := ⟨by decide +kernel, rfl⟩
theorem o_findSampledChild_17 : InsB md_findSampledChild 17 (.if_icmp .ne 15) 3 20 (15) 32 := ⟨by decide +kernel, rfl, by decide, by decide⟩
theorem o_findSampledChild_20 : InsA md_findSampledChild 20 (.aload_n 0) 1 21 := ⟨by decide +kernel, rfl⟩
theorem o_findSampledChild_21 : InsA md_findSampledChild 21 (.getfield 49) 3 24 := ⟨by decide +kernel, rfl⟩
theorem o_findSampledChild_24 : InsA md_findSampledChild 24 (.iload_n 3) 1 25 := ⟨by decide +kernel, rfl⟩
theorem o_findSampledChild_25 : InsA md_findSampledChild 25 (.iaload) 1 26 := ⟨by decide +kernel, rfl⟩
theorem o_findSampledChild_26 : InsA md_findSampledChild 26 (.iload_n 2) 1 27 := ⟨by decide +kernel, rfl⟩
theorem o_findSampledChild_27 : InsB md_findSampledChild 27 (.if_icmp .ne 5) 3 30 (5) 32 := ⟨by decide +kernel, rfl, by decide, by decide⟩
theorem o_findSampledChild_30 : InsA md_findSampledChild 30 (.iload_n 3) 1 31 := ⟨by decide +kernel, rfl⟩
theorem o_findSampledChild_31 : InsA md_findSampledChild 31 (.ireturn) 1 32 := ⟨by decide +kernel, rfl⟩
theorem o_findSampledChild_32 : InsA md_findSampledChild 32 (.iinc 3 1) 3 35 := ⟨by decide +kernel, rfl⟩
theorem o_findSampledChild_35 : InsB md_findSampledChild 35 (.goto (-33)) 3 38 (-33) 2 := ⟨by decide +kernel, rfl, by decide, by decide⟩
theorem o_findSampledChild_38 : InsA md_findSampledChild 38 (.iconst (-1)) 1 39 := ⟨by decide +kernel, rfl⟩
theorem o_findSampledChild_39 : InsA md_findSampledChild 39 (.ireturn) 1 40 := ⟨by decide +kernel, rfl⟩
abbrev md_newSampledNode : MD := (⟨"ContextProfiler", "newSampledNode", "(II)I"⟩, prog_1_method_24_code, 4, some .int, { frames := 0, cells := 0, slots := 0, locals := 0 }, 0)
theorem cv_newSampledNode {Z : State} {a0 : Array Value} (H : OK Z a0) : CalV Z a0 md_newSampledNode 2 := ⟨pn_ContextProfiler, by decide, pd__II_I, H.w 147 rfl, H.w 149 rfl, H.w 2 rfl, Or.inr ⟨H.w 148 rfl, 30, H.w 1 rfl⟩⟩
theorem o_newSampledNode_0 : InsA md_newSampledNode 0 (.aload_n 0) 1 1 := ⟨by decide +kernel, rfl⟩
theorem o_newSampledNode_1 : InsA md_newSampledNode 1 (.getfield 108) 3 4 := ⟨by decide +kernel, rfl⟩
theorem o_newSampledNode_4 : InsA md_newSampledNode 4 (.istore_n 3) 1 5 := ⟨by decide +kernel, rfl⟩
theorem o_newSampledNode_5 : InsA md_newSampledNode 5 (.aload_n 0) 1 6 := ⟨by decide +kernel, rfl⟩
theorem o_newSampledNode_6 : InsA md_newSampledNode 6 (.getfield 46) 3 9 := ⟨by decide +kernel, rfl⟩
theorem o_newSampledNode_9 : InsA md_newSampledNode 9 (.iload_n 3) 1 10 := ⟨by decide +kernel, rfl⟩
theorem o_newSampledNode_10 : InsA md_newSampledNode 10 (.iload_n 1) 1 11 := ⟨by decide +kernel, rfl⟩
theorem o_newSampledNode_11 : InsA md_newSampledNode 11 (.iastore) 1 12 := ⟨by decide +kernel, rfl⟩
theorem o_newSampledNode_12 : InsA md_newSampledNode 12 (.aload_n 0) 1 13 := ⟨by decide +kernel, rfl⟩
theorem o_newSampledNode_13 : InsA md_newSampledNode 13 (.getfield 49) 3 16 := ⟨by decide +kernel, rfl⟩
theorem o_newSampledNode_16 : InsA md_newSampledNode 16 (.iload_n 3) 1 17 := ⟨by decide +kernel, rfl⟩
theorem o_newSampledNode_17 : InsA md_newSampledNode 17 (.iload_n 2) 1 18 := ⟨by decide +kernel, rfl⟩
theorem o_newSampledNode_18 : InsA md_newSampledNode 18 (.iastore) 1 19 := ⟨by decide +kernel, rfl⟩
theorem o_newSampledNode_19 : InsA md_newSampledNode 19 (.aload_n 0) 1 20 := ⟨by decide +kernel, rfl⟩
theorem o_newSampledNode_20 : InsA md_newSampledNode 20 (.getfield 52) 3 23 := ⟨by decide +kernel, rfl⟩
theorem o_newSampledNode_23 : InsA md_newSampledNode 23 (.iload_n 3) 1 24 := ⟨by decide +kernel, rfl⟩
theorem o_newSampledNode_24 : InsA md_newSampledNode 24 (.iconst 0) 1 25 := ⟨by decide +kernel, rfl⟩
theorem o_newSampledNode_25 : InsA md_newSampledNode 25 (.iastore) 1 26 := ⟨by decide +kernel, rfl⟩
theorem o_newSampledNode_26 : InsA md_newSampledNode 26 (.aload_n 0) 1 27 := ⟨by decide +kernel, rfl⟩
theorem o_newSampledNode_27 : InsA md_newSampledNode 27 (.iload_n 3) 1 28 := ⟨by decide +kernel, rfl⟩
theorem o_newSampledNode_28 : InsA md_newSampledNode 28 (.iconst 1) 1 29 := ⟨by decide +kernel, rfl⟩
theorem o_newSampledNode_29 : InsA md_newSampledNode 29 (.iadd) 1 30 := ⟨by decide +kernel, rfl⟩
theorem o_newSampledNode_30 : InsA md_newSampledNode 30 (.putfield 108) 3 33 := ⟨by decide +kernel, rfl⟩
theorem o_newSampledNode_33 : InsA md_newSampledNode 33 (.iload_n 3) 1 34 := ⟨by decide +kernel, rfl⟩
theorem o_newSampledNode_34 : InsA md_newSampledNode 34 (.ireturn) 1 35 := ⟨by decide +kernel, rfl⟩
abbrev md_arith : MD := (⟨"ContextProfiler", "arith", "(Z)V"⟩, prog_1_method_13_code, 4, none, { frames := 0, cells := 0, slots := 0, locals := 0 }, 0)
theorem cv_arith {Z : State} {a0 : Array Value} (H : OK Z a0) : CalV Z a0 md_arith 1 := ⟨pn_ContextProfiler, by decide, pd__Z_V, H.w 151 rfl, H.w 153 rfl, H.w 2 rfl, Or.inr ⟨H.w 152 rfl, 30, H.w 1 rfl⟩⟩
theorem o_arith_0 : InsA md_arith 0 (.aload_n 0) 1 1 := ⟨by decide +kernel, rfl⟩
theorem o_arith_1 : InsA md_arith 1 (.getfield 19) 3 4 := ⟨by decide +kernel, rfl⟩
theorem o_arith_4 : InsA md_arith 4 (.aload_n 0) 1 5 := ⟨by decide +kernel, rfl⟩
theorem o_arith_5 : InsA md_arith 5 (.getfield 84) 3 8 := ⟨by decide +kernel, rfl⟩
theorem o_arith_8 : InsA md_arith 8 (.iconst 1) 1 9 := ⟨by decide +kernel, rfl⟩
theorem o_arith_9 : InsA md_arith 9 (.isub) 1 10 := ⟨by decide +kernel, rfl⟩
theorem o_arith_10 : InsA md_arith 10 (.iaload) 1 11 := ⟨by decide +kernel, rfl⟩
theorem o_arith_11 : InsA md_arith 11 (.istore_n 2) 1 12 := ⟨by decide +kernel, rfl⟩
theorem o_arith_12 : InsA md_arith 12 (.aload_n 0) 1 13 := ⟨by decide +kernel, rfl⟩
theorem o_arith_13 : InsA md_arith 13 (.getfield 19) 3 16 := ⟨by decide +kernel, rfl⟩
theorem o_arith_16 : InsA md_arith 16 (.aload_n 0) 1 17 := ⟨by decide +kernel, rfl⟩
theorem o_arith_17 : InsA md_arith 17 (.getfield 84) 3 20 := ⟨by decide +kernel, rfl⟩
theorem o_arith_20 : InsA md_arith 20 (.iconst 2) 1 21 := ⟨by decide +kernel, rfl⟩
theorem o_arith_21 : InsA md_arith 21 (.isub) 1 22 := ⟨by decide +kernel, rfl⟩
theorem o_arith_22 : InsA md_arith 22 (.iaload) 1 23 := ⟨by decide +kernel, rfl⟩
theorem o_arith_23 : InsA md_arith 23 (.istore_n 3) 1 24 := ⟨by decide +kernel, rfl⟩
theorem o_arith_24 : InsA md_arith 24 (.aload_n 0) 1 25 := ⟨by decide +kernel, rfl⟩
theorem o_arith_25 : InsA md_arith 25 (.dup) 1 26 := ⟨by decide +kernel, rfl⟩
theorem o_arith_26 : InsA md_arith 26 (.getfield 84) 3 29 := ⟨by decide +kernel, rfl⟩
theorem o_arith_29 : InsA md_arith 29 (.iconst 1) 1 30 := ⟨by decide +kernel, rfl⟩
theorem o_arith_30 : InsA md_arith 30 (.isub) 1 31 := ⟨by decide +kernel, rfl⟩
theorem o_arith_31 : InsA md_arith 31 (.putfield 84) 3 34 := ⟨by decide +kernel, rfl⟩
theorem o_arith_34 : InsA md_arith 34 (.aload_n 0) 1 35 := ⟨by decide +kernel, rfl⟩
theorem o_arith_35 : InsA md_arith 35 (.getfield 19) 3 38 := ⟨by decide +kernel, rfl⟩
theorem o_arith_38 : InsA md_arith 38 (.aload_n 0) 1 39 := ⟨by decide +kernel, rfl⟩
theorem o_arith_39 : InsA md_arith 39 (.getfield 84) 3 42 := ⟨by decide +kernel, rfl⟩
theorem o_arith_42 : InsA md_arith 42 (.iconst 1) 1 43 := ⟨by decide +kernel, rfl⟩
theorem o_arith_43 : InsA md_arith 43 (.isub) 1 44 := ⟨by decide +kernel, rfl⟩
theorem o_arith_44 : InsA md_arith 44 (.iload_n 1) 1 45 := ⟨by decide +kernel, rfl⟩
theorem o_arith_45 : InsB md_arith 45 (.ifCond .eq 9) 3 48 (9) 54 := ⟨by decide +kernel, rfl, by decide, by decide⟩
theorem o_arith_48 : InsA md_arith 48 (.iload_n 3) 1 49 := ⟨by decide +kernel, rfl⟩
theorem o_arith_49 : InsA md_arith 49 (.iload_n 2) 1 50 := ⟨by decide +kernel, rfl⟩
theorem o_arith_50 : InsA md_arith 50 (.iadd) 1 51 := ⟨by decide +kernel, rfl⟩
theorem o_arith_51 : InsB md_arith 51 (.goto 6) 3 54 (6) 57 := ⟨by decide +kernel, rfl, by decide, by decide⟩
theorem o_arith_54 : InsA md_arith 54 (.iload_n 3) 1 55 := ⟨by decide +kernel, rfl⟩
theorem o_arith_55 : InsA md_arith 55 (.iload_n 2) 1 56 := ⟨by decide +kernel, rfl⟩
theorem o_arith_56 : InsA md_arith 56 (.isub) 1 57 := ⟨by decide +kernel, rfl⟩
theorem o_arith_57 : InsA md_arith 57 (.iastore) 1 58 := ⟨by decide +kernel, rfl⟩
theorem o_arith_58 : InsA md_arith 58 (.return_) 1 59 := ⟨by decide +kernel, rfl⟩
abbrev md_doRet : MD := (⟨"ContextProfiler", "doRet", "()V"⟩, prog_1_method_16_code, 1, none, { frames := 0, cells := 0, slots := 0, locals := 0 }, 0)
theorem cv_doRet {Z : State} {a0 : Array Value} (H : OK Z a0) : CalV Z a0 md_doRet 0 := ⟨pn_ContextProfiler, by decide, pd___V, H.w 155 rfl, H.w 157 rfl, H.w 2 rfl, Or.inr ⟨H.w 156 rfl, 30, H.w 1 rfl⟩⟩
theorem o_doRet_0 : InsA md_doRet 0 (.aload_n 0) 1 1 := ⟨by decide +kernel, rfl⟩
theorem o_doRet_1 : InsA md_doRet 1 (.dup) 1 2 := ⟨by decide +kernel, rfl⟩
theorem o_doRet_2 : InsA md_doRet 2 (.getfield 87) 3 5 := ⟨by decide +kernel, rfl⟩
theorem o_doRet_5 : InsA md_doRet 5 (.iconst 1) 1 6 := ⟨by decide +kernel, rfl⟩
theorem o_doRet_6 : InsA md_doRet 6 (.isub) 1 7 := ⟨by decide +kernel, rfl⟩
theorem o_doRet_7 : InsA md_doRet 7 (.putfield 87) 3 10 := ⟨by decide +kernel, rfl⟩
theorem o_doRet_10 : InsA md_doRet 10 (.aload_n 0) 1 11 := ⟨by decide +kernel, rfl⟩
theorem o_doRet_11 : InsA md_doRet 11 (.getfield 87) 3 14 := ⟨by decide +kernel, rfl⟩
theorem o_doRet_14 : InsB md_doRet 14 (.ifCond .gt 14) 3 17 (14) 28 := ⟨by decide +kernel, rfl, by decide, by decide⟩
theorem o_doRet_17 : InsA md_doRet 17 (.aload_n 0) 1 18 := ⟨by decide +kernel, rfl⟩
theorem o_doRet_18 : InsA md_doRet 18 (.iconst 0) 1 19 := ⟨by decide +kernel, rfl⟩
theorem o_doRet_19 : InsA md_doRet 19 (.putfield 87) 3 22 := ⟨by decide +kernel, rfl⟩
theorem o_doRet_22 : InsA md_doRet 22 (.aload_n 0) 1 23 := ⟨by decide +kernel, rfl⟩
theorem o_doRet_23 : InsA md_doRet 23 (.iconst 2) 1 24 := ⟨by decide +kernel, rfl⟩
theorem o_doRet_24 : InsA md_doRet 24 (.putfield 75) 3 27 := ⟨by decide +kernel, rfl⟩
theorem o_doRet_27 : InsA md_doRet 27 (.return_) 1 28 := ⟨by decide +kernel, rfl⟩
theorem o_doRet_28 : InsA md_doRet 28 (.aload_n 0) 1 29 := ⟨by decide +kernel, rfl⟩
theorem o_doRet_29 : InsA md_doRet 29 (.aload_n 0) 1 30 := ⟨by decide +kernel, rfl⟩
theorem o_doRet_30 : InsA md_doRet 30 (.getfield 25) 3 33 := ⟨by decide +kernel, rfl⟩
theorem o_doRet_33 : InsA md_doRet 33 (.aload_n 0) 1 34 := ⟨by decide +kernel, rfl⟩
theorem o_doRet_34 : InsA md_doRet 34 (.getfield 87) 3 37 := ⟨by decide +kernel, rfl⟩
theorem o_doRet_37 : InsA md_doRet 37 (.iaload) 1 38 := ⟨by decide +kernel, rfl⟩
theorem o_doRet_38 : InsA md_doRet 38 (.putfield 81) 3 41 := ⟨by decide +kernel, rfl⟩
theorem o_doRet_41 : InsA md_doRet 41 (.return_) 1 42 := ⟨by decide +kernel, rfl⟩
abbrev md_info : MD := (⟨"ContextProfiler", "info", "(I)I"⟩, prog_1_method_34_code, 2, some .int, { frames := 0, cells := 0, slots := 0, locals := 0 }, 0)
theorem cv_info {Z : State} {a0 : Array Value} (H : OK Z a0) : CalV Z a0 md_info 1 := ⟨pn_ContextProfiler, by decide, pd__I_I, H.w 160 rfl, H.w 162 rfl, H.w 2 rfl, Or.inl ⟨H.w 159 rfl, H.w 161 rfl⟩⟩
theorem o_info_0 : InsA md_info 0 (.iload_n 1) 1 1 := ⟨by decide +kernel, rfl⟩
theorem o_info_1 : decode (byOf md_info) 1 = .ok (.tableswitch 155 0 12 #[67, 72, 77, 82, 87, 97, 102, 107, 112, 117, 122, 145, 150], 67) := by decide +kernel
theorem o_info_1_d : InsB md_info 1 (.tableswitch 155 0 12 #[67, 72, 77, 82, 87, 97, 102, 107, 112, 117, 122, 145, 150]) 67 68 (155) 156 := ⟨o_info_1, rfl, by decide, by decide⟩
theorem o_info_1_0 : InsB md_info 1 (.tableswitch 155 0 12 #[67, 72, 77, 82, 87, 97, 102, 107, 112, 117, 122, 145, 150]) 67 68 (67) 68 := ⟨o_info_1, rfl, by decide, by decide⟩
theorem o_info_1_1 : InsB md_info 1 (.tableswitch 155 0 12 #[67, 72, 77, 82, 87, 97, 102, 107, 112, 117, 122, 145, 150]) 67 68 (72) 73 := ⟨o_info_1, rfl, by decide, by decide⟩
theorem o_info_1_2 : InsB md_info 1 (.tableswitch 155 0 12 #[67, 72, 77, 82, 87, 97, 102, 107, 112, 117, 122, 145, 150]) 67 68 (77) 78 := ⟨o_info_1, rfl, by decide, by decide⟩
theorem o_info_1_3 : InsB md_info 1 (.tableswitch 155 0 12 #[67, 72, 77, 82, 87, 97, 102, 107, 112, 117, 122, 145, 150]) 67 68 (82) 83 := ⟨o_info_1, rfl, by decide, by decide⟩
theorem o_info_1_4 : InsB md_info 1 (.tableswitch 155 0 12 #[67, 72, 77, 82, 87, 97, 102, 107, 112, 117, 122, 145, 150]) 67 68 (87) 88 := ⟨o_info_1, rfl, by decide, by decide⟩
theorem o_info_1_5 : InsB md_info 1 (.tableswitch 155 0 12 #[67, 72, 77, 82, 87, 97, 102, 107, 112, 117, 122, 145, 150]) 67 68 (97) 98 := ⟨o_info_1, rfl, by decide, by decide⟩
theorem o_info_1_6 : InsB md_info 1 (.tableswitch 155 0 12 #[67, 72, 77, 82, 87, 97, 102, 107, 112, 117, 122, 145, 150]) 67 68 (102) 103 := ⟨o_info_1, rfl, by decide, by decide⟩
theorem o_info_1_7 : InsB md_info 1 (.tableswitch 155 0 12 #[67, 72, 77, 82, 87, 97, 102, 107, 112, 117, 122, 145, 150]) 67 68 (107) 108 := ⟨o_info_1, rfl, by decide, by decide⟩
theorem o_info_1_8 : InsB md_info 1 (.tableswitch 155 0 12 #[67, 72, 77, 82, 87, 97, 102, 107, 112, 117, 122, 145, 150]) 67 68 (112) 113 := ⟨o_info_1, rfl, by decide, by decide⟩
theorem o_info_1_9 : InsB md_info 1 (.tableswitch 155 0 12 #[67, 72, 77, 82, 87, 97, 102, 107, 112, 117, 122, 145, 150]) 67 68 (117) 118 := ⟨o_info_1, rfl, by decide, by decide⟩
theorem o_info_1_10 : InsB md_info 1 (.tableswitch 155 0 12 #[67, 72, 77, 82, 87, 97, 102, 107, 112, 117, 122, 145, 150]) 67 68 (122) 123 := ⟨o_info_1, rfl, by decide, by decide⟩
theorem o_info_1_11 : InsB md_info 1 (.tableswitch 155 0 12 #[67, 72, 77, 82, 87, 97, 102, 107, 112, 117, 122, 145, 150]) 67 68 (145) 146 := ⟨o_info_1, rfl, by decide, by decide⟩
theorem o_info_1_12 : InsB md_info 1 (.tableswitch 155 0 12 #[67, 72, 77, 82, 87, 97, 102, 107, 112, 117, 122, 145, 150]) 67 68 (150) 151 := ⟨o_info_1, rfl, by decide, by decide⟩
theorem o_info_68 : InsA md_info 68 (.aload_n 0) 1 69 := ⟨by decide +kernel, rfl⟩
theorem o_info_69 : InsA md_info 69 (.getfield 75) 3 72 := ⟨by decide +kernel, rfl⟩
theorem o_info_72 : InsA md_info 72 (.ireturn) 1 73 := ⟨by decide +kernel, rfl⟩
theorem o_info_73 : InsA md_info 73 (.aload_n 0) 1 74 := ⟨by decide +kernel, rfl⟩
theorem o_info_74 : InsA md_info 74 (.getfield 90) 3 77 := ⟨by decide +kernel, rfl⟩
theorem o_info_77 : InsA md_info 77 (.ireturn) 1 78 := ⟨by decide +kernel, rfl⟩
theorem o_info_78 : InsA md_info 78 (.aload_n 0) 1 79 := ⟨by decide +kernel, rfl⟩
theorem o_info_79 : InsA md_info 79 (.getfield 105) 3 82 := ⟨by decide +kernel, rfl⟩
theorem o_info_82 : InsA md_info 82 (.ireturn) 1 83 := ⟨by decide +kernel, rfl⟩
theorem o_info_83 : InsA md_info 83 (.aload_n 0) 1 84 := ⟨by decide +kernel, rfl⟩
theorem o_info_84 : InsA md_info 84 (.getfield 93) 3 87 := ⟨by decide +kernel, rfl⟩
theorem o_info_87 : InsA md_info 87 (.ireturn) 1 88 := ⟨by decide +kernel, rfl⟩
theorem o_info_88 : InsA md_info 88 (.aload_n 0) 1 89 := ⟨by decide +kernel, rfl⟩
theorem o_info_89 : InsA md_info 89 (.getfield 90) 3 92 := ⟨by decide +kernel, rfl⟩
theorem o_info_92 : InsA md_info 92 (.aload_n 0) 1 93 := ⟨by decide +kernel, rfl⟩
theorem o_info_93 : InsA md_info 93 (.getfield 66) 3 96 := ⟨by decide +kernel, rfl⟩
theorem o_info_96 : InsA md_info 96 (.idiv) 1 97 := ⟨by decide +kernel, rfl⟩
theorem o_info_97 : InsA md_info 97 (.ireturn) 1 98 := ⟨by decide +kernel, rfl⟩
theorem o_info_98 : InsA md_info 98 (.aload_n 0) 1 99 := ⟨by decide +kernel, rfl⟩
theorem o_info_99 : InsA md_info 99 (.getfield 108) 3 102 := ⟨by decide +kernel, rfl⟩
theorem o_info_102 : InsA md_info 102 (.ireturn) 1 103 := ⟨by decide +kernel, rfl⟩
theorem o_info_103 : InsA md_info 103 (.aload_n 0) 1 104 := ⟨by decide +kernel, rfl⟩
theorem o_info_104 : InsA md_info 104 (.getfield 96) 3 107 := ⟨by decide +kernel, rfl⟩
theorem o_info_107 : InsA md_info 107 (.ireturn) 1 108 := ⟨by decide +kernel, rfl⟩
theorem o_info_108 : InsA md_info 108 (.aload_n 0) 1 109 := ⟨by decide +kernel, rfl⟩
theorem o_info_109 : InsA md_info 109 (.getfield 87) 3 112 := ⟨by decide +kernel, rfl⟩
theorem o_info_112 : InsA md_info 112 (.ireturn) 1 113 := ⟨by decide +kernel, rfl⟩
theorem o_info_113 : InsA md_info 113 (.aload_n 0) 1 114 := ⟨by decide +kernel, rfl⟩
theorem o_info_114 : InsA md_info 114 (.getfield 81) 3 117 := ⟨by decide +kernel, rfl⟩
theorem o_info_117 : InsA md_info 117 (.ireturn) 1 118 := ⟨by decide +kernel, rfl⟩
theorem o_info_118 : InsA md_info 118 (.aload_n 0) 1 119 := ⟨by decide +kernel, rfl⟩
theorem o_info_119 : InsA md_info 119 (.getfield 84) 3 122 := ⟨by decide +kernel, rfl⟩
theorem o_info_122 : InsA md_info 122 (.ireturn) 1 123 := ⟨by decide +kernel, rfl⟩
theorem o_info_123 : InsA md_info 123 (.aload_n 0) 1 124 := ⟨by decide +kernel, rfl⟩
theorem o_info_124 : InsA md_info 124 (.getfield 84) 3 127 := ⟨by decide +kernel, rfl⟩
theorem o_info_127 : InsB md_info 127 (.ifCond .le 17) 3 130 (17) 144 := ⟨by decide +kernel, rfl, by decide, by decide⟩
theorem o_info_130 : InsA md_info 130 (.aload_n 0) 1 131 := ⟨by decide +kernel, rfl⟩
theorem o_info_131 : InsA md_info 131 (.getfield 19) 3 134 := ⟨by decide +kernel, rfl⟩
theorem o_info_134 : InsA md_info 134 (.aload_n 0) 1 135 := ⟨by decide +kernel, rfl⟩
theorem o_info_135 : InsA md_info 135 (.getfield 84) 3 138 := ⟨by decide +kernel, rfl⟩
theorem o_info_138 : InsA md_info 138 (.iconst 1) 1 139 := ⟨by decide +kernel, rfl⟩
theorem o_info_139 : InsA md_info 139 (.isub) 1 140 := ⟨by decide +kernel, rfl⟩
theorem o_info_140 : InsA md_info 140 (.iaload) 1 141 := ⟨by decide +kernel, rfl⟩
theorem o_info_141 : InsB md_info 141 (.goto 4) 3 144 (4) 145 := ⟨by decide +kernel, rfl, by decide, by decide⟩
theorem o_info_144 : InsA md_info 144 (.iconst 0) 1 145 := ⟨by decide +kernel, rfl⟩
theorem o_info_145 : InsA md_info 145 (.ireturn) 1 146 := ⟨by decide +kernel, rfl⟩
theorem o_info_146 : InsA md_info 146 (.aload_n 0) 1 147 := ⟨by decide +kernel, rfl⟩
theorem o_info_147 : InsA md_info 147 (.getfield 78) 3 150 := ⟨by decide +kernel, rfl⟩
theorem o_info_150 : InsA md_info 150 (.ireturn) 1 151 := ⟨by decide +kernel, rfl⟩
theorem o_info_151 : InsA md_info 151 (.aload_n 0) 1 152 := ⟨by decide +kernel, rfl⟩
theorem o_info_152 : InsA md_info 152 (.getfield 99) 3 155 := ⟨by decide +kernel, rfl⟩
theorem o_info_155 : InsA md_info 155 (.ireturn) 1 156 := ⟨by decide +kernel, rfl⟩
theorem o_info_156 : InsA md_info 156 (.iconst 0) 1 157 := ⟨by decide +kernel, rfl⟩
theorem o_info_157 : InsA md_info 157 (.ireturn) 1 158 := ⟨by decide +kernel, rfl⟩
abbrev md_frameFunction : MD := (⟨"ContextProfiler", "frameFunction", "(I)I"⟩, prog_1_method_33_code, 2, some .int, { frames := 0, cells := 0, slots := 0, locals := 0 }, 0)
theorem cv_frameFunction {Z : State} {a0 : Array Value} (H : OK Z a0) : CalV Z a0 md_frameFunction 1 := ⟨pn_ContextProfiler, by decide, pd__I_I, H.w 165 rfl, H.w 167 rfl, H.w 2 rfl, Or.inl ⟨H.w 164 rfl, H.w 166 rfl⟩⟩
theorem o_frameFunction_0 : InsA md_frameFunction 0 (.iload_n 1) 1 1 := ⟨by decide +kernel, rfl⟩
theorem o_frameFunction_1 : InsB md_frameFunction 1 (.ifCond .lt 17) 3 4 (17) 18 := ⟨by decide +kernel, rfl, by decide, by decide⟩
theorem o_frameFunction_4 : InsA md_frameFunction 4 (.iload_n 1) 1 5 := ⟨by decide +kernel, rfl⟩
theorem o_frameFunction_5 : InsA md_frameFunction 5 (.aload_n 0) 1 6 := ⟨by decide +kernel, rfl⟩
theorem o_frameFunction_6 : InsA md_frameFunction 6 (.getfield 87) 3 9 := ⟨by decide +kernel, rfl⟩
theorem o_frameFunction_9 : InsB md_frameFunction 9 (.if_icmp .ge 9) 3 12 (9) 18 := ⟨by decide +kernel, rfl, by decide, by decide⟩
theorem o_frameFunction_12 : InsA md_frameFunction 12 (.iload_n 1) 1 13 := ⟨by decide +kernel, rfl⟩
theorem o_frameFunction_13 : InsA md_frameFunction 13 (.bipush 16) 2 15 := ⟨by decide +kernel, rfl⟩
theorem o_frameFunction_15 : InsB md_frameFunction 15 (.if_icmp .lt 5) 3 18 (5) 20 := ⟨by decide +kernel, rfl, by decide, by decide⟩
theorem o_frameFunction_18 : InsA md_frameFunction 18 (.iconst (-1)) 1 19 := ⟨by decide +kernel, rfl⟩
theorem o_frameFunction_19 : InsA md_frameFunction 19 (.ireturn) 1 20 := ⟨by decide +kernel, rfl⟩
theorem o_frameFunction_20 : InsA md_frameFunction 20 (.aload_n 0) 1 21 := ⟨by decide +kernel, rfl⟩
theorem o_frameFunction_21 : InsA md_frameFunction 21 (.getfield 22) 3 24 := ⟨by decide +kernel, rfl⟩
theorem o_frameFunction_24 : InsA md_frameFunction 24 (.iload_n 1) 1 25 := ⟨by decide +kernel, rfl⟩
theorem o_frameFunction_25 : InsA md_frameFunction 25 (.iaload) 1 26 := ⟨by decide +kernel, rfl⟩
theorem o_frameFunction_26 : InsA md_frameFunction 26 (.ireturn) 1 27 := ⟨by decide +kernel, rfl⟩
abbrev md_pushQuery : MD := (⟨"ContextProfiler", "pushQuery", "(I)Z"⟩, prog_1_method_26_code, 2, some .boolean, { frames := 0, cells := 0, slots := 0, locals := 0 }, 0)
theorem cv_pushQuery {Z : State} {a0 : Array Value} (H : OK Z a0) : CalV Z a0 md_pushQuery 1 := ⟨pn_ContextProfiler, by decide, pd__I_Z, H.w 170 rfl, H.w 172 rfl, H.w 2 rfl, Or.inl ⟨H.w 169 rfl, H.w 171 rfl⟩⟩
theorem o_pushQuery_0 : InsA md_pushQuery 0 (.iload_n 1) 1 1 := ⟨by decide +kernel, rfl⟩
theorem o_pushQuery_1 : InsB md_pushQuery 1 (.ifCond .lt 18) 3 4 (18) 19 := ⟨by decide +kernel, rfl, by decide, by decide⟩
theorem o_pushQuery_4 : InsA md_pushQuery 4 (.iload_n 1) 1 5 := ⟨by decide +kernel, rfl⟩
theorem o_pushQuery_5 : InsA md_pushQuery 5 (.bipush 7) 2 7 := ⟨by decide +kernel, rfl⟩
theorem o_pushQuery_7 : InsB md_pushQuery 7 (.if_icmp .gt 12) 3 10 (12) 19 := ⟨by decide +kernel, rfl, by decide, by decide⟩
theorem o_pushQuery_10 : InsA md_pushQuery 10 (.aload_n 0) 1 11 := ⟨by decide +kernel, rfl⟩
theorem o_pushQuery_11 : InsA md_pushQuery 11 (.getfield 99) 3 14 := ⟨by decide +kernel, rfl⟩
theorem o_pushQuery_14 : InsA md_pushQuery 14 (.bipush 16) 2 16 := ⟨by decide +kernel, rfl⟩
theorem o_pushQuery_16 : InsB md_pushQuery 16 (.if_icmp .lt 5) 3 19 (5) 21 := ⟨by decide +kernel, rfl, by decide, by decide⟩
theorem o_pushQuery_19 : InsA md_pushQuery 19 (.iconst 0) 1 20 := ⟨by decide +kernel, rfl⟩
theorem o_pushQuery_20 : InsA md_pushQuery 20 (.ireturn) 1 21 := ⟨by decide +kernel, rfl⟩
theorem o_pushQuery_21 : InsA md_pushQuery 21 (.aload_n 0) 1 22 := ⟨by decide +kernel, rfl⟩
theorem o_pushQuery_22 : InsA md_pushQuery 22 (.getfield 55) 3 25 := ⟨by decide +kernel, rfl⟩
theorem o_pushQuery_25 : InsA md_pushQuery 25 (.aload_n 0) 1 26 := ⟨by decide +kernel, rfl⟩
theorem o_pushQuery_26 : InsA md_pushQuery 26 (.getfield 99) 3 29 := ⟨by decide +kernel, rfl⟩
theorem o_pushQuery_29 : InsA md_pushQuery 29 (.iload_n 1) 1 30 := ⟨by decide +kernel, rfl⟩
theorem o_pushQuery_30 : InsA md_pushQuery 30 (.iastore) 1 31 := ⟨by decide +kernel, rfl⟩
theorem o_pushQuery_31 : InsA md_pushQuery 31 (.aload_n 0) 1 32 := ⟨by decide +kernel, rfl⟩
theorem o_pushQuery_32 : InsA md_pushQuery 32 (.dup) 1 33 := ⟨by decide +kernel, rfl⟩
theorem o_pushQuery_33 : InsA md_pushQuery 33 (.getfield 99) 3 36 := ⟨by decide +kernel, rfl⟩
theorem o_pushQuery_36 : InsA md_pushQuery 36 (.iconst 1) 1 37 := ⟨by decide +kernel, rfl⟩
theorem o_pushQuery_37 : InsA md_pushQuery 37 (.iadd) 1 38 := ⟨by decide +kernel, rfl⟩
theorem o_pushQuery_38 : InsA md_pushQuery 38 (.putfield 99) 3 41 := ⟨by decide +kernel, rfl⟩
theorem o_pushQuery_41 : InsA md_pushQuery 41 (.iconst 1) 1 42 := ⟨by decide +kernel, rfl⟩
theorem o_pushQuery_42 : InsA md_pushQuery 42 (.ireturn) 1 43 := ⟨by decide +kernel, rfl⟩
abbrev md_self : MD := (⟨"ContextProfiler", "self", "()I"⟩, prog_1_method_29_code, 2, some .int, { frames := 2, cells := 0, slots := 0, locals := 30 }, 0)
theorem cv_self {Z : State} {a0 : Array Value} (H : OK Z a0) : CalV Z a0 md_self 0 := ⟨pn_ContextProfiler, by decide, pd___I, H.w 175 rfl, H.w 177 rfl, H.w 2 rfl, Or.inl ⟨H.w 174 rfl, H.w 176 rfl⟩⟩
theorem o_self_0 : InsA md_self 0 (.aload_n 0) 1 1 := ⟨by decide +kernel, rfl⟩
theorem o_self_1 : InsA md_self 1 (.invokevirtual 170) 3 4 := ⟨by decide +kernel, rfl⟩
theorem o_self_4 : InsA md_self 4 (.istore_n 1) 1 5 := ⟨by decide +kernel, rfl⟩
theorem o_self_5 : InsA md_self 5 (.iload_n 1) 1 6 := ⟨by decide +kernel, rfl⟩
theorem o_self_6 : InsB md_self 6 (.ifCond .ge 7) 3 9 (7) 13 := ⟨by decide +kernel, rfl, by decide, by decide⟩
theorem o_self_9 : InsA md_self 9 (.iconst (-1)) 1 10 := ⟨by decide +kernel, rfl⟩
theorem o_self_10 : InsB md_self 10 (.goto 9) 3 13 (9) 19 := ⟨by decide +kernel, rfl, by decide, by decide⟩
theorem o_self_13 : InsA md_self 13 (.aload_n 0) 1 14 := ⟨by decide +kernel, rfl⟩
theorem o_self_14 : InsA md_self 14 (.getfield 37) 3 17 := ⟨by decide +kernel, rfl⟩
theorem o_self_17 : InsA md_self 17 (.iload_n 1) 1 18 := ⟨by decide +kernel, rfl⟩
theorem o_self_18 : InsA md_self 18 (.iaload) 1 19 := ⟨by decide +kernel, rfl⟩
theorem o_self_19 : InsA md_self 19 (.ireturn) 1 20 := ⟨by decide +kernel, rfl⟩
abbrev md_queryInstrNode : MD := (⟨"ContextProfiler", "queryInstrNode", "()I"⟩, prog_1_method_27_code, 4, some .int, { frames := 1, cells := 0, slots := 0, locals := 15 }, 0)
theorem cv_queryInstrNode {Z : State} {a0 : Array Value} (H : OK Z a0) : CalV Z a0 md_queryInstrNode 0 := ⟨pn_ContextProfiler, by decide, pd___I, H.w 179 rfl, H.w 181 rfl, H.w 2 rfl, Or.inr ⟨H.w 180 rfl, 30, H.w 1 rfl⟩⟩
theorem o_queryInstrNode_0 : InsA md_queryInstrNode 0 (.aload_n 0) 1 1 := ⟨by decide +kernel, rfl⟩
theorem o_queryInstrNode_1 : InsA md_queryInstrNode 1 (.getfield 99) 3 4 := ⟨by decide +kernel, rfl⟩
theorem o_queryInstrNode_4 : InsB md_queryInstrNode 4 (.ifCond .le 12) 3 7 (12) 16 := ⟨by decide +kernel, rfl, by decide, by decide⟩
theorem o_queryInstrNode_7 : InsA md_queryInstrNode 7 (.aload_n 0) 1 8 := ⟨by decide +kernel, rfl⟩
theorem o_queryInstrNode_8 : InsA md_queryInstrNode 8 (.getfield 55) 3 11 := ⟨by decide +kernel, rfl⟩
theorem o_queryInstrNode_11 : InsA md_queryInstrNode 11 (.iconst 0) 1 12 := ⟨by decide +kernel, rfl⟩
theorem o_queryInstrNode_12 : InsA md_queryInstrNode 12 (.iaload) 1 13 := ⟨by decide +kernel, rfl⟩
theorem o_queryInstrNode_13 : InsB md_queryInstrNode 13 (.ifCond .eq 5) 3 16 (5) 18 := ⟨by decide +kernel, rfl, by decide, by decide⟩
theorem o_queryInstrNode_16 : InsA md_queryInstrNode 16 (.iconst (-1)) 1 17 := ⟨by decide +kernel, rfl⟩
theorem o_queryInstrNode_17 : InsA md_queryInstrNode 17 (.ireturn) 1 18 := ⟨by decide +kernel, rfl⟩
theorem o_queryInstrNode_18 : InsA md_queryInstrNode 18 (.iconst 0) 1 19 := ⟨by decide +kernel, rfl⟩
theorem o_queryInstrNode_19 : InsA md_queryInstrNode 19 (.istore_n 1) 1 20 := ⟨by decide +kernel, rfl⟩
theorem o_queryInstrNode_20 : InsA md_queryInstrNode 20 (.iconst 1) 1 21 := ⟨by decide +kernel, rfl⟩
theorem o_queryInstrNode_21 : InsA md_queryInstrNode 21 (.istore_n 2) 1 22 := ⟨by decide +kernel, rfl⟩
theorem o_queryInstrNode_22 : InsA md_queryInstrNode 22 (.iload_n 2) 1 23 := ⟨by decide +kernel, rfl⟩
theorem o_queryInstrNode_23 : InsA md_queryInstrNode 23 (.aload_n 0) 1 24 := ⟨by decide +kernel, rfl⟩
theorem o_queryInstrNode_24 : InsA md_queryInstrNode 24 (.getfield 99) 3 27 := ⟨by decide +kernel, rfl⟩
theorem o_queryInstrNode_27 : InsB md_queryInstrNode 27 (.if_icmp .ge 29) 3 30 (29) 56 := ⟨by decide +kernel, rfl, by decide, by decide⟩
theorem o_queryInstrNode_30 : InsA md_queryInstrNode 30 (.aload_n 0) 1 31 := ⟨by decide +kernel, rfl⟩
theorem o_queryInstrNode_31 : InsA md_queryInstrNode 31 (.getfield 55) 3 34 := ⟨by decide +kernel, rfl⟩
theorem o_queryInstrNode_34 : InsA md_queryInstrNode 34 (.iload_n 2) 1 35 := ⟨by decide +kernel, rfl⟩
theorem o_queryInstrNode_35 : InsA md_queryInstrNode 35 (.iaload) 1 36 := ⟨by decide +kernel, rfl⟩
theorem o_queryInstrNode_36 : InsA md_queryInstrNode 36 (.istore_n 3) 1 37 := ⟨by decide +kernel, rfl⟩
theorem o_queryInstrNode_37 : InsA md_queryInstrNode 37 (.aload_n 0) 1 38 := ⟨by decide +kernel, rfl⟩
theorem o_queryInstrNode_38 : InsA md_queryInstrNode 38 (.iload_n 1) 1 39 := ⟨by decide +kernel, rfl⟩
theorem o_queryInstrNode_39 : InsA md_queryInstrNode 39 (.iload_n 3) 1 40 := ⟨by decide +kernel, rfl⟩
theorem o_queryInstrNode_40 : InsA md_queryInstrNode 40 (.invokevirtual 147) 3 43 := ⟨by decide +kernel, rfl⟩
theorem o_queryInstrNode_43 : InsA md_queryInstrNode 43 (.istore_n 1) 1 44 := ⟨by decide +kernel, rfl⟩
theorem o_queryInstrNode_44 : InsA md_queryInstrNode 44 (.iload_n 1) 1 45 := ⟨by decide +kernel, rfl⟩
theorem o_queryInstrNode_45 : InsB md_queryInstrNode 45 (.ifCond .ge 5) 3 48 (5) 50 := ⟨by decide +kernel, rfl, by decide, by decide⟩
theorem o_queryInstrNode_48 : InsA md_queryInstrNode 48 (.iconst (-1)) 1 49 := ⟨by decide +kernel, rfl⟩
theorem o_queryInstrNode_49 : InsA md_queryInstrNode 49 (.ireturn) 1 50 := ⟨by decide +kernel, rfl⟩
theorem o_queryInstrNode_50 : InsA md_queryInstrNode 50 (.iinc 2 1) 3 53 := ⟨by decide +kernel, rfl⟩
theorem o_queryInstrNode_53 : InsB md_queryInstrNode 53 (.goto (-31)) 3 56 (-31) 22 := ⟨by decide +kernel, rfl, by decide, by decide⟩
theorem o_queryInstrNode_56 : InsA md_queryInstrNode 56 (.iload_n 1) 1 57 := ⟨by decide +kernel, rfl⟩
theorem o_queryInstrNode_57 : InsA md_queryInstrNode 57 (.ireturn) 1 58 := ⟨by decide +kernel, rfl⟩
abbrev md_inclusive : MD := (⟨"ContextProfiler", "inclusive", "()I"⟩, prog_1_method_30_code, 2, some .int, { frames := 2, cells := 0, slots := 0, locals := 30 }, 0)
theorem cv_inclusive {Z : State} {a0 : Array Value} (H : OK Z a0) : CalV Z a0 md_inclusive 0 := ⟨pn_ContextProfiler, by decide, pd___I, H.w 184 rfl, H.w 186 rfl, H.w 2 rfl, Or.inl ⟨H.w 183 rfl, H.w 185 rfl⟩⟩
theorem o_inclusive_0 : InsA md_inclusive 0 (.aload_n 0) 1 1 := ⟨by decide +kernel, rfl⟩
theorem o_inclusive_1 : InsA md_inclusive 1 (.invokevirtual 170) 3 4 := ⟨by decide +kernel, rfl⟩
theorem o_inclusive_4 : InsA md_inclusive 4 (.istore_n 1) 1 5 := ⟨by decide +kernel, rfl⟩
theorem o_inclusive_5 : InsA md_inclusive 5 (.iload_n 1) 1 6 := ⟨by decide +kernel, rfl⟩
theorem o_inclusive_6 : InsB md_inclusive 6 (.ifCond .ge 7) 3 9 (7) 13 := ⟨by decide +kernel, rfl, by decide, by decide⟩
theorem o_inclusive_9 : InsA md_inclusive 9 (.iconst (-1)) 1 10 := ⟨by decide +kernel, rfl⟩
theorem o_inclusive_10 : InsB md_inclusive 10 (.goto 9) 3 13 (9) 19 := ⟨by decide +kernel, rfl, by decide, by decide⟩
theorem o_inclusive_13 : InsA md_inclusive 13 (.aload_n 0) 1 14 := ⟨by decide +kernel, rfl⟩
theorem o_inclusive_14 : InsA md_inclusive 14 (.getfield 40) 3 17 := ⟨by decide +kernel, rfl⟩
theorem o_inclusive_17 : InsA md_inclusive 17 (.iload_n 1) 1 18 := ⟨by decide +kernel, rfl⟩
theorem o_inclusive_18 : InsA md_inclusive 18 (.iaload) 1 19 := ⟨by decide +kernel, rfl⟩
theorem o_inclusive_19 : InsA md_inclusive 19 (.ireturn) 1 20 := ⟨by decide +kernel, rfl⟩
abbrev md_lost : MD := (⟨"ContextProfiler", "lost", "()I"⟩, prog_1_method_31_code, 2, some .int, { frames := 2, cells := 0, slots := 0, locals := 30 }, 0)
theorem cv_lost {Z : State} {a0 : Array Value} (H : OK Z a0) : CalV Z a0 md_lost 0 := ⟨pn_ContextProfiler, by decide, pd___I, H.w 189 rfl, H.w 191 rfl, H.w 2 rfl, Or.inl ⟨H.w 188 rfl, H.w 190 rfl⟩⟩
theorem o_lost_0 : InsA md_lost 0 (.aload_n 0) 1 1 := ⟨by decide +kernel, rfl⟩
theorem o_lost_1 : InsA md_lost 1 (.invokevirtual 170) 3 4 := ⟨by decide +kernel, rfl⟩
theorem o_lost_4 : InsA md_lost 4 (.istore_n 1) 1 5 := ⟨by decide +kernel, rfl⟩
theorem o_lost_5 : InsA md_lost 5 (.iload_n 1) 1 6 := ⟨by decide +kernel, rfl⟩
theorem o_lost_6 : InsB md_lost 6 (.ifCond .ge 7) 3 9 (7) 13 := ⟨by decide +kernel, rfl, by decide, by decide⟩
theorem o_lost_9 : InsA md_lost 9 (.iconst (-1)) 1 10 := ⟨by decide +kernel, rfl⟩
theorem o_lost_10 : InsB md_lost 10 (.goto 9) 3 13 (9) 19 := ⟨by decide +kernel, rfl, by decide, by decide⟩
theorem o_lost_13 : InsA md_lost 13 (.aload_n 0) 1 14 := ⟨by decide +kernel, rfl⟩
theorem o_lost_14 : InsA md_lost 14 (.getfield 43) 3 17 := ⟨by decide +kernel, rfl⟩
theorem o_lost_17 : InsA md_lost 17 (.iload_n 1) 1 18 := ⟨by decide +kernel, rfl⟩
theorem o_lost_18 : InsA md_lost 18 (.iaload) 1 19 := ⟨by decide +kernel, rfl⟩
theorem o_lost_19 : InsA md_lost 19 (.ireturn) 1 20 := ⟨by decide +kernel, rfl⟩
abbrev md_sampledSelf : MD := (⟨"ContextProfiler", "sampledSelf", "()I"⟩, prog_1_method_32_code, 2, some .int, { frames := 2, cells := 0, slots := 0, locals := 30 }, 0)
theorem cv_sampledSelf {Z : State} {a0 : Array Value} (H : OK Z a0) : CalV Z a0 md_sampledSelf 0 := ⟨pn_ContextProfiler, by decide, pd___I, H.w 194 rfl, H.w 196 rfl, H.w 2 rfl, Or.inl ⟨H.w 193 rfl, H.w 195 rfl⟩⟩
theorem o_sampledSelf_0 : InsA md_sampledSelf 0 (.aload_n 0) 1 1 := ⟨by decide +kernel, rfl⟩
theorem o_sampledSelf_1 : InsA md_sampledSelf 1 (.invokevirtual 173) 3 4 := ⟨by decide +kernel, rfl⟩
theorem o_sampledSelf_4 : InsA md_sampledSelf 4 (.istore_n 1) 1 5 := ⟨by decide +kernel, rfl⟩
theorem o_sampledSelf_5 : InsA md_sampledSelf 5 (.iload_n 1) 1 6 := ⟨by decide +kernel, rfl⟩
theorem o_sampledSelf_6 : InsB md_sampledSelf 6 (.ifCond .ge 7) 3 9 (7) 13 := ⟨by decide +kernel, rfl, by decide, by decide⟩
theorem o_sampledSelf_9 : InsA md_sampledSelf 9 (.iconst (-1)) 1 10 := ⟨by decide +kernel, rfl⟩
theorem o_sampledSelf_10 : InsB md_sampledSelf 10 (.goto 9) 3 13 (9) 19 := ⟨by decide +kernel, rfl, by decide, by decide⟩
theorem o_sampledSelf_13 : InsA md_sampledSelf 13 (.aload_n 0) 1 14 := ⟨by decide +kernel, rfl⟩
theorem o_sampledSelf_14 : InsA md_sampledSelf 14 (.getfield 52) 3 17 := ⟨by decide +kernel, rfl⟩
theorem o_sampledSelf_17 : InsA md_sampledSelf 17 (.iload_n 1) 1 18 := ⟨by decide +kernel, rfl⟩
theorem o_sampledSelf_18 : InsA md_sampledSelf 18 (.iaload) 1 19 := ⟨by decide +kernel, rfl⟩
theorem o_sampledSelf_19 : InsA md_sampledSelf 19 (.ireturn) 1 20 := ⟨by decide +kernel, rfl⟩
abbrev md_querySampledNode : MD := (⟨"ContextProfiler", "querySampledNode", "()I"⟩, prog_1_method_28_code, 4, some .int, { frames := 1, cells := 0, slots := 0, locals := 15 }, 0)
theorem cv_querySampledNode {Z : State} {a0 : Array Value} (H : OK Z a0) : CalV Z a0 md_querySampledNode 0 := ⟨pn_ContextProfiler, by decide, pd___I, H.w 198 rfl, H.w 200 rfl, H.w 2 rfl, Or.inr ⟨H.w 199 rfl, 30, H.w 1 rfl⟩⟩
theorem o_querySampledNode_0 : InsA md_querySampledNode 0 (.aload_n 0) 1 1 := ⟨by decide +kernel, rfl⟩
theorem o_querySampledNode_1 : InsA md_querySampledNode 1 (.getfield 99) 3 4 := ⟨by decide +kernel, rfl⟩
theorem o_querySampledNode_4 : InsB md_querySampledNode 4 (.ifCond .le 12) 3 7 (12) 16 := ⟨by decide +kernel, rfl, by decide, by decide⟩
theorem o_querySampledNode_7 : InsA md_querySampledNode 7 (.aload_n 0) 1 8 := ⟨by decide +kernel, rfl⟩
theorem o_querySampledNode_8 : InsA md_querySampledNode 8 (.getfield 55) 3 11 := ⟨by decide +kernel, rfl⟩
theorem o_querySampledNode_11 : InsA md_querySampledNode 11 (.iconst 0) 1 12 := ⟨by decide +kernel, rfl⟩
theorem o_querySampledNode_12 : InsA md_querySampledNode 12 (.iaload) 1 13 := ⟨by decide +kernel, rfl⟩
theorem o_querySampledNode_13 : InsB md_querySampledNode 13 (.ifCond .eq 5) 3 16 (5) 18 := ⟨by decide +kernel, rfl, by decide, by decide⟩
theorem o_querySampledNode_16 : InsA md_querySampledNode 16 (.iconst (-1)) 1 17 := ⟨by decide +kernel, rfl⟩
theorem o_querySampledNode_17 : InsA md_querySampledNode 17 (.ireturn) 1 18 := ⟨by decide +kernel, rfl⟩
theorem o_querySampledNode_18 : InsA md_querySampledNode 18 (.iconst 0) 1 19 := ⟨by decide +kernel, rfl⟩
theorem o_querySampledNode_19 : InsA md_querySampledNode 19 (.istore_n 1) 1 20 := ⟨by decide +kernel, rfl⟩
theorem o_querySampledNode_20 : InsA md_querySampledNode 20 (.iconst 1) 1 21 := ⟨by decide +kernel, rfl⟩
theorem o_querySampledNode_21 : InsA md_querySampledNode 21 (.istore_n 2) 1 22 := ⟨by decide +kernel, rfl⟩
theorem o_querySampledNode_22 : InsA md_querySampledNode 22 (.iload_n 2) 1 23 := ⟨by decide +kernel, rfl⟩
theorem o_querySampledNode_23 : InsA md_querySampledNode 23 (.aload_n 0) 1 24 := ⟨by decide +kernel, rfl⟩
theorem o_querySampledNode_24 : InsA md_querySampledNode 24 (.getfield 99) 3 27 := ⟨by decide +kernel, rfl⟩
theorem o_querySampledNode_27 : InsB md_querySampledNode 27 (.if_icmp .ge 29) 3 30 (29) 56 := ⟨by decide +kernel, rfl, by decide, by decide⟩
theorem o_querySampledNode_30 : InsA md_querySampledNode 30 (.aload_n 0) 1 31 := ⟨by decide +kernel, rfl⟩
theorem o_querySampledNode_31 : InsA md_querySampledNode 31 (.getfield 55) 3 34 := ⟨by decide +kernel, rfl⟩
theorem o_querySampledNode_34 : InsA md_querySampledNode 34 (.iload_n 2) 1 35 := ⟨by decide +kernel, rfl⟩
theorem o_querySampledNode_35 : InsA md_querySampledNode 35 (.iaload) 1 36 := ⟨by decide +kernel, rfl⟩
theorem o_querySampledNode_36 : InsA md_querySampledNode 36 (.istore_n 3) 1 37 := ⟨by decide +kernel, rfl⟩
theorem o_querySampledNode_37 : InsA md_querySampledNode 37 (.aload_n 0) 1 38 := ⟨by decide +kernel, rfl⟩
theorem o_querySampledNode_38 : InsA md_querySampledNode 38 (.iload_n 1) 1 39 := ⟨by decide +kernel, rfl⟩
theorem o_querySampledNode_39 : InsA md_querySampledNode 39 (.iload_n 3) 1 40 := ⟨by decide +kernel, rfl⟩
theorem o_querySampledNode_40 : InsA md_querySampledNode 40 (.invokevirtual 164) 3 43 := ⟨by decide +kernel, rfl⟩
theorem o_querySampledNode_43 : InsA md_querySampledNode 43 (.istore_n 1) 1 44 := ⟨by decide +kernel, rfl⟩
theorem o_querySampledNode_44 : InsA md_querySampledNode 44 (.iload_n 1) 1 45 := ⟨by decide +kernel, rfl⟩
theorem o_querySampledNode_45 : InsB md_querySampledNode 45 (.ifCond .ge 5) 3 48 (5) 50 := ⟨by decide +kernel, rfl, by decide, by decide⟩
theorem o_querySampledNode_48 : InsA md_querySampledNode 48 (.iconst (-1)) 1 49 := ⟨by decide +kernel, rfl⟩
theorem o_querySampledNode_49 : InsA md_querySampledNode 49 (.ireturn) 1 50 := ⟨by decide +kernel, rfl⟩
theorem o_querySampledNode_50 : InsA md_querySampledNode 50 (.iinc 2 1) 3 53 := ⟨by decide +kernel, rfl⟩
theorem o_querySampledNode_53 : InsB md_querySampledNode 53 (.goto (-31)) 3 56 (-31) 22 := ⟨by decide +kernel, rfl, by decide, by decide⟩
theorem o_querySampledNode_56 : InsA md_querySampledNode 56 (.iload_n 1) 1 57 := ⟨by decide +kernel, rfl⟩
theorem o_querySampledNode_57 : InsA md_querySampledNode 57 (.ireturn) 1 58 := ⟨by decide +kernel, rfl⟩
abbrev md_L_law : MD := (x, code, maxLocals, ret, room_1, 17)
theorem o_L_law_0 : InsA md_L_law 0 (.iconst 1) 1 1 := ⟨at_0, rfl⟩
theorem o_L_law_1 : InsA md_L_law 1 (.iload 5) 2 3 := ⟨at_1, rfl⟩
theorem o_L_law_3 : InsA md_L_law 3 (.bipush 7) 2 5 := ⟨at_3, rfl⟩
theorem o_L_law_5 : InsA md_L_law 5 (.iand) 1 6 := ⟨at_5, rfl⟩
theorem o_L_law_6 : InsA md_L_law 6 (.bipush 7) 2 8 := ⟨at_6, rfl⟩
theorem o_L_law_8 : InsA md_L_law 8 (.irem) 1 9 := ⟨at_8, rfl⟩
theorem o_L_law_9 : InsA md_L_law 9 (.iadd) 1 10 := ⟨at_9, rfl⟩
theorem o_L_law_10 : InsA md_L_law 10 (.istore 6) 2 12 := ⟨at_10, rfl⟩
theorem o_L_law_12 : InsA md_L_law 12 (.iload_n 1) 1 13 := ⟨at_12, rfl⟩
theorem o_L_law_13 : InsA md_L_law 13 (.iconst 1) 1 14 := ⟨at_13, rfl⟩
theorem o_L_law_14 : InsB md_L_law 14 (.if_icmp .ge 7) 3 17 (7) 21 := ⟨at_14, rfl, by decide, by decide⟩
theorem o_L_law_17 : InsA md_L_law 17 (.iconst 1) 1 18 := ⟨at_17, rfl⟩
theorem o_L_law_18 : InsB md_L_law 18 (.goto 15) 3 21 (15) 33 := ⟨at_18, rfl, by decide, by decide⟩
theorem o_L_law_21 : InsA md_L_law 21 (.iload_n 1) 1 22 := ⟨at_21, rfl⟩
theorem o_L_law_22 : InsA md_L_law 22 (.bipush 16) 2 24 := ⟨at_22, rfl⟩
theorem o_L_law_24 : InsB md_L_law 24 (.if_icmp .le 8) 3 27 (8) 32 := ⟨at_24, rfl, by decide, by decide⟩
theorem o_L_law_27 : InsA md_L_law 27 (.bipush 16) 2 29 := ⟨at_27, rfl⟩
theorem o_L_law_29 : InsB md_L_law 29 (.goto 4) 3 32 (4) 33 := ⟨at_29, rfl, by decide, by decide⟩
theorem o_L_law_32 : InsA md_L_law 32 (.iload_n 1) 1 33 := ⟨at_32, rfl⟩
theorem o_L_law_33 : InsA md_L_law 33 (.istore 7) 2 35 := ⟨at_33, rfl⟩
theorem o_L_law_35 : InsA md_L_law 35 (.new 7) 3 38 := ⟨at_35, rfl⟩
theorem o_L_law_38 : InsA md_L_law 38 (.dup) 1 39 := ⟨at_38, rfl⟩
theorem o_L_law_39 : InsA md_L_law 39 (.iload_n 0) 1 40 := ⟨at_39, rfl⟩
theorem o_L_law_40 : InsA md_L_law 40 (.iload_n 1) 1 41 := ⟨at_40, rfl⟩
theorem o_L_law_41 : InsA md_L_law 41 (.iload_n 2) 1 42 := ⟨at_41, rfl⟩
theorem o_L_law_42 : InsA md_L_law 42 (.invokespecial 9) 3 45 := ⟨at_42, rfl⟩
theorem o_L_law_45 : InsA md_L_law 45 (.astore 8) 2 47 := ⟨at_45, rfl⟩
theorem o_L_law_47 : InsA md_L_law 47 (.aload 8) 2 49 := ⟨at_47, rfl⟩
theorem o_L_law_49 : InsA md_L_law 49 (.iconst 1) 1 50 := ⟨at_49, rfl⟩
theorem o_L_law_50 : InsA md_L_law 50 (.iload_n 3) 1 51 := ⟨at_50, rfl⟩
theorem o_L_law_51 : InsA md_L_law 51 (.invokevirtual 12) 3 54 := ⟨at_51, rfl⟩
theorem o_L_law_54 : InsA md_L_law 54 (.pop) 1 55 := ⟨at_54, rfl⟩
theorem o_L_law_55 : InsA md_L_law 55 (.aload 8) 2 57 := ⟨at_55, rfl⟩
theorem o_L_law_57 : InsA md_L_law 57 (.bipush 8) 2 59 := ⟨at_57, rfl⟩
theorem o_L_law_59 : InsA md_L_law 59 (.iload 6) 2 61 := ⟨at_59, rfl⟩
theorem o_L_law_61 : InsA md_L_law 61 (.invokevirtual 12) 3 64 := ⟨at_61, rfl⟩
theorem o_L_law_64 : InsA md_L_law 64 (.pop) 1 65 := ⟨at_64, rfl⟩
theorem o_L_law_65 : InsA md_L_law 65 (.aload 8) 2 67 := ⟨at_65, rfl⟩
theorem o_L_law_67 : InsA md_L_law 67 (.bipush 10) 2 69 := ⟨at_67, rfl⟩
theorem o_L_law_69 : InsA md_L_law 69 (.iconst 0) 1 70 := ⟨at_69, rfl⟩
theorem o_L_law_70 : InsA md_L_law 70 (.invokevirtual 12) 3 73 := ⟨at_70, rfl⟩
theorem o_L_law_73 : InsA md_L_law 73 (.pop) 1 74 := ⟨at_73, rfl⟩
theorem o_L_law_74 : InsA md_L_law 74 (.aload 8) 2 76 := ⟨at_74, rfl⟩
theorem o_L_law_76 : InsA md_L_law 76 (.iconst 1) 1 77 := ⟨at_76, rfl⟩
theorem o_L_law_77 : InsA md_L_law 77 (.iload 4) 2 79 := ⟨at_77, rfl⟩
theorem o_L_law_79 : InsA md_L_law 79 (.invokevirtual 12) 3 82 := ⟨at_79, rfl⟩
theorem o_L_law_82 : InsA md_L_law 82 (.pop) 1 83 := ⟨at_82, rfl⟩
theorem o_L_law_83 : InsA md_L_law 83 (.aload 8) 2 85 := ⟨at_83, rfl⟩
theorem o_L_law_85 : InsA md_L_law 85 (.iconst 2) 1 86 := ⟨at_85, rfl⟩
theorem o_L_law_86 : InsA md_L_law 86 (.iconst 0) 1 87 := ⟨at_86, rfl⟩
theorem o_L_law_87 : InsA md_L_law 87 (.invokevirtual 12) 3 90 := ⟨at_87, rfl⟩
theorem o_L_law_90 : InsA md_L_law 90 (.pop) 1 91 := ⟨at_90, rfl⟩
theorem o_L_law_91 : InsA md_L_law 91 (.aload 8) 2 93 := ⟨at_91, rfl⟩
theorem o_L_law_93 : InsA md_L_law 93 (.bipush 9) 2 95 := ⟨at_93, rfl⟩
theorem o_L_law_95 : InsA md_L_law 95 (.iconst 0) 1 96 := ⟨at_95, rfl⟩
theorem o_L_law_96 : InsA md_L_law 96 (.invokevirtual 12) 3 99 := ⟨at_96, rfl⟩
theorem o_L_law_99 : InsA md_L_law 99 (.pop) 1 100 := ⟨at_99, rfl⟩
theorem o_L_law_100 : InsA md_L_law 100 (.aload 8) 2 102 := ⟨at_100, rfl⟩
theorem o_L_law_102 : InsA md_L_law 102 (.iconst 0) 1 103 := ⟨at_102, rfl⟩
theorem o_L_law_103 : InsA md_L_law 103 (.iconst 0) 1 104 := ⟨at_103, rfl⟩
theorem o_L_law_104 : InsA md_L_law 104 (.invokevirtual 16) 3 107 := ⟨at_104, rfl⟩
theorem o_L_law_107 : InsB md_L_law 107 (.ifCond .ne 5) 3 110 (5) 112 := ⟨at_107, rfl, by decide, by decide⟩
theorem o_L_law_110 : InsA md_L_law 110 (.iconst 0) 1 111 := ⟨at_110, rfl⟩
theorem o_L_law_111 : InsA md_L_law 111 (.ireturn) 1 112 := ⟨at_111, rfl⟩
theorem o_L_law_112 : InsA md_L_law 112 (.aload 8) 2 114 := ⟨at_112, rfl⟩
theorem o_L_law_114 : InsA md_L_law 114 (.iload 6) 2 116 := ⟨at_114, rfl⟩
theorem o_L_law_116 : InsA md_L_law 116 (.iconst 3) 1 117 := ⟨at_116, rfl⟩
theorem o_L_law_117 : InsA md_L_law 117 (.invokevirtual 16) 3 120 := ⟨at_117, rfl⟩
theorem o_L_law_120 : InsB md_L_law 120 (.ifCond .ne 5) 3 123 (5) 125 := ⟨at_120, rfl, by decide, by decide⟩
theorem o_L_law_123 : InsA md_L_law 123 (.iconst 0) 1 124 := ⟨at_123, rfl⟩
theorem o_L_law_124 : InsA md_L_law 124 (.ireturn) 1 125 := ⟨at_124, rfl⟩
theorem o_L_law_125 : InsA md_L_law 125 (.aload 8) 2 127 := ⟨at_125, rfl⟩
theorem o_L_law_127 : InsA md_L_law 127 (.bipush 100) 2 129 := ⟨at_127, rfl⟩
theorem o_L_law_129 : InsA md_L_law 129 (.invokevirtual 20) 3 132 := ⟨at_129, rfl⟩
theorem o_L_law_132 : InsA md_L_law 132 (.bipush 6) 2 134 := ⟨at_132, rfl⟩
theorem o_L_law_134 : InsB md_L_law 134 (.if_icmp .eq 5) 3 137 (5) 139 := ⟨at_134, rfl, by decide, by decide⟩
theorem o_L_law_137 : InsA md_L_law 137 (.iconst 0) 1 138 := ⟨at_137, rfl⟩
theorem o_L_law_138 : InsA md_L_law 138 (.ireturn) 1 139 := ⟨at_138, rfl⟩
theorem o_L_law_139 : InsA md_L_law 139 (.iconst 0) 1 140 := ⟨at_139, rfl⟩
theorem o_L_law_140 : InsA md_L_law 140 (.istore 9) 2 142 := ⟨at_140, rfl⟩
theorem o_L_law_142 : InsA md_L_law 142 (.iconst 0) 1 143 := ⟨at_142, rfl⟩
theorem o_L_law_143 : InsA md_L_law 143 (.istore 10) 2 145 := ⟨at_143, rfl⟩
theorem o_L_law_145 : InsA md_L_law 145 (.iconst 1) 1 146 := ⟨at_145, rfl⟩
theorem o_L_law_146 : InsA md_L_law 146 (.istore 11) 2 148 := ⟨at_146, rfl⟩
theorem o_L_law_148 : InsA md_L_law 148 (.iload 11) 2 150 := ⟨at_148, rfl⟩
theorem o_L_law_150 : InsA md_L_law 150 (.bipush 6) 2 152 := ⟨at_150, rfl⟩
theorem o_L_law_152 : InsB md_L_law 152 (.if_icmp .gt 38) 3 155 (38) 190 := ⟨at_152, rfl, by decide, by decide⟩
theorem o_L_law_155 : InsA md_L_law 155 (.iload 11) 2 157 := ⟨at_155, rfl⟩
theorem o_L_law_157 : InsA md_L_law 157 (.iload 7) 2 159 := ⟨at_157, rfl⟩
theorem o_L_law_159 : InsA md_L_law 159 (.irem) 1 160 := ⟨at_159, rfl⟩
theorem o_L_law_160 : InsB md_L_law 160 (.ifCond .ne 24) 3 163 (24) 184 := ⟨at_160, rfl, by decide, by decide⟩
theorem o_L_law_163 : InsA md_L_law 163 (.iload 11) 2 165 := ⟨at_163, rfl⟩
theorem o_L_law_165 : InsA md_L_law 165 (.iconst 3) 1 166 := ⟨at_165, rfl⟩
theorem o_L_law_166 : InsB md_L_law 166 (.if_icmp .lt 15) 3 169 (15) 181 := ⟨at_166, rfl, by decide, by decide⟩
theorem o_L_law_169 : InsA md_L_law 169 (.iload 11) 2 171 := ⟨at_169, rfl⟩
theorem o_L_law_171 : InsA md_L_law 171 (.iconst 5) 1 172 := ⟨at_171, rfl⟩
theorem o_L_law_172 : InsB md_L_law 172 (.if_icmp .gt 9) 3 175 (9) 181 := ⟨at_172, rfl, by decide, by decide⟩
theorem o_L_law_175 : InsA md_L_law 175 (.iinc 10 1) 3 178 := ⟨at_175, rfl⟩
theorem o_L_law_178 : InsB md_L_law 178 (.goto 6) 3 181 (6) 184 := ⟨at_178, rfl, by decide, by decide⟩
theorem o_L_law_181 : InsA md_L_law 181 (.iinc 9 1) 3 184 := ⟨at_181, rfl⟩
theorem o_L_law_184 : InsA md_L_law 184 (.iinc 11 1) 3 187 := ⟨at_184, rfl⟩
theorem o_L_law_187 : InsB md_L_law 187 (.goto (-39)) 3 190 (-39) 148 := ⟨at_187, rfl, by decide, by decide⟩
theorem o_L_law_190 : InsA md_L_law 190 (.aload 8) 2 192 := ⟨at_190, rfl⟩
theorem o_L_law_192 : InsA md_L_law 192 (.iconst 0) 1 193 := ⟨at_192, rfl⟩
theorem o_L_law_193 : InsA md_L_law 193 (.invokevirtual 24) 3 196 := ⟨at_193, rfl⟩
theorem o_L_law_196 : InsA md_L_law 196 (.iconst 2) 1 197 := ⟨at_196, rfl⟩
theorem o_L_law_197 : InsB md_L_law 197 (.if_icmp .eq 5) 3 200 (5) 202 := ⟨at_197, rfl, by decide, by decide⟩
theorem o_L_law_200 : InsA md_L_law 200 (.iconst 0) 1 201 := ⟨at_200, rfl⟩
theorem o_L_law_201 : InsA md_L_law 201 (.ireturn) 1 202 := ⟨at_201, rfl⟩
theorem o_L_law_202 : InsA md_L_law 202 (.aload 8) 2 204 := ⟨at_202, rfl⟩
theorem o_L_law_204 : InsA md_L_law 204 (.iconst 1) 1 205 := ⟨at_204, rfl⟩
theorem o_L_law_205 : InsA md_L_law 205 (.invokevirtual 24) 3 208 := ⟨at_205, rfl⟩
theorem o_L_law_208 : InsA md_L_law 208 (.bipush 6) 2 210 := ⟨at_208, rfl⟩
theorem o_L_law_210 : InsB md_L_law 210 (.if_icmp .eq 5) 3 213 (5) 215 := ⟨at_210, rfl, by decide, by decide⟩
theorem o_L_law_213 : InsA md_L_law 213 (.iconst 0) 1 214 := ⟨at_213, rfl⟩
theorem o_L_law_214 : InsA md_L_law 214 (.ireturn) 1 215 := ⟨at_214, rfl⟩
theorem o_L_law_215 : InsA md_L_law 215 (.aload 8) 2 217 := ⟨at_215, rfl⟩
theorem o_L_law_217 : InsA md_L_law 217 (.iconst 2) 1 218 := ⟨at_217, rfl⟩
theorem o_L_law_218 : InsA md_L_law 218 (.invokevirtual 24) 3 221 := ⟨at_218, rfl⟩
theorem o_L_law_221 : InsA md_L_law 221 (.iconst 2) 1 222 := ⟨at_221, rfl⟩
theorem o_L_law_222 : InsB md_L_law 222 (.if_icmp .eq 5) 3 225 (5) 227 := ⟨at_222, rfl, by decide, by decide⟩
theorem o_L_law_225 : InsA md_L_law 225 (.iconst 0) 1 226 := ⟨at_225, rfl⟩
theorem o_L_law_226 : InsA md_L_law 226 (.ireturn) 1 227 := ⟨at_226, rfl⟩
theorem o_L_law_227 : InsA md_L_law 227 (.aload 8) 2 229 := ⟨at_227, rfl⟩
theorem o_L_law_229 : InsA md_L_law 229 (.iconst 3) 1 230 := ⟨at_229, rfl⟩
theorem o_L_law_230 : InsA md_L_law 230 (.invokevirtual 24) 3 233 := ⟨at_230, rfl⟩
theorem o_L_law_233 : InsB md_L_law 233 (.ifCond .eq 5) 3 236 (5) 238 := ⟨at_233, rfl, by decide, by decide⟩
theorem o_L_law_236 : InsA md_L_law 236 (.iconst 0) 1 237 := ⟨at_236, rfl⟩
theorem o_L_law_237 : InsA md_L_law 237 (.ireturn) 1 238 := ⟨at_237, rfl⟩
theorem o_L_law_238 : InsA md_L_law 238 (.aload 8) 2 240 := ⟨at_238, rfl⟩
theorem o_L_law_240 : InsA md_L_law 240 (.iconst 4) 1 241 := ⟨at_240, rfl⟩
theorem o_L_law_241 : InsA md_L_law 241 (.invokevirtual 24) 3 244 := ⟨at_241, rfl⟩
theorem o_L_law_244 : InsA md_L_law 244 (.bipush 6) 2 246 := ⟨at_244, rfl⟩
theorem o_L_law_246 : InsA md_L_law 246 (.iload 7) 2 248 := ⟨at_246, rfl⟩
theorem o_L_law_248 : InsA md_L_law 248 (.idiv) 1 249 := ⟨at_248, rfl⟩
theorem o_L_law_249 : InsB md_L_law 249 (.if_icmp .eq 5) 3 252 (5) 254 := ⟨at_249, rfl, by decide, by decide⟩
theorem o_L_law_252 : InsA md_L_law 252 (.iconst 0) 1 253 := ⟨at_252, rfl⟩
theorem o_L_law_253 : InsA md_L_law 253 (.ireturn) 1 254 := ⟨at_253, rfl⟩
theorem o_L_law_254 : InsA md_L_law 254 (.aload 8) 2 256 := ⟨at_254, rfl⟩
theorem o_L_law_256 : InsA md_L_law 256 (.iconst 5) 1 257 := ⟨at_256, rfl⟩
theorem o_L_law_257 : InsA md_L_law 257 (.invokevirtual 24) 3 260 := ⟨at_257, rfl⟩
theorem o_L_law_260 : InsA md_L_law 260 (.iload 10) 2 262 := ⟨at_260, rfl⟩
theorem o_L_law_262 : InsB md_L_law 262 (.ifCond .le 7) 3 265 (7) 269 := ⟨at_262, rfl, by decide, by decide⟩
theorem o_L_law_265 : InsA md_L_law 265 (.iconst 2) 1 266 := ⟨at_265, rfl⟩
theorem o_L_law_266 : InsB md_L_law 266 (.goto 4) 3 269 (4) 270 := ⟨at_266, rfl, by decide, by decide⟩
theorem o_L_law_269 : InsA md_L_law 269 (.iconst 1) 1 270 := ⟨at_269, rfl⟩
theorem o_L_law_270 : InsB md_L_law 270 (.if_icmp .eq 5) 3 273 (5) 275 := ⟨at_270, rfl, by decide, by decide⟩
theorem o_L_law_273 : InsA md_L_law 273 (.iconst 0) 1 274 := ⟨at_273, rfl⟩
theorem o_L_law_274 : InsA md_L_law 274 (.ireturn) 1 275 := ⟨at_274, rfl⟩
theorem o_L_law_275 : InsA md_L_law 275 (.aload 8) 2 277 := ⟨at_275, rfl⟩
theorem o_L_law_277 : InsA md_L_law 277 (.bipush 6) 2 279 := ⟨at_277, rfl⟩
theorem o_L_law_279 : InsA md_L_law 279 (.invokevirtual 24) 3 282 := ⟨at_279, rfl⟩
theorem o_L_law_282 : InsB md_L_law 282 (.ifCond .eq 5) 3 285 (5) 287 := ⟨at_282, rfl, by decide, by decide⟩
theorem o_L_law_285 : InsA md_L_law 285 (.iconst 0) 1 286 := ⟨at_285, rfl⟩
theorem o_L_law_286 : InsA md_L_law 286 (.ireturn) 1 287 := ⟨at_286, rfl⟩
theorem o_L_law_287 : InsA md_L_law 287 (.aload 8) 2 289 := ⟨at_287, rfl⟩
theorem o_L_law_289 : InsA md_L_law 289 (.bipush 7) 2 291 := ⟨at_289, rfl⟩
theorem o_L_law_291 : InsA md_L_law 291 (.invokevirtual 24) 3 294 := ⟨at_291, rfl⟩
theorem o_L_law_294 : InsA md_L_law 294 (.iconst 1) 1 295 := ⟨at_294, rfl⟩
theorem o_L_law_295 : InsB md_L_law 295 (.if_icmp .eq 5) 3 298 (5) 300 := ⟨at_295, rfl, by decide, by decide⟩
theorem o_L_law_298 : InsA md_L_law 298 (.iconst 0) 1 299 := ⟨at_298, rfl⟩
theorem o_L_law_299 : InsA md_L_law 299 (.ireturn) 1 300 := ⟨at_299, rfl⟩
theorem o_L_law_300 : InsA md_L_law 300 (.aload 8) 2 302 := ⟨at_300, rfl⟩
theorem o_L_law_302 : InsA md_L_law 302 (.bipush 8) 2 304 := ⟨at_302, rfl⟩
theorem o_L_law_304 : InsA md_L_law 304 (.invokevirtual 24) 3 307 := ⟨at_304, rfl⟩
theorem o_L_law_307 : InsA md_L_law 307 (.iconst 2) 1 308 := ⟨at_307, rfl⟩
theorem o_L_law_308 : InsB md_L_law 308 (.if_icmp .eq 5) 3 311 (5) 313 := ⟨at_308, rfl, by decide, by decide⟩
theorem o_L_law_311 : InsA md_L_law 311 (.iconst 0) 1 312 := ⟨at_311, rfl⟩
theorem o_L_law_312 : InsA md_L_law 312 (.ireturn) 1 313 := ⟨at_312, rfl⟩
theorem o_L_law_313 : InsA md_L_law 313 (.aload 8) 2 315 := ⟨at_313, rfl⟩
theorem o_L_law_315 : InsA md_L_law 315 (.bipush 9) 2 317 := ⟨at_315, rfl⟩
theorem o_L_law_317 : InsA md_L_law 317 (.invokevirtual 24) 3 320 := ⟨at_317, rfl⟩
theorem o_L_law_320 : InsA md_L_law 320 (.iconst 1) 1 321 := ⟨at_320, rfl⟩
theorem o_L_law_321 : InsB md_L_law 321 (.if_icmp .eq 5) 3 324 (5) 326 := ⟨at_321, rfl, by decide, by decide⟩
theorem o_L_law_324 : InsA md_L_law 324 (.iconst 0) 1 325 := ⟨at_324, rfl⟩
theorem o_L_law_325 : InsA md_L_law 325 (.ireturn) 1 326 := ⟨at_325, rfl⟩
theorem o_L_law_326 : InsA md_L_law 326 (.aload 8) 2 328 := ⟨at_326, rfl⟩
theorem o_L_law_328 : InsA md_L_law 328 (.bipush 10) 2 330 := ⟨at_328, rfl⟩
theorem o_L_law_330 : InsA md_L_law 330 (.invokevirtual 24) 3 333 := ⟨at_330, rfl⟩
theorem o_L_law_333 : InsA md_L_law 333 (.iload_n 3) 1 334 := ⟨at_333, rfl⟩
theorem o_L_law_334 : InsA md_L_law 334 (.iload 4) 2 336 := ⟨at_334, rfl⟩
theorem o_L_law_336 : InsA md_L_law 336 (.iadd) 1 337 := ⟨at_336, rfl⟩
theorem o_L_law_337 : InsB md_L_law 337 (.if_icmp .eq 5) 3 340 (5) 342 := ⟨at_337, rfl, by decide, by decide⟩
theorem o_L_law_340 : InsA md_L_law 340 (.iconst 0) 1 341 := ⟨at_340, rfl⟩
theorem o_L_law_341 : InsA md_L_law 341 (.ireturn) 1 342 := ⟨at_341, rfl⟩
theorem o_L_law_342 : InsA md_L_law 342 (.aload 8) 2 344 := ⟨at_342, rfl⟩
theorem o_L_law_344 : InsA md_L_law 344 (.iconst 0) 1 345 := ⟨at_344, rfl⟩
theorem o_L_law_345 : InsA md_L_law 345 (.invokevirtual 27) 3 348 := ⟨at_345, rfl⟩
theorem o_L_law_348 : InsB md_L_law 348 (.ifCond .eq 5) 3 351 (5) 353 := ⟨at_348, rfl, by decide, by decide⟩
theorem o_L_law_351 : InsA md_L_law 351 (.iconst 0) 1 352 := ⟨at_351, rfl⟩
theorem o_L_law_352 : InsA md_L_law 352 (.ireturn) 1 353 := ⟨at_352, rfl⟩
theorem o_L_law_353 : InsA md_L_law 353 (.aload 8) 2 355 := ⟨at_353, rfl⟩
theorem o_L_law_355 : InsA md_L_law 355 (.iconst 0) 1 356 := ⟨at_355, rfl⟩
theorem o_L_law_356 : InsA md_L_law 356 (.invokevirtual 30) 3 359 := ⟨at_356, rfl⟩
theorem o_L_law_359 : InsA md_L_law 359 (.pop) 1 360 := ⟨at_359, rfl⟩
theorem o_L_law_360 : InsA md_L_law 360 (.aload 8) 2 362 := ⟨at_360, rfl⟩
theorem o_L_law_362 : InsA md_L_law 362 (.invokevirtual 34) 3 365 := ⟨at_362, rfl⟩
theorem o_L_law_365 : InsA md_L_law 365 (.iconst 3) 1 366 := ⟨at_365, rfl⟩
theorem o_L_law_366 : InsB md_L_law 366 (.if_icmp .ne 21) 3 369 (21) 387 := ⟨at_366, rfl, by decide, by decide⟩
theorem o_L_law_369 : InsA md_L_law 369 (.aload 8) 2 371 := ⟨at_369, rfl⟩
theorem o_L_law_371 : InsA md_L_law 371 (.invokevirtual 38) 3 374 := ⟨at_371, rfl⟩
theorem o_L_law_374 : InsA md_L_law 374 (.bipush 6) 2 376 := ⟨at_374, rfl⟩
theorem o_L_law_376 : InsB md_L_law 376 (.if_icmp .ne 11) 3 379 (11) 387 := ⟨at_376, rfl, by decide, by decide⟩
theorem o_L_law_379 : InsA md_L_law 379 (.aload 8) 2 381 := ⟨at_379, rfl⟩
theorem o_L_law_381 : InsA md_L_law 381 (.invokevirtual 41) 3 384 := ⟨at_381, rfl⟩
theorem o_L_law_384 : InsB md_L_law 384 (.ifCond .eq 5) 3 387 (5) 389 := ⟨at_384, rfl, by decide, by decide⟩
theorem o_L_law_387 : InsA md_L_law 387 (.iconst 0) 1 388 := ⟨at_387, rfl⟩
theorem o_L_law_388 : InsA md_L_law 388 (.ireturn) 1 389 := ⟨at_388, rfl⟩
theorem o_L_law_389 : InsA md_L_law 389 (.aload 8) 2 391 := ⟨at_389, rfl⟩
theorem o_L_law_391 : InsA md_L_law 391 (.invokevirtual 44) 3 394 := ⟨at_391, rfl⟩
theorem o_L_law_394 : InsA md_L_law 394 (.iload 9) 2 396 := ⟨at_394, rfl⟩
theorem o_L_law_396 : InsB md_L_law 396 (.if_icmp .eq 5) 3 399 (5) 401 := ⟨at_396, rfl, by decide, by decide⟩
theorem o_L_law_399 : InsA md_L_law 399 (.iconst 0) 1 400 := ⟨at_399, rfl⟩
theorem o_L_law_400 : InsA md_L_law 400 (.ireturn) 1 401 := ⟨at_400, rfl⟩
theorem o_L_law_401 : InsA md_L_law 401 (.aload 8) 2 403 := ⟨at_401, rfl⟩
theorem o_L_law_403 : InsA md_L_law 403 (.iload 6) 2 405 := ⟨at_403, rfl⟩
theorem o_L_law_405 : InsA md_L_law 405 (.invokevirtual 30) 3 408 := ⟨at_405, rfl⟩
theorem o_L_law_408 : InsA md_L_law 408 (.pop) 1 409 := ⟨at_408, rfl⟩
theorem o_L_law_409 : InsA md_L_law 409 (.aload 8) 2 411 := ⟨at_409, rfl⟩
theorem o_L_law_411 : InsA md_L_law 411 (.invokevirtual 34) 3 414 := ⟨at_411, rfl⟩
theorem o_L_law_414 : InsA md_L_law 414 (.iconst 3) 1 415 := ⟨at_414, rfl⟩
theorem o_L_law_415 : InsB md_L_law 415 (.if_icmp .ne 20) 3 418 (20) 435 := ⟨at_415, rfl, by decide, by decide⟩
theorem o_L_law_418 : InsA md_L_law 418 (.aload 8) 2 420 := ⟨at_418, rfl⟩
theorem o_L_law_420 : InsA md_L_law 420 (.invokevirtual 38) 3 423 := ⟨at_420, rfl⟩
theorem o_L_law_423 : InsA md_L_law 423 (.iconst 3) 1 424 := ⟨at_423, rfl⟩
theorem o_L_law_424 : InsB md_L_law 424 (.if_icmp .ne 11) 3 427 (11) 435 := ⟨at_424, rfl, by decide, by decide⟩
theorem o_L_law_427 : InsA md_L_law 427 (.aload 8) 2 429 := ⟨at_427, rfl⟩
theorem o_L_law_429 : InsA md_L_law 429 (.invokevirtual 41) 3 432 := ⟨at_429, rfl⟩
theorem o_L_law_432 : InsB md_L_law 432 (.ifCond .eq 5) 3 435 (5) 437 := ⟨at_432, rfl, by decide, by decide⟩
theorem o_L_law_435 : InsA md_L_law 435 (.iconst 0) 1 436 := ⟨at_435, rfl⟩
theorem o_L_law_436 : InsA md_L_law 436 (.ireturn) 1 437 := ⟨at_436, rfl⟩
theorem o_L_law_437 : InsA md_L_law 437 (.aload 8) 2 439 := ⟨at_437, rfl⟩
theorem o_L_law_439 : InsA md_L_law 439 (.invokevirtual 44) 3 442 := ⟨at_439, rfl⟩
theorem o_L_law_442 : InsA md_L_law 442 (.iload 10) 2 444 := ⟨at_442, rfl⟩
theorem o_L_law_444 : InsB md_L_law 444 (.ifCond .le 8) 3 447 (8) 452 := ⟨at_444, rfl, by decide, by decide⟩
theorem o_L_law_447 : InsA md_L_law 447 (.iload 10) 2 449 := ⟨at_447, rfl⟩
theorem o_L_law_449 : InsB md_L_law 449 (.goto 4) 3 452 (4) 453 := ⟨at_449, rfl, by decide, by decide⟩
theorem o_L_law_452 : InsA md_L_law 452 (.iconst (-1)) 1 453 := ⟨at_452, rfl⟩
theorem o_L_law_453 : InsB md_L_law 453 (.if_icmp .ne 7) 3 456 (7) 460 := ⟨at_453, rfl, by decide, by decide⟩
theorem o_L_law_456 : InsA md_L_law 456 (.iconst 1) 1 457 := ⟨at_456, rfl⟩
theorem o_L_law_457 : InsB md_L_law 457 (.goto 4) 3 460 (4) 461 := ⟨at_457, rfl, by decide, by decide⟩
theorem o_L_law_460 : InsA md_L_law 460 (.iconst 0) 1 461 := ⟨at_460, rfl⟩
theorem o_L_law_461 : InsA md_L_law 461 (.ireturn) 1 462 := ⟨at_461, rfl⟩
theorem gd {c : Prop} [Decidable c] {α : Type} {x : Option α} {r : α} (h : (if c then x else none) = some r) : c ∧ x = some r := by
  by_cases q : c
  · rw [if_pos q] at h; exact ⟨q, h⟩
  · rw [if_neg q] at h; cases h
theorem ifp {c : Prop} [Decidable c] {α : Type} {x y z : α} (q : c) (h : (if c then x else y) = z) : x = z := by rw [if_pos q] at h; exact h
theorem ifn {c : Prop} [Decidable c] {α : Type} {x y z : α} (q : ¬ c) (h : (if c then x else y) = z) : y = z := by rw [if_neg q] at h; exact h
theorem getD_some {α : Type} {o : Option α} {d r : α} (h : o = some r) : o.getD d = r := by rw [h]; rfl
set_option maxRecDepth 65536 in
set_option maxHeartbeats 4000000 in
theorem wp_clamp {l : Launch} {Z : State} {a0 : Array Value} (H : OK Z a0) (F : Nat → Int32) (G : Nat → Int64) (A : Nat → Int32 → Int32) (B : Nat → Int32 → Int64) (p1 : Int32) (p2 : Int32) (p3 : Int32) {Q : Option Value → WO → Prop} (h3 : ¬ p1 < p2 → ¬ p3 < p1 → Q (some (.int p1)) (16, F, G, A, B)) (h4 : ¬ p1 < p2 → p3 < p1 → Q (some (.int p3)) (16, F, G, A, B)) (h5 : p1 < p2 → Q (some (.int p2)) (16, F, G, A, B)) :
    Wk l Z (MoC Z cdC) md_clamp 0 [.val (.ref 0), .val (.int p1), .val (.int p2), .val (.int p3)] [] (16, F, G, A, B) 0 0 Q := by
  refine Wk.iloadN o_clamp_0 rfl ?_
  refine Wk.iloadN o_clamp_1 rfl ?_
  refine Wk.icmp_ge o_clamp_2 (fun q1 => ?_) (fun q1 => ?_)
  · refine Wk.iloadN o_clamp_7 rfl ?_
    refine Wk.iloadN o_clamp_8 rfl ?_
    refine Wk.icmp_le o_clamp_9 (fun q2 => ?_) (fun q2 => ?_)
    · refine Wk.iloadN o_clamp_14 rfl ?_
      exact Wk.ireturn mrC rfl o_clamp_15 rfl (by decide) (by decide) (h3 q1 q2)
    · refine Wk.iloadN o_clamp_12 rfl ?_
      exact Wk.ireturn mrC rfl o_clamp_13 rfl (by decide) (by decide) (h4 q1 q2)
  · refine Wk.iloadN o_clamp_5 rfl ?_
    exact Wk.ireturn mrC rfl o_clamp_6 rfl (by decide) (by decide) (h5 q1)

def f_clamp (p1 : Int32) (p2 : Int32) (p3 : Int32) : Int32 := (if p1 < p2 then p2 else (if p3 < p1 then p3 else p1))
theorem e_clamp (p1 : Int32) (p2 : Int32) (p3 : Int32) : f_clamp p1 p2 p3 = (if p1 < p2 then p2 else (if p3 < p1 then p3 else p1)) := Eq.trans rfl rfl
theorem run_clamp {l : Launch} {Z : State} {a0 : Array Value} (H : OK Z a0) (F : Nat → Int32) (G : Nat → Int64) (A : Nat → Int32 → Int32) (B : Nat → Int32 → Int64) (p1 : Int32) (p2 : Int32) (p3 : Int32) :
    Wk l Z (MoC Z cdC) md_clamp 0 [.val (.ref 0), .val (.int p1), .val (.int p2), .val (.int p3)] [] (16, F, G, A, B) 0 0 (fun v w' => v = some (.int (f_clamp p1 p2 p3)) ∧ w' = (16, F, G, A, B)) :=
  wp_clamp H F G A B p1 p2 p3 (fun q1 q2 => ⟨by simp only [e_clamp, if_neg q1, if_neg q2], rfl⟩) (fun q1 q2 => ⟨by simp only [e_clamp, if_neg q1, if_pos q2], rfl⟩) (fun q1 => ⟨by simp only [e_clamp, if_pos q1], rfl⟩)
set_option maxRecDepth 65536 in
set_option maxHeartbeats 4000000 in
theorem wp_clearTrees {l : Launch} {Z : State} {a0 : Array Value} (H : OK Z a0) (F : Nat → Int32) (G : Nat → Int64) (A : Nat → Int32 → Int32) (B : Nat → Int32 → Int64) {Q : Option Value → WO → Prop} (h1 : Wk l Z (MoC Z cdC) md_clearTrees 2 [.val (.ref 0), .val (.int (0 : Int32))] [] (16, F, G, A, B) 0 0 Q) :
    Wk l Z (MoC Z cdC) md_clearTrees 0 [.val (.ref 0), .unset] [] (16, F, G, A, B) 0 0 Q := by
  refine Wk.iconst o_clearTrees_0 (z := (0 : Int32)) (by decide) ?_
  refine Wk.istoreN o_clearTrees_1 (Or.inl rfl) (L' := [.val (.ref 0), .val (.int (0 : Int32))]) rfl ?_
  exact h1

set_option maxRecDepth 65536 in
set_option maxHeartbeats 4000000 in
theorem wp_clearTrees_2 {l : Launch} {Z : State} {a0 : Array Value} (H : OK Z a0) (F : Nat → Int32) (G : Nat → Int64) (A : Nat → Int32 → Int32) (B : Nat → Int32 → Int64) (v1 : Int32) {Q : Option Value → WO → Prop} (h2 : ¬ v1 < (32 : Int32) → Q none (16, (ups (ups F 12 (1 : Int32)) 13 (1 : Int32)), G, A, B)) (s3 : v1 < (32 : Int32) → ¬ v1 < 0) (h4 : v1 < (32 : Int32) → Wk l Z (MoC Z cdC) md_clearTrees 2 [.val (.ref 0), .val (.int (v1 + (1 : Int32)))] [] (16, F, G, (ups (ups (ups (ups (ups (ups (ups (ups A 7 (ups (A 7) v1 (-1 : Int32))) 8 (ups (A 8) v1 (0 : Int32))) 9 (ups (A 9) v1 (0 : Int32))) 10 (ups (A 10) v1 (0 : Int32))) 11 (ups (A 11) v1 (0 : Int32))) 12 (ups (A 12) v1 (-1 : Int32))) 13 (ups (A 13) v1 (0 : Int32))) 14 (ups (A 14) v1 (0 : Int32))), B) 0 0 Q) :
    Wk l Z (MoC Z cdC) md_clearTrees 2 [.val (.ref 0), .val (.int v1)] [] (16, F, G, A, B) 0 0 Q := by
  refine Wk.iloadN o_clearTrees_2 rfl ?_
  refine Wk.bipush o_clearTrees_3 (z := (32 : Int32)) (by decide) ?_
  refine Wk.icmp_ge o_clearTrees_5 (fun q1 => ?_) (fun q1 => ?_)
  · refine Wk.aloadN o_clearTrees_70 rfl ?_
    refine Wk.iconst o_clearTrees_71 (z := (1 : Int32)) (by decide) ?_
    refine Wk.putI (coC H) (mI_iCount) (wf_iCount H) (Or.inl (wy_iCount H)) o_clearTrees_72 ?_
    refine Wk.aloadN o_clearTrees_75 rfl ?_
    refine Wk.iconst o_clearTrees_76 (z := (1 : Int32)) (by decide) ?_
    refine Wk.putI (coC H) (mI_sCount) (wf_sCount H) (Or.inl (wy_sCount H)) o_clearTrees_77 ?_
    exact Wk.ret mrC rfl o_clearTrees_80 rfl (by decide) (by decide) (h2 q1)
  · refine Wk.aloadN o_clearTrees_8 rfl ?_
    refine Wk.getA (mA_iParent) (by decide) (i' := 8) rfl (wf_iParent H) o_clearTrees_9 ?_
    refine Wk.iloadN o_clearTrees_12 rfl ?_
    refine Wk.iconst o_clearTrees_13 (z := (-1 : Int32)) (by decide) ?_
    refine Wk.iastore (coC H) (f := (A 7)) (mA_iParent) rfl (by decide) (i' := 8) rfl (s3 q1) q1 o_clearTrees_14 ?_
    refine Wk.aloadN o_clearTrees_15 rfl ?_
    refine Wk.getA (mA_iFunc) (by decide) (i' := 9) rfl (wf_iFunc H) o_clearTrees_16 ?_
    refine Wk.iloadN o_clearTrees_19 rfl ?_
    refine Wk.iconst o_clearTrees_20 (z := (0 : Int32)) (by decide) ?_
    refine Wk.iastore (coC H) (f := (A 8)) (mA_iFunc) rfl (by decide) (i' := 9) rfl (s3 q1) q1 o_clearTrees_21 ?_
    refine Wk.aloadN o_clearTrees_22 rfl ?_
    refine Wk.getA (mA_iSelf) (by decide) (i' := 10) rfl (wf_iSelf H) o_clearTrees_23 ?_
    refine Wk.iloadN o_clearTrees_26 rfl ?_
    refine Wk.iconst o_clearTrees_27 (z := (0 : Int32)) (by decide) ?_
    refine Wk.iastore (coC H) (f := (A 9)) (mA_iSelf) rfl (by decide) (i' := 10) rfl (s3 q1) q1 o_clearTrees_28 ?_
    refine Wk.aloadN o_clearTrees_29 rfl ?_
    refine Wk.getA (mA_iIncl) (by decide) (i' := 11) rfl (wf_iIncl H) o_clearTrees_30 ?_
    refine Wk.iloadN o_clearTrees_33 rfl ?_
    refine Wk.iconst o_clearTrees_34 (z := (0 : Int32)) (by decide) ?_
    refine Wk.iastore (coC H) (f := (A 10)) (mA_iIncl) rfl (by decide) (i' := 11) rfl (s3 q1) q1 o_clearTrees_35 ?_
    refine Wk.aloadN o_clearTrees_36 rfl ?_
    refine Wk.getA (mA_iLost) (by decide) (i' := 12) rfl (wf_iLost H) o_clearTrees_37 ?_
    refine Wk.iloadN o_clearTrees_40 rfl ?_
    refine Wk.iconst o_clearTrees_41 (z := (0 : Int32)) (by decide) ?_
    refine Wk.iastore (coC H) (f := (A 11)) (mA_iLost) rfl (by decide) (i' := 12) rfl (s3 q1) q1 o_clearTrees_42 ?_
    refine Wk.aloadN o_clearTrees_43 rfl ?_
    refine Wk.getA (mA_sParent) (by decide) (i' := 13) rfl (wf_sParent H) o_clearTrees_44 ?_
    refine Wk.iloadN o_clearTrees_47 rfl ?_
    refine Wk.iconst o_clearTrees_48 (z := (-1 : Int32)) (by decide) ?_
    refine Wk.iastore (coC H) (f := (A 12)) (mA_sParent) rfl (by decide) (i' := 13) rfl (s3 q1) q1 o_clearTrees_49 ?_
    refine Wk.aloadN o_clearTrees_50 rfl ?_
    refine Wk.getA (mA_sFunc) (by decide) (i' := 14) rfl (wf_sFunc H) o_clearTrees_51 ?_
    refine Wk.iloadN o_clearTrees_54 rfl ?_
    refine Wk.iconst o_clearTrees_55 (z := (0 : Int32)) (by decide) ?_
    refine Wk.iastore (coC H) (f := (A 13)) (mA_sFunc) rfl (by decide) (i' := 14) rfl (s3 q1) q1 o_clearTrees_56 ?_
    refine Wk.aloadN o_clearTrees_57 rfl ?_
    refine Wk.getA (mA_sSelf) (by decide) (i' := 15) rfl (wf_sSelf H) o_clearTrees_58 ?_
    refine Wk.iloadN o_clearTrees_61 rfl ?_
    refine Wk.iconst o_clearTrees_62 (z := (0 : Int32)) (by decide) ?_
    refine Wk.iastore (coC H) (f := (A 14)) (mA_sSelf) rfl (by decide) (i' := 15) rfl (s3 q1) q1 o_clearTrees_63 ?_
    refine Wk.iinc o_clearTrees_64 rfl (z := (v1 + (1 : Int32))) rfl (L' := [.val (.ref 0), .val (.int (v1 + (1 : Int32)))]) rfl ?_
    refine Wk.goto o_clearTrees_67 ?_
    exact (h4 q1)

set_option maxHeartbeats 2000000 in
theorem fl_clearTrees_2 {l : Launch} {Z : State} {a0 : Array Value} (H : OK Z a0) (F : Nat → Int32) (G : Nat → Int64) (A : Nat → Int32 → Int32) (B : Nat → Int32 → Int64) {Q : Option Value → WO → Prop} (hx : Q none (16, (ups (ups F 12 (1 : Int32)) 13 (1 : Int32)), G, (ups (ups (ups (ups (ups (ups (ups (ups A 7 (fill (A 7) 32 (-1 : Int32))) 8 (fill (A 8) 32 (0 : Int32))) 9 (fill (A 9) 32 (0 : Int32))) 10 (fill (A 10) 32 (0 : Int32))) 11 (fill (A 11) 32 (0 : Int32))) 12 (fill (A 12) 32 (-1 : Int32))) 13 (fill (A 13) 32 (0 : Int32))) 14 (fill (A 14) 32 (0 : Int32))), B)) :
    Wk l Z (MoC Z cdC) md_clearTrees 2 [.val (.ref 0), .val (.int (0 : Int32))] [] (16, F, G, A, B) 0 0 Q := by
  have key := loopUp (n := 32) (P := fun i => Wk l Z (MoC Z cdC) md_clearTrees 2 [.val (.ref 0), .val (.int i)] [] (16, F, G, (ups (ups (ups (ups (ups (ups (ups (ups A 7 (fill (A 7) i (-1 : Int32))) 8 (fill (A 8) i (0 : Int32))) 9 (fill (A 9) i (0 : Int32))) 10 (fill (A 10) i (0 : Int32))) 11 (fill (A 11) i (0 : Int32))) 12 (fill (A 12) i (-1 : Int32))) 13 (fill (A 13) i (0 : Int32))) 14 (fill (A 14) i (0 : Int32))), B) 0 0 Q)
    (wp_clearTrees_2 H F G (ups (ups (ups (ups (ups (ups (ups (ups A 7 (fill (A 7) 32 (-1 : Int32))) 8 (fill (A 8) 32 (0 : Int32))) 9 (fill (A 9) 32 (0 : Int32))) 10 (fill (A 10) 32 (0 : Int32))) 11 (fill (A 11) 32 (0 : Int32))) 12 (fill (A 12) 32 (-1 : Int32))) 13 (fill (A 13) 32 (0 : Int32))) 14 (fill (A 14) 32 (0 : Int32))) B 32 (fun _ => hx) (fun h => absurd h (by decide)) (fun h => absurd h (by decide)))
    (fun i h0 h1 ih => by
      have e : ∀ A' : Nat → Int32 → Int32, A' = (ups (ups (ups (ups (ups (ups (ups (ups A 7 (fill (A 7) (i + 1) (-1 : Int32))) 8 (fill (A 8) (i + 1) (0 : Int32))) 9 (fill (A 9) (i + 1) (0 : Int32))) 10 (fill (A 10) (i + 1) (0 : Int32))) 11 (fill (A 11) (i + 1) (0 : Int32))) 12 (fill (A 12) (i + 1) (-1 : Int32))) 13 (fill (A 13) (i + 1) (0 : Int32))) 14 (fill (A 14) (i + 1) (0 : Int32))) → Wk l Z (MoC Z cdC) md_clearTrees 2 [.val (.ref 0), .val (.int (i + 1))] [] (16, F, G, A', B) 0 0 Q := fun A' e => by subst e; exact ih
      exact wp_clearTrees_2 H F G (ups (ups (ups (ups (ups (ups (ups (ups A 7 (fill (A 7) i (-1 : Int32))) 8 (fill (A 8) i (0 : Int32))) 9 (fill (A 9) i (0 : Int32))) 10 (fill (A 10) i (0 : Int32))) 11 (fill (A 11) i (0 : Int32))) 12 (fill (A 12) i (-1 : Int32))) 13 (fill (A 13) i (0 : Int32))) 14 (fill (A 14) i (0 : Int32))) B i (fun h => absurd h1 h) (fun _ => by first | exact h0 | grind) (fun _ => e _ (by funext j x; simp only [ups, ← fill_succ _ _ h0 h1]; (repeat' split) <;> first | rfl | simp_all))) 0 (by decide) (by decide)
  simp only [fill_zero, ups_self] at key
  exact key
def F_clearTrees (F : Nat → Int32) : Nat → Int32 := (ups (ups F 12 (1 : Int32)) 13 (1 : Int32))
def A_clearTrees (A : Nat → Int32 → Int32) : Nat → Int32 → Int32 := (ups (ups (ups (ups (ups (ups (ups (ups A 7 (fill (A 7) 32 (-1 : Int32))) 8 (fill (A 8) 32 (0 : Int32))) 9 (fill (A 9) 32 (0 : Int32))) 10 (fill (A 10) 32 (0 : Int32))) 11 (fill (A 11) 32 (0 : Int32))) 12 (fill (A 12) 32 (-1 : Int32))) 13 (fill (A 13) 32 (0 : Int32))) 14 (fill (A 14) 32 (0 : Int32)))
theorem eF_clearTrees (F : Nat → Int32) : F_clearTrees F = (ups (ups F 12 (1 : Int32)) 13 (1 : Int32)) := Eq.trans rfl rfl
theorem eA_clearTrees (A : Nat → Int32 → Int32) : A_clearTrees A = (ups (ups (ups (ups (ups (ups (ups (ups A 7 (fill (A 7) 32 (-1 : Int32))) 8 (fill (A 8) 32 (0 : Int32))) 9 (fill (A 9) 32 (0 : Int32))) 10 (fill (A 10) 32 (0 : Int32))) 11 (fill (A 11) 32 (0 : Int32))) 12 (fill (A 12) 32 (-1 : Int32))) 13 (fill (A 13) 32 (0 : Int32))) 14 (fill (A 14) 32 (0 : Int32))) := Eq.trans rfl rfl
theorem run_clearTrees {l : Launch} {Z : State} {a0 : Array Value} (H : OK Z a0) (F : Nat → Int32) (G : Nat → Int64) (A : Nat → Int32 → Int32) (B : Nat → Int32 → Int64) : Wk l Z (MoC Z cdC) md_clearTrees 0 [.val (.ref 0), .unset] [] (16, F, G, A, B) 0 0 (fun v w' => v = none ∧ w' = (16, (F_clearTrees F), G, (A_clearTrees A), B)) :=
  wp_clearTrees H F G A B (fl_clearTrees_2 H F G A B ⟨rfl, rfl⟩)
theorem F_clearTrees_0 (F : Nat → Int32) : F_clearTrees F 0 = (F 0) := Eq.trans rfl rfl
theorem F_clearTrees_1 (F : Nat → Int32) : F_clearTrees F 1 = (F 1) := Eq.trans rfl rfl
theorem F_clearTrees_2 (F : Nat → Int32) : F_clearTrees F 2 = (F 2) := Eq.trans rfl rfl
theorem F_clearTrees_3 (F : Nat → Int32) : F_clearTrees F 3 = (F 3) := Eq.trans rfl rfl
theorem F_clearTrees_4 (F : Nat → Int32) : F_clearTrees F 4 = (F 4) := Eq.trans rfl rfl
theorem F_clearTrees_5 (F : Nat → Int32) : F_clearTrees F 5 = (F 5) := Eq.trans rfl rfl
theorem F_clearTrees_6 (F : Nat → Int32) : F_clearTrees F 6 = (F 6) := Eq.trans rfl rfl
theorem F_clearTrees_7 (F : Nat → Int32) : F_clearTrees F 7 = (F 7) := Eq.trans rfl rfl
theorem F_clearTrees_8 (F : Nat → Int32) : F_clearTrees F 8 = (F 8) := Eq.trans rfl rfl
theorem F_clearTrees_9 (F : Nat → Int32) : F_clearTrees F 9 = (F 9) := Eq.trans rfl rfl
theorem F_clearTrees_10 (F : Nat → Int32) : F_clearTrees F 10 = (F 10) := Eq.trans rfl rfl
theorem F_clearTrees_11 (F : Nat → Int32) : F_clearTrees F 11 = (F 11) := Eq.trans rfl rfl
theorem F_clearTrees_12 (F : Nat → Int32) : F_clearTrees F 12 = (1 : Int32) := Eq.trans rfl rfl
theorem F_clearTrees_13 (F : Nat → Int32) : F_clearTrees F 13 = (1 : Int32) := Eq.trans rfl rfl
set_option maxRecDepth 65536 in
set_option maxHeartbeats 4000000 in
theorem wp_reset {l : Launch} {Z : State} {a0 : Array Value} (H : OK Z a0) (F : Nat → Int32) (G : Nat → Int64) (A : Nat → Int32 → Int32) (B : Nat → Int32 → Int64) {Q : Option Value → WO → Prop} (h1 : Wk l Z (MoC Z cdC) md_reset 47 [.val (.ref 0), .val (.int (0 : Int32))] [] (16, (ups (ups (ups (ups (ups (ups (ups (ups (ups F 3 (0 : Int32)) 4 (0 : Int32)) 5 (0 : Int32)) 6 (0 : Int32)) 7 (0 : Int32)) 8 (0 : Int32)) 9 (0 : Int32)) 10 (0 : Int32)) 11 (0 : Int32)), G, A, B) 0 0 Q) :
    Wk l Z (MoC Z cdC) md_reset 0 [.val (.ref 0), .unset] [] (16, F, G, A, B) 0 0 Q := by
  refine Wk.aloadN o_reset_0 rfl ?_
  refine Wk.iconst o_reset_1 (z := (0 : Int32)) (by decide) ?_
  refine Wk.putI (coC H) (mI_status) (wf_status H) (Or.inl (wy_status H)) o_reset_2 ?_
  refine Wk.aloadN o_reset_5 rfl ?_
  refine Wk.iconst o_reset_6 (z := (0 : Int32)) (by decide) ?_
  refine Wk.putI (coC H) (mI_codeSize) (wf_codeSize H) (Or.inl (wy_codeSize H)) o_reset_7 ?_
  refine Wk.aloadN o_reset_10 rfl ?_
  refine Wk.iconst o_reset_11 (z := (0 : Int32)) (by decide) ?_
  refine Wk.putI (coC H) (mI_pc) (wf_pc H) (Or.inl (wy_pc H)) o_reset_12 ?_
  refine Wk.aloadN o_reset_15 rfl ?_
  refine Wk.iconst o_reset_16 (z := (0 : Int32)) (by decide) ?_
  refine Wk.putI (coC H) (mI_sp) (wf_sp H) (Or.inl (wy_sp H)) o_reset_17 ?_
  refine Wk.aloadN o_reset_20 rfl ?_
  refine Wk.iconst o_reset_21 (z := (0 : Int32)) (by decide) ?_
  refine Wk.putI (coC H) (mI_depth) (wf_depth H) (Or.inl (wy_depth H)) o_reset_22 ?_
  refine Wk.aloadN o_reset_25 rfl ?_
  refine Wk.iconst o_reset_26 (z := (0 : Int32)) (by decide) ?_
  refine Wk.putI (coC H) (mI_executed) (wf_executed H) (Or.inl (wy_executed H)) o_reset_27 ?_
  refine Wk.aloadN o_reset_30 rfl ?_
  refine Wk.iconst o_reset_31 (z := (0 : Int32)) (by decide) ?_
  refine Wk.putI (coC H) (mI_overflow) (wf_overflow H) (Or.inl (wy_overflow H)) o_reset_32 ?_
  refine Wk.aloadN o_reset_35 rfl ?_
  refine Wk.iconst o_reset_36 (z := (0 : Int32)) (by decide) ?_
  refine Wk.putI (coC H) (mI_sampledOverflow) (wf_sampledOverflow H) (Or.inl (wy_sampledOverflow H)) o_reset_37 ?_
  refine Wk.aloadN o_reset_40 rfl ?_
  refine Wk.iconst o_reset_41 (z := (0 : Int32)) (by decide) ?_
  refine Wk.putI (coC H) (mI_qLen) (wf_qLen H) (Or.inl (wy_qLen H)) o_reset_42 ?_
  refine Wk.iconst o_reset_45 (z := (0 : Int32)) (by decide) ?_
  refine Wk.istoreN o_reset_46 (Or.inl rfl) (L' := [.val (.ref 0), .val (.int (0 : Int32))]) rfl ?_
  exact h1

set_option maxRecDepth 65536 in
set_option maxHeartbeats 4000000 in
theorem wp_reset_47 {l : Launch} {Z : State} {a0 : Array Value} (H : OK Z a0) (F : Nat → Int32) (G : Nat → Int64) (A : Nat → Int32 → Int32) (B : Nat → Int32 → Int64) (v1 : Int32) {Q : Option Value → WO → Prop} (h2 : ¬ v1 < (64 : Int32) → Wk l Z (MoC Z cdC) md_reset 75 [.val (.ref 0), .val (.int (0 : Int32))] [] (16, F, G, A, B) 0 0 Q) (s3 : v1 < (64 : Int32) → ¬ v1 < 0) (h4 : v1 < (64 : Int32) → Wk l Z (MoC Z cdC) md_reset 47 [.val (.ref 0), .val (.int (v1 + (1 : Int32)))] [] (16, F, G, (ups (ups A 0 (ups (A 0) v1 (0 : Int32))) 1 (ups (A 1) v1 (0 : Int32))), B) 0 0 Q) :
    Wk l Z (MoC Z cdC) md_reset 47 [.val (.ref 0), .val (.int v1)] [] (16, F, G, A, B) 0 0 Q := by
  refine Wk.iloadN o_reset_47 rfl ?_
  refine Wk.bipush o_reset_48 (z := (64 : Int32)) (by decide) ?_
  refine Wk.icmp_ge o_reset_50 (fun q1 => ?_) (fun q1 => ?_)
  · refine Wk.iconst o_reset_73 (z := (0 : Int32)) (by decide) ?_
    refine Wk.istoreN o_reset_74 (Or.inr ⟨_, rfl, rfl⟩) (L' := [.val (.ref 0), .val (.int (0 : Int32))]) rfl ?_
    exact (h2 q1)
  · refine Wk.aloadN o_reset_53 rfl ?_
    refine Wk.getA (mA_ops) (by decide) (i' := 1) rfl (wf_ops H) o_reset_54 ?_
    refine Wk.iloadN o_reset_57 rfl ?_
    refine Wk.iconst o_reset_58 (z := (0 : Int32)) (by decide) ?_
    refine Wk.iastore (coC H) (f := (A 0)) (mA_ops) rfl (by decide) (i' := 1) rfl (s3 q1) q1 o_reset_59 ?_
    refine Wk.aloadN o_reset_60 rfl ?_
    refine Wk.getA (mA_args) (by decide) (i' := 2) rfl (wf_args H) o_reset_61 ?_
    refine Wk.iloadN o_reset_64 rfl ?_
    refine Wk.iconst o_reset_65 (z := (0 : Int32)) (by decide) ?_
    refine Wk.iastore (coC H) (f := (A 1)) (mA_args) rfl (by decide) (i' := 2) rfl (s3 q1) q1 o_reset_66 ?_
    refine Wk.iinc o_reset_67 rfl (z := (v1 + (1 : Int32))) rfl (L' := [.val (.ref 0), .val (.int (v1 + (1 : Int32)))]) rfl ?_
    refine Wk.goto o_reset_70 ?_
    exact (h4 q1)

set_option maxRecDepth 65536 in
set_option maxHeartbeats 4000000 in
theorem wp_reset_75 {l : Launch} {Z : State} {a0 : Array Value} (H : OK Z a0) (F : Nat → Int32) (G : Nat → Int64) (A : Nat → Int32 → Int32) (B : Nat → Int32 → Int64) (v1 : Int32) {Q : Option Value → WO → Prop} (h2 : ¬ v1 < (8 : Int32) → Wk l Z (MoC Z cdC) md_reset 96 [.val (.ref 0), .val (.int (0 : Int32))] [] (16, F, G, A, B) 0 0 Q) (s3 : v1 < (8 : Int32) → ¬ v1 < 0) (h4 : v1 < (8 : Int32) → Wk l Z (MoC Z cdC) md_reset 75 [.val (.ref 0), .val (.int (v1 + (1 : Int32)))] [] (16, F, G, (ups A 2 (ups (A 2) v1 (-1 : Int32))), B) 0 0 Q) :
    Wk l Z (MoC Z cdC) md_reset 75 [.val (.ref 0), .val (.int v1)] [] (16, F, G, A, B) 0 0 Q := by
  refine Wk.iloadN o_reset_75 rfl ?_
  refine Wk.bipush o_reset_76 (z := (8 : Int32)) (by decide) ?_
  refine Wk.icmp_ge o_reset_78 (fun q1 => ?_) (fun q1 => ?_)
  · refine Wk.iconst o_reset_94 (z := (0 : Int32)) (by decide) ?_
    refine Wk.istoreN o_reset_95 (Or.inr ⟨_, rfl, rfl⟩) (L' := [.val (.ref 0), .val (.int (0 : Int32))]) rfl ?_
    exact (h2 q1)
  · refine Wk.aloadN o_reset_81 rfl ?_
    refine Wk.getA (mA_entries) (by decide) (i' := 3) rfl (wf_entries H) o_reset_82 ?_
    refine Wk.iloadN o_reset_85 rfl ?_
    refine Wk.iconst o_reset_86 (z := (-1 : Int32)) (by decide) ?_
    refine Wk.iastore (coC H) (f := (A 2)) (mA_entries) rfl (by decide) (i' := 3) rfl (s3 q1) q1 o_reset_87 ?_
    refine Wk.iinc o_reset_88 rfl (z := (v1 + (1 : Int32))) rfl (L' := [.val (.ref 0), .val (.int (v1 + (1 : Int32)))]) rfl ?_
    refine Wk.goto o_reset_91 ?_
    exact (h4 q1)

set_option maxRecDepth 65536 in
set_option maxHeartbeats 4000000 in
theorem wp_reset_96 {l : Launch} {Z : State} {a0 : Array Value} (H : OK Z a0) (F : Nat → Int32) (G : Nat → Int64) (A : Nat → Int32 → Int32) (B : Nat → Int32 → Int64) (v1 : Int32) {Q : Option Value → WO → Prop} (h2 : ¬ v1 < (16 : Int32) → Q none (16, (F_clearTrees F), G, (A_clearTrees A), B)) (s3 : v1 < (16 : Int32) → ¬ v1 < 0) (h4 : v1 < (16 : Int32) → Wk l Z (MoC Z cdC) md_reset 96 [.val (.ref 0), .val (.int (v1 + (1 : Int32)))] [] (16, F, G, (ups (ups (ups (ups (ups A 3 (ups (A 3) v1 (0 : Int32))) 4 (ups (A 4) v1 (0 : Int32))) 5 (ups (A 5) v1 (0 : Int32))) 6 (ups (A 6) v1 (-1 : Int32))) 15 (ups (A 15) v1 (0 : Int32))), B) 0 0 Q) :
    Wk l Z (MoC Z cdC) md_reset 96 [.val (.ref 0), .val (.int v1)] [] (16, F, G, A, B) 0 0 Q := by
  refine Wk.iloadN o_reset_96 rfl ?_
  refine Wk.bipush o_reset_97 (z := (16 : Int32)) (by decide) ?_
  refine Wk.icmp_ge o_reset_99 (fun q1 => ?_) (fun q1 => ?_)
  · refine Wk.aloadN o_reset_143 rfl ?_
    refine Wk.callU [] [] (H.w 75 rfl) (cv_clearTrees H) o_reset_144 (run_clearTrees H F G A B) (wt := 0) (cu' := 0) (su' := 0) (by decide) rfl rfl rfl rfl rfl rfl rfl ?_
    exact Wk.ret mrC rfl o_reset_147 rfl (by decide) (by decide) (h2 q1)
  · refine Wk.aloadN o_reset_102 rfl ?_
    refine Wk.getA (mA_stack) (by decide) (i' := 4) rfl (wf_stack H) o_reset_103 ?_
    refine Wk.iloadN o_reset_106 rfl ?_
    refine Wk.iconst o_reset_107 (z := (0 : Int32)) (by decide) ?_
    refine Wk.iastore (coC H) (f := (A 3)) (mA_stack) rfl (by decide) (i' := 4) rfl (s3 q1) q1 o_reset_108 ?_
    refine Wk.aloadN o_reset_109 rfl ?_
    refine Wk.getA (mA_frameFunc) (by decide) (i' := 5) rfl (wf_frameFunc H) o_reset_110 ?_
    refine Wk.iloadN o_reset_113 rfl ?_
    refine Wk.iconst o_reset_114 (z := (0 : Int32)) (by decide) ?_
    refine Wk.iastore (coC H) (f := (A 4)) (mA_frameFunc) rfl (by decide) (i' := 5) rfl (s3 q1) q1 o_reset_115 ?_
    refine Wk.aloadN o_reset_116 rfl ?_
    refine Wk.getA (mA_frameRet) (by decide) (i' := 6) rfl (wf_frameRet H) o_reset_117 ?_
    refine Wk.iloadN o_reset_120 rfl ?_
    refine Wk.iconst o_reset_121 (z := (0 : Int32)) (by decide) ?_
    refine Wk.iastore (coC H) (f := (A 5)) (mA_frameRet) rfl (by decide) (i' := 6) rfl (s3 q1) q1 o_reset_122 ?_
    refine Wk.aloadN o_reset_123 rfl ?_
    refine Wk.getA (mA_frameNode) (by decide) (i' := 7) rfl (wf_frameNode H) o_reset_124 ?_
    refine Wk.iloadN o_reset_127 rfl ?_
    refine Wk.iconst o_reset_128 (z := (-1 : Int32)) (by decide) ?_
    refine Wk.iastore (coC H) (f := (A 6)) (mA_frameNode) rfl (by decide) (i' := 7) rfl (s3 q1) q1 o_reset_129 ?_
    refine Wk.aloadN o_reset_130 rfl ?_
    refine Wk.getA (mA_query) (by decide) (i' := 16) rfl (wf_query H) o_reset_131 ?_
    refine Wk.iloadN o_reset_134 rfl ?_
    refine Wk.iconst o_reset_135 (z := (0 : Int32)) (by decide) ?_
    refine Wk.iastore (coC H) (f := (A 15)) (mA_query) rfl (by decide) (i' := 16) rfl (s3 q1) q1 o_reset_136 ?_
    refine Wk.iinc o_reset_137 rfl (z := (v1 + (1 : Int32))) rfl (L' := [.val (.ref 0), .val (.int (v1 + (1 : Int32)))]) rfl ?_
    refine Wk.goto o_reset_140 ?_
    exact (h4 q1)

set_option maxHeartbeats 2000000 in
theorem fl_reset_96 {l : Launch} {Z : State} {a0 : Array Value} (H : OK Z a0) (F : Nat → Int32) (G : Nat → Int64) (A : Nat → Int32 → Int32) (B : Nat → Int32 → Int64) {Q : Option Value → WO → Prop} (hx : Q none (16, (F_clearTrees F), G, (A_clearTrees (ups (ups (ups (ups (ups A 3 (fill (A 3) 16 (0 : Int32))) 4 (fill (A 4) 16 (0 : Int32))) 5 (fill (A 5) 16 (0 : Int32))) 6 (fill (A 6) 16 (-1 : Int32))) 15 (fill (A 15) 16 (0 : Int32)))), B)) :
    Wk l Z (MoC Z cdC) md_reset 96 [.val (.ref 0), .val (.int (0 : Int32))] [] (16, F, G, A, B) 0 0 Q := by
  have key := loopUp (n := 16) (P := fun i => Wk l Z (MoC Z cdC) md_reset 96 [.val (.ref 0), .val (.int i)] [] (16, F, G, (ups (ups (ups (ups (ups A 3 (fill (A 3) i (0 : Int32))) 4 (fill (A 4) i (0 : Int32))) 5 (fill (A 5) i (0 : Int32))) 6 (fill (A 6) i (-1 : Int32))) 15 (fill (A 15) i (0 : Int32))), B) 0 0 Q)
    (wp_reset_96 H F G (ups (ups (ups (ups (ups A 3 (fill (A 3) 16 (0 : Int32))) 4 (fill (A 4) 16 (0 : Int32))) 5 (fill (A 5) 16 (0 : Int32))) 6 (fill (A 6) 16 (-1 : Int32))) 15 (fill (A 15) 16 (0 : Int32))) B 16 (fun _ => hx) (fun h => absurd h (by decide)) (fun h => absurd h (by decide)))
    (fun i h0 h1 ih => by
      have e : ∀ A' : Nat → Int32 → Int32, A' = (ups (ups (ups (ups (ups A 3 (fill (A 3) (i + 1) (0 : Int32))) 4 (fill (A 4) (i + 1) (0 : Int32))) 5 (fill (A 5) (i + 1) (0 : Int32))) 6 (fill (A 6) (i + 1) (-1 : Int32))) 15 (fill (A 15) (i + 1) (0 : Int32))) → Wk l Z (MoC Z cdC) md_reset 96 [.val (.ref 0), .val (.int (i + 1))] [] (16, F, G, A', B) 0 0 Q := fun A' e => by subst e; exact ih
      exact wp_reset_96 H F G (ups (ups (ups (ups (ups A 3 (fill (A 3) i (0 : Int32))) 4 (fill (A 4) i (0 : Int32))) 5 (fill (A 5) i (0 : Int32))) 6 (fill (A 6) i (-1 : Int32))) 15 (fill (A 15) i (0 : Int32))) B i (fun h => absurd h1 h) (fun _ => by first | exact h0 | grind) (fun _ => e _ (by funext j x; simp only [ups, ← fill_succ _ _ h0 h1]; (repeat' split) <;> first | rfl | simp_all))) 0 (by decide) (by decide)
  simp only [fill_zero, ups_self] at key
  exact key
set_option maxHeartbeats 2000000 in
theorem fl_reset_75 {l : Launch} {Z : State} {a0 : Array Value} (H : OK Z a0) (F : Nat → Int32) (G : Nat → Int64) (A : Nat → Int32 → Int32) (B : Nat → Int32 → Int64) {Q : Option Value → WO → Prop} (hx : Wk l Z (MoC Z cdC) md_reset 96 [.val (.ref 0), .val (.int (0 : Int32))] [] (16, F, G, (ups A 2 (fill (A 2) 8 (-1 : Int32))), B) 0 0 Q) :
    Wk l Z (MoC Z cdC) md_reset 75 [.val (.ref 0), .val (.int (0 : Int32))] [] (16, F, G, A, B) 0 0 Q := by
  have key := loopUp (n := 8) (P := fun i => Wk l Z (MoC Z cdC) md_reset 75 [.val (.ref 0), .val (.int i)] [] (16, F, G, (ups A 2 (fill (A 2) i (-1 : Int32))), B) 0 0 Q)
    (wp_reset_75 H F G (ups A 2 (fill (A 2) 8 (-1 : Int32))) B 8 (fun _ => hx) (fun h => absurd h (by decide)) (fun h => absurd h (by decide)))
    (fun i h0 h1 ih => by
      have e : ∀ A' : Nat → Int32 → Int32, A' = (ups A 2 (fill (A 2) (i + 1) (-1 : Int32))) → Wk l Z (MoC Z cdC) md_reset 75 [.val (.ref 0), .val (.int (i + 1))] [] (16, F, G, A', B) 0 0 Q := fun A' e => by subst e; exact ih
      exact wp_reset_75 H F G (ups A 2 (fill (A 2) i (-1 : Int32))) B i (fun h => absurd h1 h) (fun _ => by first | exact h0 | grind) (fun _ => e _ (by funext j x; simp only [ups, ← fill_succ _ _ h0 h1]; (repeat' split) <;> first | rfl | simp_all))) 0 (by decide) (by decide)
  simp only [fill_zero, ups_self] at key
  exact key
set_option maxHeartbeats 2000000 in
theorem fl_reset_47 {l : Launch} {Z : State} {a0 : Array Value} (H : OK Z a0) (F : Nat → Int32) (G : Nat → Int64) (A : Nat → Int32 → Int32) (B : Nat → Int32 → Int64) {Q : Option Value → WO → Prop} (hx : Wk l Z (MoC Z cdC) md_reset 75 [.val (.ref 0), .val (.int (0 : Int32))] [] (16, F, G, (ups (ups A 0 (fill (A 0) 64 (0 : Int32))) 1 (fill (A 1) 64 (0 : Int32))), B) 0 0 Q) :
    Wk l Z (MoC Z cdC) md_reset 47 [.val (.ref 0), .val (.int (0 : Int32))] [] (16, F, G, A, B) 0 0 Q := by
  have key := loopUp (n := 64) (P := fun i => Wk l Z (MoC Z cdC) md_reset 47 [.val (.ref 0), .val (.int i)] [] (16, F, G, (ups (ups A 0 (fill (A 0) i (0 : Int32))) 1 (fill (A 1) i (0 : Int32))), B) 0 0 Q)
    (wp_reset_47 H F G (ups (ups A 0 (fill (A 0) 64 (0 : Int32))) 1 (fill (A 1) 64 (0 : Int32))) B 64 (fun _ => hx) (fun h => absurd h (by decide)) (fun h => absurd h (by decide)))
    (fun i h0 h1 ih => by
      have e : ∀ A' : Nat → Int32 → Int32, A' = (ups (ups A 0 (fill (A 0) (i + 1) (0 : Int32))) 1 (fill (A 1) (i + 1) (0 : Int32))) → Wk l Z (MoC Z cdC) md_reset 47 [.val (.ref 0), .val (.int (i + 1))] [] (16, F, G, A', B) 0 0 Q := fun A' e => by subst e; exact ih
      exact wp_reset_47 H F G (ups (ups A 0 (fill (A 0) i (0 : Int32))) 1 (fill (A 1) i (0 : Int32))) B i (fun h => absurd h1 h) (fun _ => by first | exact h0 | grind) (fun _ => e _ (by funext j x; simp only [ups, ← fill_succ _ _ h0 h1]; (repeat' split) <;> first | rfl | simp_all))) 0 (by decide) (by decide)
  simp only [fill_zero, ups_self] at key
  exact key
def F_reset (F : Nat → Int32) : Nat → Int32 := F_clearTrees (ups (ups (ups (ups (ups (ups (ups (ups (ups F 3 (0 : Int32)) 4 (0 : Int32)) 5 (0 : Int32)) 6 (0 : Int32)) 7 (0 : Int32)) 8 (0 : Int32)) 9 (0 : Int32)) 10 (0 : Int32)) 11 (0 : Int32))
def A_reset (A : Nat → Int32 → Int32) : Nat → Int32 → Int32 := A_clearTrees (ups (ups (ups (ups (ups (ups (ups (ups A 0 (fill (A 0) 64 (0 : Int32))) 1 (fill (A 1) 64 (0 : Int32))) 2 (fill ((ups (ups A 0 (fill (A 0) 64 (0 : Int32))) 1 (fill (A 1) 64 (0 : Int32))) 2) 8 (-1 : Int32))) 3 (fill ((ups (ups (ups A 0 (fill (A 0) 64 (0 : Int32))) 1 (fill (A 1) 64 (0 : Int32))) 2 (fill ((ups (ups A 0 (fill (A 0) 64 (0 : Int32))) 1 (fill (A 1) 64 (0 : Int32))) 2) 8 (-1 : Int32))) 3) 16 (0 : Int32))) 4 (fill ((ups (ups (ups A 0 (fill (A 0) 64 (0 : Int32))) 1 (fill (A 1) 64 (0 : Int32))) 2 (fill ((ups (ups A 0 (fill (A 0) 64 (0 : Int32))) 1 (fill (A 1) 64 (0 : Int32))) 2) 8 (-1 : Int32))) 4) 16 (0 : Int32))) 5 (fill ((ups (ups (ups A 0 (fill (A 0) 64 (0 : Int32))) 1 (fill (A 1) 64 (0 : Int32))) 2 (fill ((ups (ups A 0 (fill (A 0) 64 (0 : Int32))) 1 (fill (A 1) 64 (0 : Int32))) 2) 8 (-1 : Int32))) 5) 16 (0 : Int32))) 6 (fill ((ups (ups (ups A 0 (fill (A 0) 64 (0 : Int32))) 1 (fill (A 1) 64 (0 : Int32))) 2 (fill ((ups (ups A 0 (fill (A 0) 64 (0 : Int32))) 1 (fill (A 1) 64 (0 : Int32))) 2) 8 (-1 : Int32))) 6) 16 (-1 : Int32))) 15 (fill ((ups (ups (ups A 0 (fill (A 0) 64 (0 : Int32))) 1 (fill (A 1) 64 (0 : Int32))) 2 (fill ((ups (ups A 0 (fill (A 0) 64 (0 : Int32))) 1 (fill (A 1) 64 (0 : Int32))) 2) 8 (-1 : Int32))) 15) 16 (0 : Int32)))
theorem eF_reset (F : Nat → Int32) : F_reset F = F_clearTrees (ups (ups (ups (ups (ups (ups (ups (ups (ups F 3 (0 : Int32)) 4 (0 : Int32)) 5 (0 : Int32)) 6 (0 : Int32)) 7 (0 : Int32)) 8 (0 : Int32)) 9 (0 : Int32)) 10 (0 : Int32)) 11 (0 : Int32)) := Eq.trans rfl rfl
theorem eA_reset (A : Nat → Int32 → Int32) : A_reset A = A_clearTrees (ups (ups (ups (ups (ups (ups (ups (ups A 0 (fill (A 0) 64 (0 : Int32))) 1 (fill (A 1) 64 (0 : Int32))) 2 (fill ((ups (ups A 0 (fill (A 0) 64 (0 : Int32))) 1 (fill (A 1) 64 (0 : Int32))) 2) 8 (-1 : Int32))) 3 (fill ((ups (ups (ups A 0 (fill (A 0) 64 (0 : Int32))) 1 (fill (A 1) 64 (0 : Int32))) 2 (fill ((ups (ups A 0 (fill (A 0) 64 (0 : Int32))) 1 (fill (A 1) 64 (0 : Int32))) 2) 8 (-1 : Int32))) 3) 16 (0 : Int32))) 4 (fill ((ups (ups (ups A 0 (fill (A 0) 64 (0 : Int32))) 1 (fill (A 1) 64 (0 : Int32))) 2 (fill ((ups (ups A 0 (fill (A 0) 64 (0 : Int32))) 1 (fill (A 1) 64 (0 : Int32))) 2) 8 (-1 : Int32))) 4) 16 (0 : Int32))) 5 (fill ((ups (ups (ups A 0 (fill (A 0) 64 (0 : Int32))) 1 (fill (A 1) 64 (0 : Int32))) 2 (fill ((ups (ups A 0 (fill (A 0) 64 (0 : Int32))) 1 (fill (A 1) 64 (0 : Int32))) 2) 8 (-1 : Int32))) 5) 16 (0 : Int32))) 6 (fill ((ups (ups (ups A 0 (fill (A 0) 64 (0 : Int32))) 1 (fill (A 1) 64 (0 : Int32))) 2 (fill ((ups (ups A 0 (fill (A 0) 64 (0 : Int32))) 1 (fill (A 1) 64 (0 : Int32))) 2) 8 (-1 : Int32))) 6) 16 (-1 : Int32))) 15 (fill ((ups (ups (ups A 0 (fill (A 0) 64 (0 : Int32))) 1 (fill (A 1) 64 (0 : Int32))) 2 (fill ((ups (ups A 0 (fill (A 0) 64 (0 : Int32))) 1 (fill (A 1) 64 (0 : Int32))) 2) 8 (-1 : Int32))) 15) 16 (0 : Int32))) := Eq.trans rfl rfl
theorem run_reset {l : Launch} {Z : State} {a0 : Array Value} (H : OK Z a0) (F : Nat → Int32) (G : Nat → Int64) (A : Nat → Int32 → Int32) (B : Nat → Int32 → Int64) : Wk l Z (MoC Z cdC) md_reset 0 [.val (.ref 0), .unset] [] (16, F, G, A, B) 0 0 (fun v w' => v = none ∧ w' = (16, (F_reset F), G, (A_reset A), B)) :=
  wp_reset H F G A B (fl_reset_47 H _ G _ B (fl_reset_75 H _ G _ B (fl_reset_96 H _ G _ B ⟨rfl, rfl⟩)))
theorem F_reset_0 (F : Nat → Int32) : F_reset F 0 = (F 0) := Eq.trans rfl rfl
theorem F_reset_1 (F : Nat → Int32) : F_reset F 1 = (F 1) := Eq.trans rfl rfl
theorem F_reset_2 (F : Nat → Int32) : F_reset F 2 = (F 2) := Eq.trans rfl rfl
theorem F_reset_3 (F : Nat → Int32) : F_reset F 3 = (0 : Int32) := Eq.trans rfl rfl
theorem F_reset_4 (F : Nat → Int32) : F_reset F 4 = (0 : Int32) := Eq.trans rfl rfl
theorem F_reset_5 (F : Nat → Int32) : F_reset F 5 = (0 : Int32) := Eq.trans rfl rfl
theorem F_reset_6 (F : Nat → Int32) : F_reset F 6 = (0 : Int32) := Eq.trans rfl rfl
theorem F_reset_7 (F : Nat → Int32) : F_reset F 7 = (0 : Int32) := Eq.trans rfl rfl
theorem F_reset_8 (F : Nat → Int32) : F_reset F 8 = (0 : Int32) := Eq.trans rfl rfl
theorem F_reset_9 (F : Nat → Int32) : F_reset F 9 = (0 : Int32) := Eq.trans rfl rfl
theorem F_reset_10 (F : Nat → Int32) : F_reset F 10 = (0 : Int32) := Eq.trans rfl rfl
theorem F_reset_11 (F : Nat → Int32) : F_reset F 11 = (0 : Int32) := Eq.trans rfl rfl
theorem F_reset_12 (F : Nat → Int32) : F_reset F 12 = (1 : Int32) := Eq.trans rfl rfl
theorem F_reset_13 (F : Nat → Int32) : F_reset F 13 = (1 : Int32) := Eq.trans rfl rfl
set_option maxRecDepth 65536 in
set_option maxHeartbeats 4000000 in
theorem wp_init {l : Launch} {Z : State} {a0 : Array Value} (H : OK Z a0) (p1 : Int32) (p2 : Int32) (p3 : Int32) {Q : Option Value → WO → Prop} (h1 : Q none (16, (F_reset (ups (ups (ups (fun _ => 0) 0 (f_clamp p1 (4 : Int32) (32 : Int32))) 1 (f_clamp p2 (1 : Int32) (16 : Int32))) 2 (f_clamp p3 (2 : Int32) (16 : Int32)))), (fun _ => 0), (A_reset (fun _ _ => 0)), (fun _ _ => 0))) :
    Wk l Z (MoC Z cdC) md_init 0 [.val (.ref 0), .val (.int p1), .val (.int p2), .val (.int p3)] [] (0, (fun _ => 0), (fun _ => 0), (fun _ _ => 0), (fun _ _ => 0)) 0 0 Q := by
  refine Wk.aloadN o_init_0 rfl ?_
  refine Wk.initO (H.w 6 rfl) (H.w 7 rfl) (H.w 8 rfl) o_init_1 rfl (by decide) (by decide) ?_
  refine Wk.aloadN o_init_4 rfl ?_
  refine Wk.bipush o_init_5 (z := (64 : Int32)) (by decide) ?_
  refine Wk.newA (coC H) (aty := .int) rfl (wa_int H) (mA_ops) (wf_ops H) (Or.inl (wy_ops H)) o_init_7 o_init_9 rfl rfl (k' := 1) rfl (cu' := 1) rfl (su' := 64) rfl (by decide) (by decide) (by decide) ?_
  refine Wk.aloadN o_init_12 rfl ?_
  refine Wk.bipush o_init_13 (z := (64 : Int32)) (by decide) ?_
  refine Wk.newA (coC H) (aty := .int) rfl (wa_int H) (mA_args) (wf_args H) (Or.inl (wy_args H)) o_init_15 o_init_17 rfl rfl (k' := 2) rfl (cu' := 2) rfl (su' := 128) rfl (by decide) (by decide) (by decide) ?_
  refine Wk.aloadN o_init_20 rfl ?_
  refine Wk.bipush o_init_21 (z := (8 : Int32)) (by decide) ?_
  refine Wk.newA (coC H) (aty := .int) rfl (wa_int H) (mA_entries) (wf_entries H) (Or.inl (wy_entries H)) o_init_23 o_init_25 rfl rfl (k' := 3) rfl (cu' := 3) rfl (su' := 136) rfl (by decide) (by decide) (by decide) ?_
  refine Wk.aloadN o_init_28 rfl ?_
  refine Wk.bipush o_init_29 (z := (16 : Int32)) (by decide) ?_
  refine Wk.newA (coC H) (aty := .int) rfl (wa_int H) (mA_stack) (wf_stack H) (Or.inl (wy_stack H)) o_init_31 o_init_33 rfl rfl (k' := 4) rfl (cu' := 4) rfl (su' := 152) rfl (by decide) (by decide) (by decide) ?_
  refine Wk.aloadN o_init_36 rfl ?_
  refine Wk.bipush o_init_37 (z := (16 : Int32)) (by decide) ?_
  refine Wk.newA (coC H) (aty := .int) rfl (wa_int H) (mA_frameFunc) (wf_frameFunc H) (Or.inl (wy_frameFunc H)) o_init_39 o_init_41 rfl rfl (k' := 5) rfl (cu' := 5) rfl (su' := 168) rfl (by decide) (by decide) (by decide) ?_
  refine Wk.aloadN o_init_44 rfl ?_
  refine Wk.bipush o_init_45 (z := (16 : Int32)) (by decide) ?_
  refine Wk.newA (coC H) (aty := .int) rfl (wa_int H) (mA_frameRet) (wf_frameRet H) (Or.inl (wy_frameRet H)) o_init_47 o_init_49 rfl rfl (k' := 6) rfl (cu' := 6) rfl (su' := 184) rfl (by decide) (by decide) (by decide) ?_
  refine Wk.aloadN o_init_52 rfl ?_
  refine Wk.bipush o_init_53 (z := (16 : Int32)) (by decide) ?_
  refine Wk.newA (coC H) (aty := .int) rfl (wa_int H) (mA_frameNode) (wf_frameNode H) (Or.inl (wy_frameNode H)) o_init_55 o_init_57 rfl rfl (k' := 7) rfl (cu' := 7) rfl (su' := 200) rfl (by decide) (by decide) (by decide) ?_
  refine Wk.aloadN o_init_60 rfl ?_
  refine Wk.bipush o_init_61 (z := (32 : Int32)) (by decide) ?_
  refine Wk.newA (coC H) (aty := .int) rfl (wa_int H) (mA_iParent) (wf_iParent H) (Or.inl (wy_iParent H)) o_init_63 o_init_65 rfl rfl (k' := 8) rfl (cu' := 8) rfl (su' := 232) rfl (by decide) (by decide) (by decide) ?_
  refine Wk.aloadN o_init_68 rfl ?_
  refine Wk.bipush o_init_69 (z := (32 : Int32)) (by decide) ?_
  refine Wk.newA (coC H) (aty := .int) rfl (wa_int H) (mA_iFunc) (wf_iFunc H) (Or.inl (wy_iFunc H)) o_init_71 o_init_73 rfl rfl (k' := 9) rfl (cu' := 9) rfl (su' := 264) rfl (by decide) (by decide) (by decide) ?_
  refine Wk.aloadN o_init_76 rfl ?_
  refine Wk.bipush o_init_77 (z := (32 : Int32)) (by decide) ?_
  refine Wk.newA (coC H) (aty := .int) rfl (wa_int H) (mA_iSelf) (wf_iSelf H) (Or.inl (wy_iSelf H)) o_init_79 o_init_81 rfl rfl (k' := 10) rfl (cu' := 10) rfl (su' := 296) rfl (by decide) (by decide) (by decide) ?_
  refine Wk.aloadN o_init_84 rfl ?_
  refine Wk.bipush o_init_85 (z := (32 : Int32)) (by decide) ?_
  refine Wk.newA (coC H) (aty := .int) rfl (wa_int H) (mA_iIncl) (wf_iIncl H) (Or.inl (wy_iIncl H)) o_init_87 o_init_89 rfl rfl (k' := 11) rfl (cu' := 11) rfl (su' := 328) rfl (by decide) (by decide) (by decide) ?_
  refine Wk.aloadN o_init_92 rfl ?_
  refine Wk.bipush o_init_93 (z := (32 : Int32)) (by decide) ?_
  refine Wk.newA (coC H) (aty := .int) rfl (wa_int H) (mA_iLost) (wf_iLost H) (Or.inl (wy_iLost H)) o_init_95 o_init_97 rfl rfl (k' := 12) rfl (cu' := 12) rfl (su' := 360) rfl (by decide) (by decide) (by decide) ?_
  refine Wk.aloadN o_init_100 rfl ?_
  refine Wk.bipush o_init_101 (z := (32 : Int32)) (by decide) ?_
  refine Wk.newA (coC H) (aty := .int) rfl (wa_int H) (mA_sParent) (wf_sParent H) (Or.inl (wy_sParent H)) o_init_103 o_init_105 rfl rfl (k' := 13) rfl (cu' := 13) rfl (su' := 392) rfl (by decide) (by decide) (by decide) ?_
  refine Wk.aloadN o_init_108 rfl ?_
  refine Wk.bipush o_init_109 (z := (32 : Int32)) (by decide) ?_
  refine Wk.newA (coC H) (aty := .int) rfl (wa_int H) (mA_sFunc) (wf_sFunc H) (Or.inl (wy_sFunc H)) o_init_111 o_init_113 rfl rfl (k' := 14) rfl (cu' := 14) rfl (su' := 424) rfl (by decide) (by decide) (by decide) ?_
  refine Wk.aloadN o_init_116 rfl ?_
  refine Wk.bipush o_init_117 (z := (32 : Int32)) (by decide) ?_
  refine Wk.newA (coC H) (aty := .int) rfl (wa_int H) (mA_sSelf) (wf_sSelf H) (Or.inl (wy_sSelf H)) o_init_119 o_init_121 rfl rfl (k' := 15) rfl (cu' := 15) rfl (su' := 456) rfl (by decide) (by decide) (by decide) ?_
  refine Wk.aloadN o_init_124 rfl ?_
  refine Wk.bipush o_init_125 (z := (16 : Int32)) (by decide) ?_
  refine Wk.newA (coC H) (aty := .int) rfl (wa_int H) (mA_query) (wf_query H) (Or.inl (wy_query H)) o_init_127 o_init_129 rfl rfl (k' := 16) rfl (cu' := 16) rfl (su' := 472) rfl (by decide) (by decide) (by decide) ?_
  refine Wk.aloadN o_init_132 rfl ?_
  refine Wk.aloadN o_init_133 rfl ?_
  refine Wk.iloadN o_init_134 rfl ?_
  refine Wk.iconst o_init_135 (z := (4 : Int32)) (by decide) ?_
  refine Wk.bipush o_init_136 (z := (32 : Int32)) (by decide) ?_
  refine Wk.callF [.int p1, .int (4 : Int32), .int (32 : Int32)] [.ref 0] (H.w 42 rfl) (cv_clamp H) o_init_138 (run_clamp H (fun _ => 0) (fun _ => 0) (fun _ _ => 0) (fun _ _ => 0) p1 (4 : Int32) (32 : Int32)) (wt := 1) (cu' := 16) (su' := 472) (by decide) rfl rfl rfl rfl rfl rfl rfl ?_
  refine Wk.putI (coC H) (mI_capacity) (wf_capacity H) (Or.inl (wy_capacity H)) o_init_141 ?_
  refine Wk.aloadN o_init_144 rfl ?_
  refine Wk.aloadN o_init_145 rfl ?_
  refine Wk.iloadN o_init_146 rfl ?_
  refine Wk.iconst o_init_147 (z := (1 : Int32)) (by decide) ?_
  refine Wk.bipush o_init_148 (z := (16 : Int32)) (by decide) ?_
  refine Wk.callF [.int p2, .int (1 : Int32), .int (16 : Int32)] [.ref 0] (H.w 42 rfl) (cv_clamp H) o_init_150 (run_clamp H (ups (fun _ => 0) 0 (f_clamp p1 (4 : Int32) (32 : Int32))) (fun _ => 0) (fun _ _ => 0) (fun _ _ => 0) p2 (1 : Int32) (16 : Int32)) (wt := 1) (cu' := 16) (su' := 472) (by decide) rfl rfl rfl rfl rfl rfl rfl ?_
  refine Wk.putI (coC H) (mI_period) (wf_period H) (Or.inl (wy_period H)) o_init_153 ?_
  refine Wk.aloadN o_init_156 rfl ?_
  refine Wk.aloadN o_init_157 rfl ?_
  refine Wk.iloadN o_init_158 rfl ?_
  refine Wk.iconst o_init_159 (z := (2 : Int32)) (by decide) ?_
  refine Wk.bipush o_init_160 (z := (16 : Int32)) (by decide) ?_
  refine Wk.callF [.int p3, .int (2 : Int32), .int (16 : Int32)] [.ref 0] (H.w 42 rfl) (cv_clamp H) o_init_162 (run_clamp H (ups (ups (fun _ => 0) 0 (f_clamp p1 (4 : Int32) (32 : Int32))) 1 (f_clamp p2 (1 : Int32) (16 : Int32))) (fun _ => 0) (fun _ _ => 0) (fun _ _ => 0) p3 (2 : Int32) (16 : Int32)) (wt := 1) (cu' := 16) (su' := 472) (by decide) rfl rfl rfl rfl rfl rfl rfl ?_
  refine Wk.putI (coC H) (mI_maxDepth) (wf_maxDepth H) (Or.inl (wy_maxDepth H)) o_init_165 ?_
  refine Wk.aloadN o_init_168 rfl ?_
  refine Wk.callU [] [] (H.w 52 rfl) (cv_reset H) o_init_169 (run_reset H (ups (ups (ups (fun _ => 0) 0 (f_clamp p1 (4 : Int32) (32 : Int32))) 1 (f_clamp p2 (1 : Int32) (16 : Int32))) 2 (f_clamp p3 (2 : Int32) (16 : Int32))) (fun _ => 0) (fun _ _ => 0) (fun _ _ => 0)) (wt := 0) (cu' := 16) (su' := 472) (by decide) rfl rfl rfl rfl rfl rfl rfl ?_
  exact Wk.ret mrC rfl o_init_172 rfl (by decide) (by decide) h1

def F_init (p1 : Int32) (p2 : Int32) (p3 : Int32) : Nat → Int32 := (F_reset (ups (ups (ups (fun _ => 0) 0 (f_clamp p1 (4 : Int32) (32 : Int32))) 1 (f_clamp p2 (1 : Int32) (16 : Int32))) 2 (f_clamp p3 (2 : Int32) (16 : Int32))))
theorem eF_init (p1 : Int32) (p2 : Int32) (p3 : Int32) : F_init p1 p2 p3 = (F_reset (ups (ups (ups (fun _ => 0) 0 (f_clamp p1 (4 : Int32) (32 : Int32))) 1 (f_clamp p2 (1 : Int32) (16 : Int32))) 2 (f_clamp p3 (2 : Int32) (16 : Int32)))) := Eq.trans rfl rfl
def A_init (p1 : Int32) (p2 : Int32) (p3 : Int32) : Nat → Int32 → Int32 := (A_reset (fun _ _ => 0))
theorem eA_init (p1 : Int32) (p2 : Int32) (p3 : Int32) : A_init p1 p2 p3 = (A_reset (fun _ _ => 0)) := Eq.trans rfl rfl
theorem F_init_0 (p1 : Int32) (p2 : Int32) (p3 : Int32) : F_init p1 p2 p3 0 = (f_clamp p1 (4 : Int32) (32 : Int32)) := by
  exact Eq.trans rfl (F_reset_0 (ups (ups (ups (fun _ => 0) 0 (f_clamp p1 (4 : Int32) (32 : Int32))) 1 (f_clamp p2 (1 : Int32) (16 : Int32))) 2 (f_clamp p3 (2 : Int32) (16 : Int32))))
theorem F_init_1 (p1 : Int32) (p2 : Int32) (p3 : Int32) : F_init p1 p2 p3 1 = (f_clamp p2 (1 : Int32) (16 : Int32)) := by
  exact Eq.trans rfl (F_reset_1 (ups (ups (ups (fun _ => 0) 0 (f_clamp p1 (4 : Int32) (32 : Int32))) 1 (f_clamp p2 (1 : Int32) (16 : Int32))) 2 (f_clamp p3 (2 : Int32) (16 : Int32))))
theorem F_init_2 (p1 : Int32) (p2 : Int32) (p3 : Int32) : F_init p1 p2 p3 2 = (f_clamp p3 (2 : Int32) (16 : Int32)) := by
  exact Eq.trans rfl (F_reset_2 (ups (ups (ups (fun _ => 0) 0 (f_clamp p1 (4 : Int32) (32 : Int32))) 1 (f_clamp p2 (1 : Int32) (16 : Int32))) 2 (f_clamp p3 (2 : Int32) (16 : Int32))))
theorem F_init_3 (p1 : Int32) (p2 : Int32) (p3 : Int32) : F_init p1 p2 p3 3 = (0 : Int32) := by
  exact Eq.trans rfl (F_reset_3 (ups (ups (ups (fun _ => 0) 0 (f_clamp p1 (4 : Int32) (32 : Int32))) 1 (f_clamp p2 (1 : Int32) (16 : Int32))) 2 (f_clamp p3 (2 : Int32) (16 : Int32))))
theorem F_init_4 (p1 : Int32) (p2 : Int32) (p3 : Int32) : F_init p1 p2 p3 4 = (0 : Int32) := by
  exact Eq.trans rfl (F_reset_4 (ups (ups (ups (fun _ => 0) 0 (f_clamp p1 (4 : Int32) (32 : Int32))) 1 (f_clamp p2 (1 : Int32) (16 : Int32))) 2 (f_clamp p3 (2 : Int32) (16 : Int32))))
theorem F_init_5 (p1 : Int32) (p2 : Int32) (p3 : Int32) : F_init p1 p2 p3 5 = (0 : Int32) := by
  exact Eq.trans rfl (F_reset_5 (ups (ups (ups (fun _ => 0) 0 (f_clamp p1 (4 : Int32) (32 : Int32))) 1 (f_clamp p2 (1 : Int32) (16 : Int32))) 2 (f_clamp p3 (2 : Int32) (16 : Int32))))
theorem F_init_6 (p1 : Int32) (p2 : Int32) (p3 : Int32) : F_init p1 p2 p3 6 = (0 : Int32) := by
  exact Eq.trans rfl (F_reset_6 (ups (ups (ups (fun _ => 0) 0 (f_clamp p1 (4 : Int32) (32 : Int32))) 1 (f_clamp p2 (1 : Int32) (16 : Int32))) 2 (f_clamp p3 (2 : Int32) (16 : Int32))))
theorem F_init_7 (p1 : Int32) (p2 : Int32) (p3 : Int32) : F_init p1 p2 p3 7 = (0 : Int32) := by
  exact Eq.trans rfl (F_reset_7 (ups (ups (ups (fun _ => 0) 0 (f_clamp p1 (4 : Int32) (32 : Int32))) 1 (f_clamp p2 (1 : Int32) (16 : Int32))) 2 (f_clamp p3 (2 : Int32) (16 : Int32))))
theorem F_init_8 (p1 : Int32) (p2 : Int32) (p3 : Int32) : F_init p1 p2 p3 8 = (0 : Int32) := by
  exact Eq.trans rfl (F_reset_8 (ups (ups (ups (fun _ => 0) 0 (f_clamp p1 (4 : Int32) (32 : Int32))) 1 (f_clamp p2 (1 : Int32) (16 : Int32))) 2 (f_clamp p3 (2 : Int32) (16 : Int32))))
theorem F_init_9 (p1 : Int32) (p2 : Int32) (p3 : Int32) : F_init p1 p2 p3 9 = (0 : Int32) := by
  exact Eq.trans rfl (F_reset_9 (ups (ups (ups (fun _ => 0) 0 (f_clamp p1 (4 : Int32) (32 : Int32))) 1 (f_clamp p2 (1 : Int32) (16 : Int32))) 2 (f_clamp p3 (2 : Int32) (16 : Int32))))
theorem F_init_10 (p1 : Int32) (p2 : Int32) (p3 : Int32) : F_init p1 p2 p3 10 = (0 : Int32) := by
  exact Eq.trans rfl (F_reset_10 (ups (ups (ups (fun _ => 0) 0 (f_clamp p1 (4 : Int32) (32 : Int32))) 1 (f_clamp p2 (1 : Int32) (16 : Int32))) 2 (f_clamp p3 (2 : Int32) (16 : Int32))))
theorem F_init_11 (p1 : Int32) (p2 : Int32) (p3 : Int32) : F_init p1 p2 p3 11 = (0 : Int32) := by
  exact Eq.trans rfl (F_reset_11 (ups (ups (ups (fun _ => 0) 0 (f_clamp p1 (4 : Int32) (32 : Int32))) 1 (f_clamp p2 (1 : Int32) (16 : Int32))) 2 (f_clamp p3 (2 : Int32) (16 : Int32))))
theorem F_init_12 (p1 : Int32) (p2 : Int32) (p3 : Int32) : F_init p1 p2 p3 12 = (1 : Int32) := by
  exact Eq.trans rfl (F_reset_12 (ups (ups (ups (fun _ => 0) 0 (f_clamp p1 (4 : Int32) (32 : Int32))) 1 (f_clamp p2 (1 : Int32) (16 : Int32))) 2 (f_clamp p3 (2 : Int32) (16 : Int32))))
theorem F_init_13 (p1 : Int32) (p2 : Int32) (p3 : Int32) : F_init p1 p2 p3 13 = (1 : Int32) := by
  exact Eq.trans rfl (F_reset_13 (ups (ups (ups (fun _ => 0) 0 (f_clamp p1 (4 : Int32) (32 : Int32))) 1 (f_clamp p2 (1 : Int32) (16 : Int32))) 2 (f_clamp p3 (2 : Int32) (16 : Int32))))
theorem run_init {l : Launch} {Z : State} {a0 : Array Value} (H : OK Z a0)  (p1 : Int32) (p2 : Int32) (p3 : Int32) :
    Wk l Z (MoC Z cdC) md_init 0 [.val (.ref 0), .val (.int p1), .val (.int p2), .val (.int p3)] [] (0, (fun _ => 0), (fun _ => 0), (fun _ _ => 0), (fun _ _ => 0)) 0 0 (fun v w' => v = none ∧ w' = (16, (F_init p1 p2 p3), (fun _ => 0), (A_init p1 p2 p3), (fun _ _ => 0))) :=
  wp_init H p1 p2 p3 ⟨rfl, rfl⟩
set_option maxRecDepth 65536 in
set_option maxHeartbeats 4000000 in
theorem wp_emit {l : Launch} {Z : State} {a0 : Array Value} (H : OK Z a0) (F : Nat → Int32) (G : Nat → Int64) (A : Nat → Int32 → Int32) (B : Nat → Int32 → Int64) (p1 : Int32) (p2 : Int32) {Q : Option Value → WO → Prop} (h3 : (F 3) = 0 → p1 < 0 → Q (some (.int (-1 : Int32))) (16, F, G, A, B)) (s6 : (F 3) = 0 → ¬ p1 < 0 → ¬ (10 : Int32) < p1 → (F 4) < (64 : Int32) → ¬ (F 4) < 0) (h7 : (F 3) = 0 → ¬ p1 < 0 → ¬ (10 : Int32) < p1 → (F 4) < (64 : Int32) → Q (some (.int (F 4))) (16, (ups F 4 ((F 4) + (1 : Int32))), G, (ups (ups A 0 (ups (A 0) (F 4) p1)) 1 (ups (A 1) (F 4) p2)), B)) (h8 : (F 3) = 0 → ¬ p1 < 0 → ¬ (10 : Int32) < p1 → ¬ (F 4) < (64 : Int32) → Q (some (.int (-1 : Int32))) (16, F, G, A, B)) (h9 : (F 3) = 0 → ¬ p1 < 0 → (10 : Int32) < p1 → Q (some (.int (-1 : Int32))) (16, F, G, A, B)) (h10 : ¬ (F 3) = 0 → Q (some (.int (-1 : Int32))) (16, F, G, A, B)) :
    Wk l Z (MoC Z cdC) md_emit 0 [.val (.ref 0), .val (.int p1), .val (.int p2), .unset] [] (16, F, G, A, B) 0 0 Q := by
  refine Wk.aloadN o_emit_0 rfl ?_
  refine Wk.getI (mI_status) (wf_status H) o_emit_1 (x := (F 3)) rfl ?_
  refine Wk.if_eq o_emit_4 (fun q1 => ?_) (fun q1 => ?_)
  · refine Wk.iloadN o_emit_9 rfl ?_
    refine Wk.if_lt o_emit_10 (fun q2 => ?_) (fun q2 => ?_)
    · refine Wk.iconst o_emit_19 (z := (-1 : Int32)) (by decide) ?_
      exact Wk.ireturn mrC rfl o_emit_20 rfl (by decide) (by decide) (h3 q1 q2)
    · refine Wk.iloadN o_emit_13 rfl ?_
      refine Wk.bipush o_emit_14 (z := (10 : Int32)) (by decide) ?_
      refine Wk.icmp_le o_emit_16 (fun q4 => ?_) (fun q4 => ?_)
      · refine Wk.aloadN o_emit_21 rfl ?_
        refine Wk.getI (mI_codeSize) (wf_codeSize H) o_emit_22 (x := (F 4)) rfl ?_
        refine Wk.bipush o_emit_25 (z := (64 : Int32)) (by decide) ?_
        refine Wk.icmp_lt o_emit_27 (fun q5 => ?_) (fun q5 => ?_)
        · refine Wk.aloadN o_emit_32 rfl ?_
          refine Wk.getI (mI_codeSize) (wf_codeSize H) o_emit_33 (x := (F 4)) rfl ?_
          refine Wk.istoreN o_emit_36 (Or.inl rfl) (L' := [.val (.ref 0), .val (.int p1), .val (.int p2), .val (.int (F 4))]) rfl ?_
          refine Wk.aloadN o_emit_37 rfl ?_
          refine Wk.getA (mA_ops) (by decide) (i' := 1) rfl (wf_ops H) o_emit_38 ?_
          refine Wk.iloadN o_emit_41 rfl ?_
          refine Wk.iloadN o_emit_42 rfl ?_
          refine Wk.iastore (coC H) (f := (A 0)) (mA_ops) rfl (by decide) (i' := 1) rfl (s6 q1 q2 q4 q5) q5 o_emit_43 ?_
          refine Wk.aloadN o_emit_44 rfl ?_
          refine Wk.getA (mA_args) (by decide) (i' := 2) rfl (wf_args H) o_emit_45 ?_
          refine Wk.iloadN o_emit_48 rfl ?_
          refine Wk.iloadN o_emit_49 rfl ?_
          refine Wk.iastore (coC H) (f := (A 1)) (mA_args) rfl (by decide) (i' := 2) rfl (s6 q1 q2 q4 q5) q5 o_emit_50 ?_
          refine Wk.aloadN o_emit_51 rfl ?_
          refine Wk.iloadN o_emit_52 rfl ?_
          refine Wk.iconst o_emit_53 (z := (1 : Int32)) (by decide) ?_
          refine Wk.iadd o_emit_54 ?_
          refine Wk.putI (coC H) (mI_codeSize) (wf_codeSize H) (Or.inl (wy_codeSize H)) o_emit_55 ?_
          refine Wk.iloadN o_emit_58 rfl ?_
          exact Wk.ireturn mrC rfl o_emit_59 rfl (by decide) (by decide) (h7 q1 q2 q4 q5)
        · refine Wk.iconst o_emit_30 (z := (-1 : Int32)) (by decide) ?_
          exact Wk.ireturn mrC rfl o_emit_31 rfl (by decide) (by decide) (h8 q1 q2 q4 q5)
      · refine Wk.iconst o_emit_19 (z := (-1 : Int32)) (by decide) ?_
        exact Wk.ireturn mrC rfl o_emit_20 rfl (by decide) (by decide) (h9 q1 q2 q4)
  · refine Wk.iconst o_emit_7 (z := (-1 : Int32)) (by decide) ?_
    exact Wk.ireturn mrC rfl o_emit_8 rfl (by decide) (by decide) (h10 q1)

theorem rt_emit (G : Nat → Int64) (B : Nat → Int32 → Int64) (v0 : Int32) (xF : Nat → Int32) (xA : Nat → Int32 → Int32) (r : Int32 × (Nat → Int32) × (Nat → Int32 → Int32)) (e : (v0, xF, xA) = r) : some (Value.int v0) = some (.int r.1) ∧ (16, xF, G, xA, B) = (16, r.2.1, G, r.2.2, B) := by subst e; exact ⟨rfl, rfl⟩
def en_emit (F : Nat → Int32) (A : Nat → Int32 → Int32) (p1 : Int32) (p2 : Int32) : Option (Int32 × (Nat → Int32) × (Nat → Int32 → Int32)) := (if (F 3) = 0 then (if p1 < 0 then some ((-1 : Int32), F, A) else (if (10 : Int32) < p1 then some ((-1 : Int32), F, A) else (if (F 4) < (64 : Int32) then (if (¬ (F 4) < 0) then some ((F 4), (ups F 4 ((F 4) + (1 : Int32))), (ups (ups A 0 (ups (A 0) (F 4) p1)) 1 (ups (A 1) (F 4) p2))) else none) else some ((-1 : Int32), F, A)))) else some ((-1 : Int32), F, A))
theorem een_emit (F : Nat → Int32) (A : Nat → Int32 → Int32) (p1 : Int32) (p2 : Int32) : en_emit F A p1 p2 = (if (F 3) = 0 then (if p1 < 0 then some ((-1 : Int32), F, A) else (if (10 : Int32) < p1 then some ((-1 : Int32), F, A) else (if (F 4) < (64 : Int32) then (if (¬ (F 4) < 0) then some ((F 4), (ups F 4 ((F 4) + (1 : Int32))), (ups (ups A 0 (ups (A 0) (F 4) p1)) 1 (ups (A 1) (F 4) p2))) else none) else some ((-1 : Int32), F, A)))) else some ((-1 : Int32), F, A)) := Eq.trans rfl rfl
def R_emit (F : Nat → Int32) (A : Nat → Int32 → Int32) (p1 : Int32) (p2 : Int32) : Int32 × (Nat → Int32) × (Nat → Int32 → Int32) := (en_emit F A p1 p2).getD (0, (fun _ => 0), (fun _ _ => 0))
theorem eR_emit (F : Nat → Int32) (A : Nat → Int32 → Int32) (p1 : Int32) (p2 : Int32) : R_emit F A p1 p2 = (en_emit F A p1 p2).getD (0, (fun _ => 0), (fun _ _ => 0)) := Eq.trans rfl rfl
set_option maxRecDepth 65536 in
set_option maxHeartbeats 4000000 in
theorem run_emit {l : Launch} {Z : State} {a0 : Array Value} (H : OK Z a0) (F : Nat → Int32) (G : Nat → Int64) (A : Nat → Int32 → Int32) (B : Nat → Int32 → Int64) (p1 : Int32) (p2 : Int32) (e1 : (en_emit F A p1 p2).isSome = true) :
    Wk l Z (MoC Z cdC) md_emit 0 [.val (.ref 0), .val (.int p1), .val (.int p2), .unset] [] (16, F, G, A, B) 0 0 (fun v w' => v = some (.int (R_emit F A p1 p2).1) ∧ w' = (16, (R_emit F A p1 p2).2.1, G, (R_emit F A p1 p2).2.2, B)) := by
  obtain ⟨r, h⟩ := Option.isSome_iff_exists.mp e1
  have e : R_emit F A p1 p2 = r := (eR_emit F A p1 p2).trans (getD_some h)
  rw [e]
  rw [een_emit] at h
  exact wp_emit H F G A B p1 p2 (fun q1 q2 => (rt_emit _ _ _ _ _ r (Option.some.inj (ifp q2 (ifp q1 h))))) (fun q1 q2 q4 q5 => (gd (ifp q5 (ifn q4 (ifn q2 (ifp q1 h))))).1) (fun q1 q2 q4 q5 => (rt_emit _ _ _ _ _ r (Option.some.inj (gd (ifp q5 (ifn q4 (ifn q2 (ifp q1 h))))).2))) (fun q1 q2 q4 q5 => (rt_emit _ _ _ _ _ r (Option.some.inj (ifn q5 (ifn q4 (ifn q2 (ifp q1 h))))))) (fun q1 q2 q4 => (rt_emit _ _ _ _ _ r (Option.some.inj (ifp q4 (ifn q2 (ifp q1 h)))))) (fun q1 => (rt_emit _ _ _ _ _ r (Option.some.inj (ifn q1 h))))
set_option maxRecDepth 65536 in
set_option maxHeartbeats 4000000 in
theorem wp_setEntry {l : Launch} {Z : State} {a0 : Array Value} (H : OK Z a0) (F : Nat → Int32) (G : Nat → Int64) (A : Nat → Int32 → Int32) (B : Nat → Int32 → Int64) (p1 : Int32) (p2 : Int32) {Q : Option Value → WO → Prop} (h2 : ¬ (F 3) = 0 → Q (some (.int (0 : Int32))) (16, F, G, A, B)) (h4 : (F 3) = 0 → p1 < 0 → Q (some (.int (0 : Int32))) (16, F, G, A, B)) (h6 : (F 3) = 0 → ¬ p1 < 0 → (7 : Int32) < p1 → Q (some (.int (0 : Int32))) (16, F, G, A, B)) (h8 : (F 3) = 0 → ¬ p1 < 0 → ¬ (7 : Int32) < p1 → p2 < 0 → Q (some (.int (0 : Int32))) (16, F, G, A, B)) (s10 : (F 3) = 0 → ¬ p1 < 0 → ¬ (7 : Int32) < p1 → ¬ p2 < 0 → ¬ (63 : Int32) < p2 → p1 < (8 : Int32)) (h11 : (F 3) = 0 → ¬ p1 < 0 → ¬ (7 : Int32) < p1 → ¬ p2 < 0 → ¬ (63 : Int32) < p2 → Q (some (.int (1 : Int32))) (16, F, G, (ups A 2 (ups (A 2) p1 p2)), B)) (h12 : (F 3) = 0 → ¬ p1 < 0 → ¬ (7 : Int32) < p1 → ¬ p2 < 0 → (63 : Int32) < p2 → Q (some (.int (0 : Int32))) (16, F, G, A, B)) :
    Wk l Z (MoC Z cdC) md_setEntry 0 [.val (.ref 0), .val (.int p1), .val (.int p2)] [] (16, F, G, A, B) 0 0 Q := by
  refine Wk.aloadN o_setEntry_0 rfl ?_
  refine Wk.getI (mI_status) (wf_status H) o_setEntry_1 (x := (F 3)) rfl ?_
  refine Wk.if_ne o_setEntry_4 (fun q1 => ?_) (fun q1 => ?_)
  · refine Wk.iconst o_setEntry_27 (z := (0 : Int32)) (by decide) ?_
    exact Wk.zreturn mrC rfl o_setEntry_28 rfl (by decide) (by decide) (y := (0 : Int32)) (by decide) (h2 q1)
  · refine Wk.iloadN o_setEntry_7 rfl ?_
    refine Wk.if_lt o_setEntry_8 (fun q3 => ?_) (fun q3 => ?_)
    · refine Wk.iconst o_setEntry_27 (z := (0 : Int32)) (by decide) ?_
      exact Wk.zreturn mrC rfl o_setEntry_28 rfl (by decide) (by decide) (y := (0 : Int32)) (by decide) (h4 q1 q3)
    · refine Wk.iloadN o_setEntry_11 rfl ?_
      refine Wk.bipush o_setEntry_12 (z := (7 : Int32)) (by decide) ?_
      refine Wk.icmp_gt o_setEntry_14 (fun q5 => ?_) (fun q5 => ?_)
      · refine Wk.iconst o_setEntry_27 (z := (0 : Int32)) (by decide) ?_
        exact Wk.zreturn mrC rfl o_setEntry_28 rfl (by decide) (by decide) (y := (0 : Int32)) (by decide) (h6 q1 q3 q5)
      · refine Wk.iloadN o_setEntry_17 rfl ?_
        refine Wk.if_lt o_setEntry_18 (fun q7 => ?_) (fun q7 => ?_)
        · refine Wk.iconst o_setEntry_27 (z := (0 : Int32)) (by decide) ?_
          exact Wk.zreturn mrC rfl o_setEntry_28 rfl (by decide) (by decide) (y := (0 : Int32)) (by decide) (h8 q1 q3 q5 q7)
        · refine Wk.iloadN o_setEntry_21 rfl ?_
          refine Wk.bipush o_setEntry_22 (z := (63 : Int32)) (by decide) ?_
          refine Wk.icmp_le o_setEntry_24 (fun q9 => ?_) (fun q9 => ?_)
          · refine Wk.aloadN o_setEntry_29 rfl ?_
            refine Wk.getA (mA_entries) (by decide) (i' := 3) rfl (wf_entries H) o_setEntry_30 ?_
            refine Wk.iloadN o_setEntry_33 rfl ?_
            refine Wk.iloadN o_setEntry_34 rfl ?_
            refine Wk.iastore (coC H) (f := (A 2)) (mA_entries) rfl (by decide) (i' := 3) rfl q3 (s10 q1 q3 q5 q7 q9) o_setEntry_35 ?_
            refine Wk.iconst o_setEntry_36 (z := (1 : Int32)) (by decide) ?_
            exact Wk.zreturn mrC rfl o_setEntry_37 rfl (by decide) (by decide) (y := (1 : Int32)) (by decide) (h11 q1 q3 q5 q7 q9)
          · refine Wk.iconst o_setEntry_27 (z := (0 : Int32)) (by decide) ?_
            exact Wk.zreturn mrC rfl o_setEntry_28 rfl (by decide) (by decide) (y := (0 : Int32)) (by decide) (h12 q1 q3 q5 q7 q9)

theorem rt_setEntry (F : Nat → Int32) (G : Nat → Int64) (B : Nat → Int32 → Int64) (v0 : Int32) (xA : Nat → Int32 → Int32) (r : Int32 × (Nat → Int32 → Int32)) (e : (v0, xA) = r) : some (Value.int v0) = some (.int r.1) ∧ (16, F, G, xA, B) = (16, F, G, r.2, B) := by subst e; exact ⟨rfl, rfl⟩
def en_setEntry (F : Nat → Int32) (A : Nat → Int32 → Int32) (p1 : Int32) (p2 : Int32) : Option (Int32 × (Nat → Int32 → Int32)) := (if (F 3) = 0 then (if p1 < 0 then some ((0 : Int32), A) else (if (7 : Int32) < p1 then some ((0 : Int32), A) else (if p2 < 0 then some ((0 : Int32), A) else (if (63 : Int32) < p2 then some ((0 : Int32), A) else (if (p1 < (8 : Int32)) then some ((1 : Int32), (ups A 2 (ups (A 2) p1 p2))) else none))))) else some ((0 : Int32), A))
theorem een_setEntry (F : Nat → Int32) (A : Nat → Int32 → Int32) (p1 : Int32) (p2 : Int32) : en_setEntry F A p1 p2 = (if (F 3) = 0 then (if p1 < 0 then some ((0 : Int32), A) else (if (7 : Int32) < p1 then some ((0 : Int32), A) else (if p2 < 0 then some ((0 : Int32), A) else (if (63 : Int32) < p2 then some ((0 : Int32), A) else (if (p1 < (8 : Int32)) then some ((1 : Int32), (ups A 2 (ups (A 2) p1 p2))) else none))))) else some ((0 : Int32), A)) := Eq.trans rfl rfl
def R_setEntry (F : Nat → Int32) (A : Nat → Int32 → Int32) (p1 : Int32) (p2 : Int32) : Int32 × (Nat → Int32 → Int32) := (en_setEntry F A p1 p2).getD (0, (fun _ _ => 0))
theorem eR_setEntry (F : Nat → Int32) (A : Nat → Int32 → Int32) (p1 : Int32) (p2 : Int32) : R_setEntry F A p1 p2 = (en_setEntry F A p1 p2).getD (0, (fun _ _ => 0)) := Eq.trans rfl rfl
set_option maxRecDepth 65536 in
set_option maxHeartbeats 4000000 in
theorem run_setEntry {l : Launch} {Z : State} {a0 : Array Value} (H : OK Z a0) (F : Nat → Int32) (G : Nat → Int64) (A : Nat → Int32 → Int32) (B : Nat → Int32 → Int64) (p1 : Int32) (p2 : Int32) (e1 : (en_setEntry F A p1 p2).isSome = true) :
    Wk l Z (MoC Z cdC) md_setEntry 0 [.val (.ref 0), .val (.int p1), .val (.int p2)] [] (16, F, G, A, B) 0 0 (fun v w' => v = some (.int (R_setEntry F A p1 p2).1) ∧ w' = (16, F, G, (R_setEntry F A p1 p2).2, B)) := by
  obtain ⟨r, h⟩ := Option.isSome_iff_exists.mp e1
  have e : R_setEntry F A p1 p2 = r := (eR_setEntry F A p1 p2).trans (getD_some h)
  rw [e]
  rw [een_setEntry] at h
  exact wp_setEntry H F G A B p1 p2 (fun q1 => (rt_setEntry _ _ _ _ _ r (Option.some.inj (ifn q1 h)))) (fun q1 q3 => (rt_setEntry _ _ _ _ _ r (Option.some.inj (ifp q3 (ifp q1 h))))) (fun q1 q3 q5 => (rt_setEntry _ _ _ _ _ r (Option.some.inj (ifp q5 (ifn q3 (ifp q1 h)))))) (fun q1 q3 q5 q7 => (rt_setEntry _ _ _ _ _ r (Option.some.inj (ifp q7 (ifn q5 (ifn q3 (ifp q1 h))))))) (fun q1 q3 q5 q7 q9 => (gd (ifn q9 (ifn q7 (ifn q5 (ifn q3 (ifp q1 h)))))).1) (fun q1 q3 q5 q7 q9 => (rt_setEntry _ _ _ _ _ r (Option.some.inj (gd (ifn q9 (ifn q7 (ifn q5 (ifn q3 (ifp q1 h)))))).2))) (fun q1 q3 q5 q7 q9 => (rt_setEntry _ _ _ _ _ r (Option.some.inj (ifp q9 (ifn q7 (ifn q5 (ifn q3 (ifp q1 h))))))))
set_option maxRecDepth 65536 in
set_option maxHeartbeats 4000000 in
theorem wp_start {l : Launch} {Z : State} {a0 : Array Value} (H : OK Z a0) (F : Nat → Int32) (G : Nat → Int64) (A : Nat → Int32 → Int32) (B : Nat → Int32 → Int64) {Q : Option Value → WO → Prop} (h1 : Q none (16, (ups (ups (ups F 3 (1 : Int32)) 5 ((A 2) (0 : Int32))) 7 (1 : Int32)), G, (ups (ups (ups A 4 (ups (A 4) (0 : Int32) (0 : Int32))) 5 (ups (A 5) (0 : Int32) (0 : Int32))) 6 (ups (A 6) (0 : Int32) (0 : Int32))), B)) :
    Wk l Z (MoC Z cdC) md_start 0 [.val (.ref 0)] [] (16, F, G, A, B) 0 0 Q := by
  refine Wk.aloadN o_start_0 rfl ?_
  refine Wk.iconst o_start_1 (z := (1 : Int32)) (by decide) ?_
  refine Wk.putI (coC H) (mI_status) (wf_status H) (Or.inl (wy_status H)) o_start_2 ?_
  refine Wk.aloadN o_start_5 rfl ?_
  refine Wk.aloadN o_start_6 rfl ?_
  refine Wk.getA (mA_entries) (by decide) (i' := 3) rfl (wf_entries H) o_start_7 ?_
  refine Wk.iconst o_start_10 (z := (0 : Int32)) (by decide) ?_
  refine Wk.iaload (mA_entries) (by decide) (i' := 3) rfl (by decide) (by decide) o_start_11 (y := ((A 2) (0 : Int32))) rfl ?_
  refine Wk.putI (coC H) (mI_pc) (wf_pc H) (Or.inl (wy_pc H)) o_start_12 ?_
  refine Wk.aloadN o_start_15 rfl ?_
  refine Wk.iconst o_start_16 (z := (1 : Int32)) (by decide) ?_
  refine Wk.putI (coC H) (mI_depth) (wf_depth H) (Or.inl (wy_depth H)) o_start_17 ?_
  refine Wk.aloadN o_start_20 rfl ?_
  refine Wk.getA (mA_frameFunc) (by decide) (i' := 5) rfl (wf_frameFunc H) o_start_21 ?_
  refine Wk.iconst o_start_24 (z := (0 : Int32)) (by decide) ?_
  refine Wk.iconst o_start_25 (z := (0 : Int32)) (by decide) ?_
  refine Wk.iastore (coC H) (f := (A 4)) (mA_frameFunc) rfl (by decide) (i' := 5) rfl (by decide) (by decide) o_start_26 ?_
  refine Wk.aloadN o_start_27 rfl ?_
  refine Wk.getA (mA_frameRet) (by decide) (i' := 6) rfl (wf_frameRet H) o_start_28 ?_
  refine Wk.iconst o_start_31 (z := (0 : Int32)) (by decide) ?_
  refine Wk.iconst o_start_32 (z := (0 : Int32)) (by decide) ?_
  refine Wk.iastore (coC H) (f := (A 5)) (mA_frameRet) rfl (by decide) (i' := 6) rfl (by decide) (by decide) o_start_33 ?_
  refine Wk.aloadN o_start_34 rfl ?_
  refine Wk.getA (mA_frameNode) (by decide) (i' := 7) rfl (wf_frameNode H) o_start_35 ?_
  refine Wk.iconst o_start_38 (z := (0 : Int32)) (by decide) ?_
  refine Wk.iconst o_start_39 (z := (0 : Int32)) (by decide) ?_
  refine Wk.iastore (coC H) (f := (A 6)) (mA_frameNode) rfl (by decide) (i' := 7) rfl (by decide) (by decide) o_start_40 ?_
  exact Wk.ret mrC rfl o_start_41 rfl (by decide) (by decide) h1

def F_start (F : Nat → Int32) (A : Nat → Int32 → Int32) : Nat → Int32 := (ups (ups (ups F 3 (1 : Int32)) 5 ((A 2) (0 : Int32))) 7 (1 : Int32))
theorem eF_start (F : Nat → Int32) (A : Nat → Int32 → Int32) : F_start F A = (ups (ups (ups F 3 (1 : Int32)) 5 ((A 2) (0 : Int32))) 7 (1 : Int32)) := Eq.trans rfl rfl
def A_start (A : Nat → Int32 → Int32) : Nat → Int32 → Int32 := (ups (ups (ups A 4 (ups (A 4) (0 : Int32) (0 : Int32))) 5 (ups (A 5) (0 : Int32) (0 : Int32))) 6 (ups (A 6) (0 : Int32) (0 : Int32)))
theorem eA_start (A : Nat → Int32 → Int32) : A_start A = (ups (ups (ups A 4 (ups (A 4) (0 : Int32) (0 : Int32))) 5 (ups (A 5) (0 : Int32) (0 : Int32))) 6 (ups (A 6) (0 : Int32) (0 : Int32))) := Eq.trans rfl rfl
theorem F_start_0 (F : Nat → Int32) (A : Nat → Int32 → Int32) : F_start F A 0 = (F 0) := by
  exact Eq.trans rfl rfl
theorem F_start_1 (F : Nat → Int32) (A : Nat → Int32 → Int32) : F_start F A 1 = (F 1) := by
  exact Eq.trans rfl rfl
theorem F_start_2 (F : Nat → Int32) (A : Nat → Int32 → Int32) : F_start F A 2 = (F 2) := by
  exact Eq.trans rfl rfl
theorem F_start_3 (F : Nat → Int32) (A : Nat → Int32 → Int32) : F_start F A 3 = (1 : Int32) := by
  exact Eq.trans rfl rfl
theorem F_start_4 (F : Nat → Int32) (A : Nat → Int32 → Int32) : F_start F A 4 = (F 4) := by
  exact Eq.trans rfl rfl
theorem F_start_5 (F : Nat → Int32) (A : Nat → Int32 → Int32) : F_start F A 5 = ((A 2) (0 : Int32)) := by
  exact Eq.trans rfl rfl
theorem F_start_6 (F : Nat → Int32) (A : Nat → Int32 → Int32) : F_start F A 6 = (F 6) := by
  exact Eq.trans rfl rfl
theorem F_start_7 (F : Nat → Int32) (A : Nat → Int32 → Int32) : F_start F A 7 = (1 : Int32) := by
  exact Eq.trans rfl rfl
theorem F_start_8 (F : Nat → Int32) (A : Nat → Int32 → Int32) : F_start F A 8 = (F 8) := by
  exact Eq.trans rfl rfl
theorem F_start_9 (F : Nat → Int32) (A : Nat → Int32 → Int32) : F_start F A 9 = (F 9) := by
  exact Eq.trans rfl rfl
theorem F_start_10 (F : Nat → Int32) (A : Nat → Int32 → Int32) : F_start F A 10 = (F 10) := by
  exact Eq.trans rfl rfl
theorem F_start_11 (F : Nat → Int32) (A : Nat → Int32 → Int32) : F_start F A 11 = (F 11) := by
  exact Eq.trans rfl rfl
theorem F_start_12 (F : Nat → Int32) (A : Nat → Int32 → Int32) : F_start F A 12 = (F 12) := by
  exact Eq.trans rfl rfl
theorem F_start_13 (F : Nat → Int32) (A : Nat → Int32 → Int32) : F_start F A 13 = (F 13) := by
  exact Eq.trans rfl rfl
theorem run_start {l : Launch} {Z : State} {a0 : Array Value} (H : OK Z a0) (F : Nat → Int32) (G : Nat → Int64) (A : Nat → Int32 → Int32) (B : Nat → Int32 → Int64) :
    Wk l Z (MoC Z cdC) md_start 0 [.val (.ref 0)] [] (16, F, G, A, B) 0 0 (fun v w' => v = none ∧ w' = (16, (F_start F A), G, (A_start A), B)) :=
  wp_start H F G A B ⟨rfl, rfl⟩
set_option maxRecDepth 65536 in
set_option maxHeartbeats 4000000 in
theorem wp_callFaults {l : Launch} {Z : State} {a0 : Array Value} (H : OK Z a0) (F : Nat → Int32) (G : Nat → Int64) (A : Nat → Int32 → Int32) (B : Nat → Int32 → Int64) (p1 : Int32) {Q : Option Value → WO → Prop} (h2 : p1 < 0 → Q (some (.int (1 : Int32))) (16, F, G, A, B)) (s4 : ¬ p1 < 0 → ¬ (7 : Int32) < p1 → p1 < (8 : Int32)) (h10 : ¬ p1 < 0 → ¬ (7 : Int32) < p1 → ¬ ((A 2) p1) < 0 → Q (some (.int (nar .boolean (if (F 7) < (F 2) then (if (F 7) < (16 : Int32) then (0 : Int32) else (1 : Int32)) else (1 : Int32))))) (16, F, G, A, B)) (h11 : ¬ p1 < 0 → ¬ (7 : Int32) < p1 → ((A 2) p1) < 0 → Q (some (.int (1 : Int32))) (16, F, G, A, B)) (h12 : ¬ p1 < 0 → (7 : Int32) < p1 → Q (some (.int (1 : Int32))) (16, F, G, A, B)) :
    Wk l Z (MoC Z cdC) md_callFaults 0 [.val (.ref 0), .val (.int p1)] [] (16, F, G, A, B) 0 0 Q := by
  refine Wk.iloadN o_callFaults_0 rfl ?_
  refine Wk.if_lt o_callFaults_1 (fun q1 => ?_) (fun q1 => ?_)
  · refine Wk.iconst o_callFaults_10 (z := (1 : Int32)) (by decide) ?_
    exact Wk.zreturn mrC rfl o_callFaults_11 rfl (by decide) (by decide) (y := (1 : Int32)) (by decide) (h2 q1)
  · refine Wk.iloadN o_callFaults_4 rfl ?_
    refine Wk.bipush o_callFaults_5 (z := (7 : Int32)) (by decide) ?_
    refine Wk.icmp_le o_callFaults_7 (fun q3 => ?_) (fun q3 => ?_)
    · refine Wk.aloadN o_callFaults_12 rfl ?_
      refine Wk.getA (mA_entries) (by decide) (i' := 3) rfl (wf_entries H) o_callFaults_13 ?_
      refine Wk.iloadN o_callFaults_16 rfl ?_
      refine Wk.iaload (mA_entries) (by decide) (i' := 3) rfl q1 (s4 q1 q3) o_callFaults_17 (y := ((A 2) p1)) rfl ?_
      refine Wk.if_ge o_callFaults_18 (fun q5 => ?_) (fun q5 => ?_)
      · refine Wk.aloadN o_callFaults_23 rfl ?_
        refine Wk.getI (mI_depth) (wf_depth H) o_callFaults_24 (x := (F 7)) rfl ?_
        refine Wk.aloadN o_callFaults_27 rfl ?_
        refine Wk.getI (mI_maxDepth) (wf_maxDepth H) o_callFaults_28 (x := (F 2)) rfl ?_
        have J9 : Wk l Z (MoC Z cdC) md_callFaults 48 [.val (.ref 0), .val (.int p1)] [.int (if (F 7) < (F 2) then (if (F 7) < (16 : Int32) then (0 : Int32) else (1 : Int32)) else (1 : Int32))] (16, F, G, A, B) 0 0 Q := by
          exact Wk.zreturn mrC rfl o_callFaults_48 rfl (by decide) (by decide) (y := (nar .boolean (if (F 7) < (F 2) then (if (F 7) < (16 : Int32) then (0 : Int32) else (1 : Int32)) else (1 : Int32)))) rfl (h10 q1 q3 q5)
        refine Wk.icmp_ge o_callFaults_31 (fun q6 => ?_) (fun q6 => ?_)
        · refine Wk.iconst o_callFaults_43 (z := (1 : Int32)) (by decide) ?_
          refine Wk.goto o_callFaults_44 ?_
          first | (rw [show ((if (F 7) < (F 2) then (if (F 7) < (16 : Int32) then (0 : Int32) else (1 : Int32)) else (1 : Int32)) : Int32) = (1 : Int32) from if_neg q6] at J9; exact J9) | exact J9 | (simp only [if_neg q6] at J9 ⊢; exact J9)
        · refine Wk.aloadN o_callFaults_34 rfl ?_
          refine Wk.getI (mI_depth) (wf_depth H) o_callFaults_35 (x := (F 7)) rfl ?_
          refine Wk.bipush o_callFaults_38 (z := (16 : Int32)) (by decide) ?_
          refine Wk.icmp_lt o_callFaults_40 (fun q7 => ?_) (fun q7 => ?_)
          · refine Wk.iconst o_callFaults_47 (z := (0 : Int32)) (by decide) ?_
            first | (rw [show ((if (F 7) < (F 2) then (if (F 7) < (16 : Int32) then (0 : Int32) else (1 : Int32)) else (1 : Int32)) : Int32) = (0 : Int32) from Eq.trans (if_pos q6) <| if_pos q7] at J9; exact J9) | exact J9 | (simp only [if_pos q6, if_pos q7] at J9 ⊢; exact J9)
          · refine Wk.iconst o_callFaults_43 (z := (1 : Int32)) (by decide) ?_
            refine Wk.goto o_callFaults_44 ?_
            first | (rw [show ((if (F 7) < (F 2) then (if (F 7) < (16 : Int32) then (0 : Int32) else (1 : Int32)) else (1 : Int32)) : Int32) = (1 : Int32) from Eq.trans (if_pos q6) <| if_neg q7] at J9; exact J9) | exact J9 | (simp only [if_pos q6, if_neg q7] at J9 ⊢; exact J9)
      · refine Wk.iconst o_callFaults_21 (z := (1 : Int32)) (by decide) ?_
        exact Wk.zreturn mrC rfl o_callFaults_22 rfl (by decide) (by decide) (y := (1 : Int32)) (by decide) (h11 q1 q3 q5)
    · refine Wk.iconst o_callFaults_10 (z := (1 : Int32)) (by decide) ?_
      exact Wk.zreturn mrC rfl o_callFaults_11 rfl (by decide) (by decide) (y := (1 : Int32)) (by decide) (h12 q1 q3)

theorem rt_callFaults (F : Nat → Int32) (G : Nat → Int64) (A : Nat → Int32 → Int32) (B : Nat → Int32 → Int64) (v0 : Int32) (r : Int32) (e : v0 = r) : some (Value.int v0) = some (.int r) ∧ (16, F, G, A, B) = (16, F, G, A, B) := by subst e; exact ⟨rfl, rfl⟩
def en_callFaults (F : Nat → Int32) (A : Nat → Int32 → Int32) (p1 : Int32) : Option (Int32) := (if p1 < 0 then some ((1 : Int32)) else (if (7 : Int32) < p1 then some ((1 : Int32)) else (if (p1 < (8 : Int32)) then (if ((A 2) p1) < 0 then some ((1 : Int32)) else some ((nar .boolean (if (F 7) < (F 2) then (if (F 7) < (16 : Int32) then (0 : Int32) else (1 : Int32)) else (1 : Int32))))) else none)))
theorem een_callFaults (F : Nat → Int32) (A : Nat → Int32 → Int32) (p1 : Int32) : en_callFaults F A p1 = (if p1 < 0 then some ((1 : Int32)) else (if (7 : Int32) < p1 then some ((1 : Int32)) else (if (p1 < (8 : Int32)) then (if ((A 2) p1) < 0 then some ((1 : Int32)) else some ((nar .boolean (if (F 7) < (F 2) then (if (F 7) < (16 : Int32) then (0 : Int32) else (1 : Int32)) else (1 : Int32))))) else none))) := Eq.trans rfl rfl
def R_callFaults (F : Nat → Int32) (A : Nat → Int32 → Int32) (p1 : Int32) : Int32 := (en_callFaults F A p1).getD (0)
theorem eR_callFaults (F : Nat → Int32) (A : Nat → Int32 → Int32) (p1 : Int32) : R_callFaults F A p1 = (en_callFaults F A p1).getD (0) := Eq.trans rfl rfl
set_option maxRecDepth 65536 in
set_option maxHeartbeats 4000000 in
theorem run_callFaults {l : Launch} {Z : State} {a0 : Array Value} (H : OK Z a0) (F : Nat → Int32) (G : Nat → Int64) (A : Nat → Int32 → Int32) (B : Nat → Int32 → Int64) (p1 : Int32) (e1 : (en_callFaults F A p1).isSome = true) :
    Wk l Z (MoC Z cdC) md_callFaults 0 [.val (.ref 0), .val (.int p1)] [] (16, F, G, A, B) 0 0 (fun v w' => v = some (.int (R_callFaults F A p1)) ∧ w' = (16, F, G, A, B)) := by
  obtain ⟨r, h⟩ := Option.isSome_iff_exists.mp e1
  have e : R_callFaults F A p1 = r := (eR_callFaults F A p1).trans (getD_some h)
  rw [e]
  rw [een_callFaults] at h
  exact wp_callFaults H F G A B p1 (fun q1 => (rt_callFaults _ _ _ _ _ r (Option.some.inj (ifp q1 h)))) (fun q1 q3 => (gd (ifn q3 (ifn q1 h))).1) (fun q1 q3 q5 => (rt_callFaults _ _ _ _ _ r (Option.some.inj (ifn q5 (gd (ifn q3 (ifn q1 h))).2)))) (fun q1 q3 q5 => (rt_callFaults _ _ _ _ _ r (Option.some.inj (ifp q5 (gd (ifn q3 (ifn q1 h))).2)))) (fun q1 q3 => (rt_callFaults _ _ _ _ _ r (Option.some.inj (ifp q3 (ifn q1 h)))))
set_option maxRecDepth 65536 in
set_option maxHeartbeats 4000000 in
theorem wp_faults {l : Launch} {Z : State} {a0 : Array Value} (H : OK Z a0) (F : Nat → Int32) (G : Nat → Int64) (A : Nat → Int32 → Int32) (B : Nat → Int32 → Int64) (p1 : Int32) (p2 : Int32) {Q : Option Value → WO → Prop} (h4 : p1 = (1 : Int32) → Q (some (.int (nar .boolean (if (F 6) < (16 : Int32) then (0 : Int32) else (1 : Int32))))) (16, F, G, A, B)) (h8 : ¬ p1 = (1 : Int32) → p1 = (2 : Int32) → Q (some (.int (nar .boolean (if (F 6) < (2 : Int32) then (1 : Int32) else (0 : Int32))))) (16, F, G, A, B)) (h12 : ¬ p1 = (1 : Int32) → ¬ p1 = (2 : Int32) → p1 = (3 : Int32) → Q (some (.int (nar .boolean (if (F 6) < (2 : Int32) then (1 : Int32) else (0 : Int32))))) (16, F, G, A, B)) (h18 : ¬ p1 = (1 : Int32) → ¬ p1 = (2 : Int32) → ¬ p1 = (3 : Int32) → p1 = (4 : Int32) → Q (some (.int (nar .boolean (if 0 < (F 6) then (if (F 6) < (16 : Int32) then (0 : Int32) else (1 : Int32)) else (1 : Int32))))) (16, F, G, A, B)) (h22 : ¬ p1 = (1 : Int32) → ¬ p1 = (2 : Int32) → ¬ p1 = (3 : Int32) → ¬ p1 = (4 : Int32) → p1 = (5 : Int32) → Q (some (.int (nar .boolean (if 0 < (F 6) then (0 : Int32) else (1 : Int32))))) (16, F, G, A, B)) (h24 : ¬ p1 = (1 : Int32) → ¬ p1 = (2 : Int32) → ¬ p1 = (3 : Int32) → ¬ p1 = (4 : Int32) → ¬ p1 = (5 : Int32) → p1 = (6 : Int32) → Q (some (.int (0 : Int32))) (16, F, G, A, B)) (h28 : ¬ p1 = (1 : Int32) → ¬ p1 = (2 : Int32) → ¬ p1 = (3 : Int32) → ¬ p1 = (4 : Int32) → ¬ p1 = (5 : Int32) → ¬ p1 = (6 : Int32) → p1 = (7 : Int32) → Q (some (.int (nar .boolean (if 0 < (F 6) then (0 : Int32) else (1 : Int32))))) (16, F, G, A, B)) (s30 : ¬ p1 = (1 : Int32) → ¬ p1 = (2 : Int32) → ¬ p1 = (3 : Int32) → ¬ p1 = (4 : Int32) → ¬ p1 = (5 : Int32) → ¬ p1 = (6 : Int32) → ¬ p1 = (7 : Int32) → p1 = (8 : Int32) → (en_callFaults F A p2).isSome = true) (h31 : ¬ p1 = (1 : Int32) → ¬ p1 = (2 : Int32) → ¬ p1 = (3 : Int32) → ¬ p1 = (4 : Int32) → ¬ p1 = (5 : Int32) → ¬ p1 = (6 : Int32) → ¬ p1 = (7 : Int32) → p1 = (8 : Int32) → Q (some (.int (nar .boolean (R_callFaults F A p2)))) (16, F, G, A, B)) (h32 : ¬ p1 = (1 : Int32) → ¬ p1 = (2 : Int32) → ¬ p1 = (3 : Int32) → ¬ p1 = (4 : Int32) → ¬ p1 = (5 : Int32) → ¬ p1 = (6 : Int32) → ¬ p1 = (7 : Int32) → ¬ p1 = (8 : Int32) → Q (some (.int (0 : Int32))) (16, F, G, A, B)) :
    Wk l Z (MoC Z cdC) md_faults 0 [.val (.ref 0), .val (.int p1), .val (.int p2)] [] (16, F, G, A, B) 0 0 Q := by
  refine Wk.iloadN o_faults_0 rfl ?_
  by_cases q1 : p1 = (1 : Int32)
  · refine Wk.tswIn o_faults_1_1 q1 (by decide) (by decide) ?_
    refine Wk.aloadN o_faults_48 rfl ?_
    refine Wk.getI (mI_sp) (wf_sp H) o_faults_49 (x := (F 6)) rfl ?_
    refine Wk.bipush o_faults_52 (z := (16 : Int32)) (by decide) ?_
    have J3 : Wk l Z (MoC Z cdC) md_faults 62 [.val (.ref 0), .val (.int p1), .val (.int p2)] [.int (if (F 6) < (16 : Int32) then (0 : Int32) else (1 : Int32))] (16, F, G, A, B) 0 0 Q := by
      exact Wk.zreturn mrC rfl o_faults_62 rfl (by decide) (by decide) (y := (nar .boolean (if (F 6) < (16 : Int32) then (0 : Int32) else (1 : Int32)))) rfl (h4 q1)
    refine Wk.icmp_lt o_faults_54 (fun q2 => ?_) (fun q2 => ?_)
    · refine Wk.iconst o_faults_61 (z := (0 : Int32)) (by decide) ?_
      first | (rw [show ((if (F 6) < (16 : Int32) then (0 : Int32) else (1 : Int32)) : Int32) = (0 : Int32) from if_pos q2] at J3; exact J3) | exact J3 | (simp only [if_pos q2] at J3 ⊢; exact J3)
    · refine Wk.iconst o_faults_57 (z := (1 : Int32)) (by decide) ?_
      refine Wk.goto o_faults_58 ?_
      first | (rw [show ((if (F 6) < (16 : Int32) then (0 : Int32) else (1 : Int32)) : Int32) = (1 : Int32) from if_neg q2] at J3; exact J3) | exact J3 | (simp only [if_neg q2] at J3 ⊢; exact J3)
  · by_cases q5 : p1 = (2 : Int32)
    · refine Wk.tswIn o_faults_1_2 q5 (by decide) (by decide) ?_
      refine Wk.aloadN o_faults_63 rfl ?_
      refine Wk.getI (mI_sp) (wf_sp H) o_faults_64 (x := (F 6)) rfl ?_
      refine Wk.iconst o_faults_67 (z := (2 : Int32)) (by decide) ?_
      have J7 : Wk l Z (MoC Z cdC) md_faults 76 [.val (.ref 0), .val (.int p1), .val (.int p2)] [.int (if (F 6) < (2 : Int32) then (1 : Int32) else (0 : Int32))] (16, F, G, A, B) 0 0 Q := by
        exact Wk.zreturn mrC rfl o_faults_76 rfl (by decide) (by decide) (y := (nar .boolean (if (F 6) < (2 : Int32) then (1 : Int32) else (0 : Int32)))) rfl (h8 q1 q5)
      refine Wk.icmp_ge o_faults_68 (fun q6 => ?_) (fun q6 => ?_)
      · refine Wk.iconst o_faults_75 (z := (0 : Int32)) (by decide) ?_
        first | (rw [show ((if (F 6) < (2 : Int32) then (1 : Int32) else (0 : Int32)) : Int32) = (0 : Int32) from if_neg q6] at J7; exact J7) | exact J7 | (simp only [if_neg q6] at J7 ⊢; exact J7)
      · refine Wk.iconst o_faults_71 (z := (1 : Int32)) (by decide) ?_
        refine Wk.goto o_faults_72 ?_
        first | (rw [show ((if (F 6) < (2 : Int32) then (1 : Int32) else (0 : Int32)) : Int32) = (1 : Int32) from if_pos q6] at J7; exact J7) | exact J7 | (simp only [if_pos q6] at J7 ⊢; exact J7)
    · by_cases q9 : p1 = (3 : Int32)
      · refine Wk.tswIn o_faults_1_3 q9 (by decide) (by decide) ?_
        refine Wk.aloadN o_faults_63 rfl ?_
        refine Wk.getI (mI_sp) (wf_sp H) o_faults_64 (x := (F 6)) rfl ?_
        refine Wk.iconst o_faults_67 (z := (2 : Int32)) (by decide) ?_
        have J11 : Wk l Z (MoC Z cdC) md_faults 76 [.val (.ref 0), .val (.int p1), .val (.int p2)] [.int (if (F 6) < (2 : Int32) then (1 : Int32) else (0 : Int32))] (16, F, G, A, B) 0 0 Q := by
          exact Wk.zreturn mrC rfl o_faults_76 rfl (by decide) (by decide) (y := (nar .boolean (if (F 6) < (2 : Int32) then (1 : Int32) else (0 : Int32)))) rfl (h12 q1 q5 q9)
        refine Wk.icmp_ge o_faults_68 (fun q10 => ?_) (fun q10 => ?_)
        · refine Wk.iconst o_faults_75 (z := (0 : Int32)) (by decide) ?_
          first | (rw [show ((if (F 6) < (2 : Int32) then (1 : Int32) else (0 : Int32)) : Int32) = (0 : Int32) from if_neg q10] at J11; exact J11) | exact J11 | (simp only [if_neg q10] at J11 ⊢; exact J11)
        · refine Wk.iconst o_faults_71 (z := (1 : Int32)) (by decide) ?_
          refine Wk.goto o_faults_72 ?_
          first | (rw [show ((if (F 6) < (2 : Int32) then (1 : Int32) else (0 : Int32)) : Int32) = (1 : Int32) from if_pos q10] at J11; exact J11) | exact J11 | (simp only [if_pos q10] at J11 ⊢; exact J11)
      · by_cases q13 : p1 = (4 : Int32)
        · refine Wk.tswIn o_faults_1_4 q13 (by decide) (by decide) ?_
          refine Wk.aloadN o_faults_77 rfl ?_
          refine Wk.getI (mI_sp) (wf_sp H) o_faults_78 (x := (F 6)) rfl ?_
          have J17 : Wk l Z (MoC Z cdC) md_faults 98 [.val (.ref 0), .val (.int p1), .val (.int p2)] [.int (if 0 < (F 6) then (if (F 6) < (16 : Int32) then (0 : Int32) else (1 : Int32)) else (1 : Int32))] (16, F, G, A, B) 0 0 Q := by
            exact Wk.zreturn mrC rfl o_faults_98 rfl (by decide) (by decide) (y := (nar .boolean (if 0 < (F 6) then (if (F 6) < (16 : Int32) then (0 : Int32) else (1 : Int32)) else (1 : Int32)))) rfl (h18 q1 q5 q9 q13)
          refine Wk.if_le o_faults_81 (fun q14 => ?_) (fun q14 => ?_)
          · refine Wk.iconst o_faults_93 (z := (1 : Int32)) (by decide) ?_
            refine Wk.goto o_faults_94 ?_
            first | (rw [show ((if 0 < (F 6) then (if (F 6) < (16 : Int32) then (0 : Int32) else (1 : Int32)) else (1 : Int32)) : Int32) = (1 : Int32) from if_neg q14] at J17; exact J17) | exact J17 | (simp only [if_neg q14] at J17 ⊢; exact J17)
          · refine Wk.aloadN o_faults_84 rfl ?_
            refine Wk.getI (mI_sp) (wf_sp H) o_faults_85 (x := (F 6)) rfl ?_
            refine Wk.bipush o_faults_88 (z := (16 : Int32)) (by decide) ?_
            refine Wk.icmp_lt o_faults_90 (fun q15 => ?_) (fun q15 => ?_)
            · refine Wk.iconst o_faults_97 (z := (0 : Int32)) (by decide) ?_
              first | (rw [show ((if 0 < (F 6) then (if (F 6) < (16 : Int32) then (0 : Int32) else (1 : Int32)) else (1 : Int32)) : Int32) = (0 : Int32) from Eq.trans (if_pos q14) <| if_pos q15] at J17; exact J17) | exact J17 | (simp only [if_pos q14, if_pos q15] at J17 ⊢; exact J17)
            · refine Wk.iconst o_faults_93 (z := (1 : Int32)) (by decide) ?_
              refine Wk.goto o_faults_94 ?_
              first | (rw [show ((if 0 < (F 6) then (if (F 6) < (16 : Int32) then (0 : Int32) else (1 : Int32)) else (1 : Int32)) : Int32) = (1 : Int32) from Eq.trans (if_pos q14) <| if_neg q15] at J17; exact J17) | exact J17 | (simp only [if_pos q14, if_neg q15] at J17 ⊢; exact J17)
        · by_cases q19 : p1 = (5 : Int32)
          · refine Wk.tswIn o_faults_1_5 q19 (by decide) (by decide) ?_
            refine Wk.aloadN o_faults_99 rfl ?_
            refine Wk.getI (mI_sp) (wf_sp H) o_faults_100 (x := (F 6)) rfl ?_
            have J21 : Wk l Z (MoC Z cdC) md_faults 111 [.val (.ref 0), .val (.int p1), .val (.int p2)] [.int (if 0 < (F 6) then (0 : Int32) else (1 : Int32))] (16, F, G, A, B) 0 0 Q := by
              exact Wk.zreturn mrC rfl o_faults_111 rfl (by decide) (by decide) (y := (nar .boolean (if 0 < (F 6) then (0 : Int32) else (1 : Int32)))) rfl (h22 q1 q5 q9 q13 q19)
            refine Wk.if_gt o_faults_103 (fun q20 => ?_) (fun q20 => ?_)
            · refine Wk.iconst o_faults_110 (z := (0 : Int32)) (by decide) ?_
              first | (rw [show ((if 0 < (F 6) then (0 : Int32) else (1 : Int32)) : Int32) = (0 : Int32) from if_pos q20] at J21; exact J21) | exact J21 | (simp only [if_pos q20] at J21 ⊢; exact J21)
            · refine Wk.iconst o_faults_106 (z := (1 : Int32)) (by decide) ?_
              refine Wk.goto o_faults_107 ?_
              first | (rw [show ((if 0 < (F 6) then (0 : Int32) else (1 : Int32)) : Int32) = (1 : Int32) from if_neg q20] at J21; exact J21) | exact J21 | (simp only [if_neg q20] at J21 ⊢; exact J21)
          · by_cases q23 : p1 = (6 : Int32)
            · refine Wk.tswIn o_faults_1_6 q23 (by decide) (by decide) ?_
              refine Wk.iconst o_faults_118 (z := (0 : Int32)) (by decide) ?_
              exact Wk.zreturn mrC rfl o_faults_119 rfl (by decide) (by decide) (y := (0 : Int32)) (by decide) (h24 q1 q5 q9 q13 q19 q23)
            · by_cases q25 : p1 = (7 : Int32)
              · refine Wk.tswIn o_faults_1_7 q25 (by decide) (by decide) ?_
                refine Wk.aloadN o_faults_99 rfl ?_
                refine Wk.getI (mI_sp) (wf_sp H) o_faults_100 (x := (F 6)) rfl ?_
                have J27 : Wk l Z (MoC Z cdC) md_faults 111 [.val (.ref 0), .val (.int p1), .val (.int p2)] [.int (if 0 < (F 6) then (0 : Int32) else (1 : Int32))] (16, F, G, A, B) 0 0 Q := by
                  exact Wk.zreturn mrC rfl o_faults_111 rfl (by decide) (by decide) (y := (nar .boolean (if 0 < (F 6) then (0 : Int32) else (1 : Int32)))) rfl (h28 q1 q5 q9 q13 q19 q23 q25)
                refine Wk.if_gt o_faults_103 (fun q26 => ?_) (fun q26 => ?_)
                · refine Wk.iconst o_faults_110 (z := (0 : Int32)) (by decide) ?_
                  first | (rw [show ((if 0 < (F 6) then (0 : Int32) else (1 : Int32)) : Int32) = (0 : Int32) from if_pos q26] at J27; exact J27) | exact J27 | (simp only [if_pos q26] at J27 ⊢; exact J27)
                · refine Wk.iconst o_faults_106 (z := (1 : Int32)) (by decide) ?_
                  refine Wk.goto o_faults_107 ?_
                  first | (rw [show ((if 0 < (F 6) then (0 : Int32) else (1 : Int32)) : Int32) = (1 : Int32) from if_neg q26] at J27; exact J27) | exact J27 | (simp only [if_neg q26] at J27 ⊢; exact J27)
              · by_cases q29 : p1 = (8 : Int32)
                · refine Wk.tswIn o_faults_1_8 q29 (by decide) (by decide) ?_
                  refine Wk.aloadN o_faults_112 rfl ?_
                  refine Wk.iloadN o_faults_113 rfl ?_
                  refine Wk.callF [.int p2] [] (H.w 122 rfl) (cv_callFaults H) o_faults_114 (run_callFaults H F G A B p2 (s30 q1 q5 q9 q13 q19 q23 q25 q29)) (wt := 0) (cu' := 0) (su' := 0) (by decide) rfl rfl rfl rfl rfl rfl rfl ?_
                  exact Wk.zreturn mrC rfl o_faults_117 rfl (by decide) (by decide) (y := (nar .boolean (R_callFaults F A p2))) rfl (h31 q1 q5 q9 q13 q19 q23 q25 q29)
                · refine Wk.tswOut o_faults_1_d (by have a0 : Int32.toInt p1 ≠ 1 := ne_toInt q1; have a1 : Int32.toInt p1 ≠ 2 := ne_toInt q5; have a2 : Int32.toInt p1 ≠ 3 := ne_toInt q9; have a3 : Int32.toInt p1 ≠ 4 := ne_toInt q13; have a4 : Int32.toInt p1 ≠ 5 := ne_toInt q19; have a5 : Int32.toInt p1 ≠ 6 := ne_toInt q23; have a6 : Int32.toInt p1 ≠ 7 := ne_toInt q25; have a7 : Int32.toInt p1 ≠ 8 := ne_toInt q29; omega) ?_
                  refine Wk.iconst o_faults_118 (z := (0 : Int32)) (by decide) ?_
                  exact Wk.zreturn mrC rfl o_faults_119 rfl (by decide) (by decide) (y := (0 : Int32)) (by decide) (h32 q1 q5 q9 q13 q19 q23 q25 q29)

theorem rt_faults (F : Nat → Int32) (G : Nat → Int64) (A : Nat → Int32 → Int32) (B : Nat → Int32 → Int64) (v0 : Int32) (r : Int32) (e : v0 = r) : some (Value.int v0) = some (.int r) ∧ (16, F, G, A, B) = (16, F, G, A, B) := by subst e; exact ⟨rfl, rfl⟩
def en_faults (F : Nat → Int32) (A : Nat → Int32 → Int32) (p1 : Int32) (p2 : Int32) : Option (Int32) := (if p1 = (1 : Int32) then some ((nar .boolean (if (F 6) < (16 : Int32) then (0 : Int32) else (1 : Int32)))) else (if p1 = (2 : Int32) then some ((nar .boolean (if (F 6) < (2 : Int32) then (1 : Int32) else (0 : Int32)))) else (if p1 = (3 : Int32) then some ((nar .boolean (if (F 6) < (2 : Int32) then (1 : Int32) else (0 : Int32)))) else (if p1 = (4 : Int32) then some ((nar .boolean (if 0 < (F 6) then (if (F 6) < (16 : Int32) then (0 : Int32) else (1 : Int32)) else (1 : Int32)))) else (if p1 = (5 : Int32) then some ((nar .boolean (if 0 < (F 6) then (0 : Int32) else (1 : Int32)))) else (if p1 = (6 : Int32) then some ((0 : Int32)) else (if p1 = (7 : Int32) then some ((nar .boolean (if 0 < (F 6) then (0 : Int32) else (1 : Int32)))) else (if p1 = (8 : Int32) then (if ((en_callFaults F A p2).isSome = true) then some ((nar .boolean (R_callFaults F A p2))) else none) else some ((0 : Int32))))))))))
theorem een_faults (F : Nat → Int32) (A : Nat → Int32 → Int32) (p1 : Int32) (p2 : Int32) : en_faults F A p1 p2 = (if p1 = (1 : Int32) then some ((nar .boolean (if (F 6) < (16 : Int32) then (0 : Int32) else (1 : Int32)))) else (if p1 = (2 : Int32) then some ((nar .boolean (if (F 6) < (2 : Int32) then (1 : Int32) else (0 : Int32)))) else (if p1 = (3 : Int32) then some ((nar .boolean (if (F 6) < (2 : Int32) then (1 : Int32) else (0 : Int32)))) else (if p1 = (4 : Int32) then some ((nar .boolean (if 0 < (F 6) then (if (F 6) < (16 : Int32) then (0 : Int32) else (1 : Int32)) else (1 : Int32)))) else (if p1 = (5 : Int32) then some ((nar .boolean (if 0 < (F 6) then (0 : Int32) else (1 : Int32)))) else (if p1 = (6 : Int32) then some ((0 : Int32)) else (if p1 = (7 : Int32) then some ((nar .boolean (if 0 < (F 6) then (0 : Int32) else (1 : Int32)))) else (if p1 = (8 : Int32) then (if ((en_callFaults F A p2).isSome = true) then some ((nar .boolean (R_callFaults F A p2))) else none) else some ((0 : Int32)))))))))) := Eq.trans rfl rfl
def R_faults (F : Nat → Int32) (A : Nat → Int32 → Int32) (p1 : Int32) (p2 : Int32) : Int32 := (en_faults F A p1 p2).getD (0)
theorem eR_faults (F : Nat → Int32) (A : Nat → Int32 → Int32) (p1 : Int32) (p2 : Int32) : R_faults F A p1 p2 = (en_faults F A p1 p2).getD (0) := Eq.trans rfl rfl
set_option maxRecDepth 65536 in
set_option maxHeartbeats 4000000 in
theorem run_faults {l : Launch} {Z : State} {a0 : Array Value} (H : OK Z a0) (F : Nat → Int32) (G : Nat → Int64) (A : Nat → Int32 → Int32) (B : Nat → Int32 → Int64) (p1 : Int32) (p2 : Int32) (e1 : (en_faults F A p1 p2).isSome = true) :
    Wk l Z (MoC Z cdC) md_faults 0 [.val (.ref 0), .val (.int p1), .val (.int p2)] [] (16, F, G, A, B) 0 0 (fun v w' => v = some (.int (R_faults F A p1 p2)) ∧ w' = (16, F, G, A, B)) := by
  obtain ⟨r, h⟩ := Option.isSome_iff_exists.mp e1
  have e : R_faults F A p1 p2 = r := (eR_faults F A p1 p2).trans (getD_some h)
  rw [e]
  rw [een_faults] at h
  exact wp_faults H F G A B p1 p2 (fun q1 => (rt_faults _ _ _ _ _ r (Option.some.inj (ifp q1 h)))) (fun q1 q5 => (rt_faults _ _ _ _ _ r (Option.some.inj (ifp q5 (ifn q1 h))))) (fun q1 q5 q9 => (rt_faults _ _ _ _ _ r (Option.some.inj (ifp q9 (ifn q5 (ifn q1 h)))))) (fun q1 q5 q9 q13 => (rt_faults _ _ _ _ _ r (Option.some.inj (ifp q13 (ifn q9 (ifn q5 (ifn q1 h))))))) (fun q1 q5 q9 q13 q19 => (rt_faults _ _ _ _ _ r (Option.some.inj (ifp q19 (ifn q13 (ifn q9 (ifn q5 (ifn q1 h)))))))) (fun q1 q5 q9 q13 q19 q23 => (rt_faults _ _ _ _ _ r (Option.some.inj (ifp q23 (ifn q19 (ifn q13 (ifn q9 (ifn q5 (ifn q1 h))))))))) (fun q1 q5 q9 q13 q19 q23 q25 => (rt_faults _ _ _ _ _ r (Option.some.inj (ifp q25 (ifn q23 (ifn q19 (ifn q13 (ifn q9 (ifn q5 (ifn q1 h)))))))))) (fun q1 q5 q9 q13 q19 q23 q25 q29 => (gd (ifp q29 (ifn q25 (ifn q23 (ifn q19 (ifn q13 (ifn q9 (ifn q5 (ifn q1 h))))))))).1) (fun q1 q5 q9 q13 q19 q23 q25 q29 => (rt_faults _ _ _ _ _ r (Option.some.inj (gd (ifp q29 (ifn q25 (ifn q23 (ifn q19 (ifn q13 (ifn q9 (ifn q5 (ifn q1 h))))))))).2))) (fun q1 q5 q9 q13 q19 q23 q25 q29 => (rt_faults _ _ _ _ _ r (Option.some.inj (ifn q29 (ifn q25 (ifn q23 (ifn q19 (ifn q13 (ifn q9 (ifn q5 (ifn q1 h)))))))))))
set_option maxRecDepth 65536 in
set_option maxHeartbeats 4000000 in
theorem wp_addInclusive {l : Launch} {Z : State} {a0 : Array Value} (H : OK Z a0) (F : Nat → Int32) (G : Nat → Int64) (A : Nat → Int32 → Int32) (B : Nat → Int32 → Int64) (p1 : Int32) {Q : Option Value → WO → Prop} (h1 : Wk l Z (MoC Z cdC) md_addInclusive 4 [.val (.ref 0), .unset, .val (.int p1), .val (.int (0 : Int32))] [] (16, F, G, A, B) 0 0 Q) :
    Wk l Z (MoC Z cdC) md_addInclusive 0 [.val (.ref 0), .val (.int p1), .unset, .unset] [] (16, F, G, A, B) 0 0 Q := by
  refine Wk.iloadN o_addInclusive_0 rfl ?_
  refine Wk.istoreN o_addInclusive_1 (Or.inl rfl) (L' := [.val (.ref 0), .val (.int p1), .val (.int p1), .unset]) rfl ?_
  refine Wk.iconst o_addInclusive_2 (z := (0 : Int32)) (by decide) ?_
  refine Wk.istoreN o_addInclusive_3 (Or.inl rfl) (L' := [.val (.ref 0), .val (.int p1), .val (.int p1), .val (.int (0 : Int32))]) rfl ?_
  refine Wk.forget [false, true, false, false] (L' := [.val (.ref 0), .unset, .val (.int p1), .val (.int (0 : Int32))]) rfl rfl ?_
  exact h1

set_option maxRecDepth 65536 in
set_option maxHeartbeats 4000000 in
theorem wp_addInclusive_4 {l : Launch} {Z : State} {a0 : Array Value} (H : OK Z a0) (F : Nat → Int32) (G : Nat → Int64) (A : Nat → Int32 → Int32) (B : Nat → Int32 → Int64) (v2 : Int32) (v3 : Int32) {Q : Option Value → WO → Prop} (h2 : ¬ v3 < (32 : Int32) → Q none (16, F, G, A, B)) (h4 : v3 < (32 : Int32) → v2 < 0 → Q none (16, F, G, A, B)) (s5 : v3 < (32 : Int32) → ¬ v2 < 0 → v2 < (32 : Int32)) (h6 : v3 < (32 : Int32) → ¬ v2 < 0 → Wk l Z (MoC Z cdC) md_addInclusive 4 [.val (.ref 0), .unset, .val (.int ((A 7) v2)), .val (.int (v3 + (1 : Int32)))] [] (16, F, G, (ups A 10 (ups (A 10) v2 (((A 10) v2) + (1 : Int32)))), B) 0 0 Q) :
    Wk l Z (MoC Z cdC) md_addInclusive 4 [.val (.ref 0), .unset, .val (.int v2), .val (.int v3)] [] (16, F, G, A, B) 0 0 Q := by
  refine Wk.iloadN o_addInclusive_4 rfl ?_
  refine Wk.bipush o_addInclusive_5 (z := (32 : Int32)) (by decide) ?_
  refine Wk.icmp_ge o_addInclusive_7 (fun q1 => ?_) (fun q1 => ?_)
  · exact Wk.ret mrC rfl o_addInclusive_37 rfl (by decide) (by decide) (h2 q1)
  · refine Wk.iloadN o_addInclusive_10 rfl ?_
    refine Wk.if_lt o_addInclusive_11 (fun q3 => ?_) (fun q3 => ?_)
    · exact Wk.ret mrC rfl o_addInclusive_37 rfl (by decide) (by decide) (h4 q1 q3)
    · refine Wk.aloadN o_addInclusive_14 rfl ?_
      refine Wk.getA (mA_iIncl) (by decide) (i' := 11) rfl (wf_iIncl H) o_addInclusive_15 ?_
      refine Wk.iloadN o_addInclusive_18 rfl ?_
      refine Wk.dup2 o_addInclusive_19 rfl rfl ?_
      refine Wk.iaload (mA_iIncl) (by decide) (i' := 11) rfl q3 (s5 q1 q3) o_addInclusive_20 (y := ((A 10) v2)) rfl ?_
      refine Wk.iconst o_addInclusive_21 (z := (1 : Int32)) (by decide) ?_
      refine Wk.iadd o_addInclusive_22 ?_
      refine Wk.iastore (coC H) (f := (A 10)) (mA_iIncl) rfl (by decide) (i' := 11) rfl q3 (s5 q1 q3) o_addInclusive_23 ?_
      refine Wk.aloadN o_addInclusive_24 rfl ?_
      refine Wk.getA (mA_iParent) (by decide) (i' := 8) rfl (wf_iParent H) o_addInclusive_25 ?_
      refine Wk.iloadN o_addInclusive_28 rfl ?_
      refine Wk.iaload (mA_iParent) (by decide) (i' := 8) rfl q3 (s5 q1 q3) o_addInclusive_29 (y := ((A 7) v2)) rfl ?_
      refine Wk.istoreN o_addInclusive_30 (Or.inr ⟨_, rfl, rfl⟩) (L' := [.val (.ref 0), .unset, .val (.int ((A 7) v2)), .val (.int v3)]) rfl ?_
      refine Wk.iinc o_addInclusive_31 rfl (z := (v3 + (1 : Int32))) rfl (L' := [.val (.ref 0), .unset, .val (.int ((A 7) v2)), .val (.int (v3 + (1 : Int32)))]) rfl ?_
      refine Wk.goto o_addInclusive_34 ?_
      exact (h6 q1 q3)

theorem rt_addInclusive (F : Nat → Int32) (G : Nat → Int64) (B : Nat → Int32 → Int64) (v0 : Int32) (xA : Nat → Int32 → Int32) (r : Int32 × (Nat → Int32 → Int32)) (e : (v0, xA) = r) : (none : Option Value) = none ∧ (16, F, G, xA, B) = (16, F, G, r.2, B) := by subst e; exact ⟨rfl, rfl⟩
def lp_addInclusive : Nat → Nat → Int32 → Int32 → (Nat → Int32 → Int32) → Option (Int32 × (Nat → Int32 → Int32))
  | 0, _, _, _, _ => none
  | n + 1, tag, v2, v3, A => if tag = 4 then (if v3 < (32 : Int32) then (if v2 < 0 then some ((0 : Int32), A) else (if (v2 < (32 : Int32)) then lp_addInclusive n 4 ((A 7) v2) (v3 + (1 : Int32)) (ups A 10 (ups (A 10) v2 (((A 10) v2) + (1 : Int32)))) else none)) else some ((0 : Int32), A)) else none
theorem lp_addInclusive_z (tag : Nat) (v2 : Int32) (v3 : Int32) (A : Nat → Int32 → Int32) : lp_addInclusive 0 tag v2 v3 A = none := Eq.trans rfl rfl
theorem lp_addInclusive_4 (n : Nat) (v2 : Int32) (v3 : Int32) (A : Nat → Int32 → Int32) : lp_addInclusive (n + 1) 4 v2 v3 A = (if v3 < (32 : Int32) then (if v2 < 0 then some ((0 : Int32), A) else (if (v2 < (32 : Int32)) then lp_addInclusive n 4 ((A 7) v2) (v3 + (1 : Int32)) (ups A 10 (ups (A 10) v2 (((A 10) v2) + (1 : Int32)))) else none)) else some ((0 : Int32), A)) := by
  rw [lp_addInclusive, if_pos rfl]
set_option maxRecDepth 65536 in
set_option maxHeartbeats 4000000 in
theorem lpw_addInclusive {l : Launch} {Z : State} {a0 : Array Value} (H : OK Z a0) (F : Nat → Int32) (G : Nat → Int64) (B : Nat → Int32 → Int64) : ∀ (n : Nat) (v2 : Int32) (v3 : Int32) (A : Nat → Int32 → Int32) (r : Int32 × (Nat → Int32 → Int32)), (lp_addInclusive n 4 v2 v3 A = some r → Wk l Z (MoC Z cdC) md_addInclusive 4 [.val (.ref 0), .unset, .val (.int v2), .val (.int v3)] [] (16, F, G, A, B) 0 0 (fun v w' => v = none ∧ w' = (16, F, G, r.2, B))) := by
  intro n
  induction n with
  | zero =>
    intro v2 v3 A r
    exact (fun h => by rw [lp_addInclusive_z] at h; cases h)
  | succ n ih =>
    intro v2 v3 A r
    refine fun h => ?_
    · rw [lp_addInclusive_4] at h
      exact wp_addInclusive_4 H F G A B v2 v3 (fun q1 => (rt_addInclusive _ _ _ _ _ r (Option.some.inj (ifn q1 h)))) (fun q1 q3 => (rt_addInclusive _ _ _ _ _ r (Option.some.inj (ifp q3 (ifp q1 h))))) (fun q1 q3 => (gd (ifn q3 (ifp q1 h))).1) (fun q1 q3 => (ih _ _ _ _) (gd (ifn q3 (ifp q1 h))).2)
def en_addInclusive (A : Nat → Int32 → Int32) (p1 : Int32) : Option (Int32 × (Nat → Int32 → Int32)) := lp_addInclusive 1000 4 p1 (0 : Int32) A
theorem een_addInclusive (A : Nat → Int32 → Int32) (p1 : Int32) : en_addInclusive A p1 = lp_addInclusive 1000 4 p1 (0 : Int32) A := Eq.trans rfl rfl
def R_addInclusive (A : Nat → Int32 → Int32) (p1 : Int32) : Int32 × (Nat → Int32 → Int32) := (en_addInclusive A p1).getD (0, (fun _ _ => 0))
theorem eR_addInclusive (A : Nat → Int32 → Int32) (p1 : Int32) : R_addInclusive A p1 = (en_addInclusive A p1).getD (0, (fun _ _ => 0)) := Eq.trans rfl rfl
set_option maxRecDepth 65536 in
set_option maxHeartbeats 4000000 in
theorem run_addInclusive {l : Launch} {Z : State} {a0 : Array Value} (H : OK Z a0) (F : Nat → Int32) (G : Nat → Int64) (A : Nat → Int32 → Int32) (B : Nat → Int32 → Int64) (p1 : Int32) (e1 : (en_addInclusive A p1).isSome = true) :
    Wk l Z (MoC Z cdC) md_addInclusive 0 [.val (.ref 0), .val (.int p1), .unset, .unset] [] (16, F, G, A, B) 0 0 (fun v w' => v = none ∧ w' = (16, F, G, (R_addInclusive A p1).2, B)) := by
  obtain ⟨r, h⟩ := Option.isSome_iff_exists.mp e1
  have e : R_addInclusive A p1 = r := (eR_addInclusive A p1).trans (getD_some h)
  rw [e]
  rw [een_addInclusive] at h
  exact wp_addInclusive H F G A B p1 ((lpw_addInclusive H F G B _ _ _ _ _) h)
set_option maxRecDepth 65536 in
set_option maxHeartbeats 4000000 in
theorem wp_findSampledChild {l : Launch} {Z : State} {a0 : Array Value} (H : OK Z a0) (F : Nat → Int32) (G : Nat → Int64) (A : Nat → Int32 → Int32) (B : Nat → Int32 → Int64) (p1 : Int32) (p2 : Int32) {Q : Option Value → WO → Prop} (h1 : Wk l Z (MoC Z cdC) md_findSampledChild 2 [.val (.ref 0), .val (.int p1), .val (.int p2), .val (.int (1 : Int32))] [] (16, F, G, A, B) 0 0 Q) :
    Wk l Z (MoC Z cdC) md_findSampledChild 0 [.val (.ref 0), .val (.int p1), .val (.int p2), .unset] [] (16, F, G, A, B) 0 0 Q := by
  refine Wk.iconst o_findSampledChild_0 (z := (1 : Int32)) (by decide) ?_
  refine Wk.istoreN o_findSampledChild_1 (Or.inl rfl) (L' := [.val (.ref 0), .val (.int p1), .val (.int p2), .val (.int (1 : Int32))]) rfl ?_
  exact h1

set_option maxRecDepth 65536 in
set_option maxHeartbeats 4000000 in
theorem wp_findSampledChild_2 {l : Launch} {Z : State} {a0 : Array Value} (H : OK Z a0) (F : Nat → Int32) (G : Nat → Int64) (A : Nat → Int32 → Int32) (B : Nat → Int32 → Int64) (v1 : Int32) (v2 : Int32) (v3 : Int32) {Q : Option Value → WO → Prop} (h2 : ¬ v3 < (F 13) → Q (some (.int (-1 : Int32))) (16, F, G, A, B)) (s3 : v3 < (F 13) → ¬ v3 < 0) (s4 : v3 < (F 13) → v3 < (32 : Int32)) (h6 : v3 < (F 13) → ¬ ((A 12) v3) = v1 → Wk l Z (MoC Z cdC) md_findSampledChild 2 [.val (.ref 0), .val (.int v1), .val (.int v2), .val (.int (v3 + (1 : Int32)))] [] (16, F, G, A, B) 0 0 Q) (s7 : v3 < (F 13) → ((A 12) v3) = v1 → ¬ v3 < 0) (s8 : v3 < (F 13) → ((A 12) v3) = v1 → v3 < (32 : Int32)) (h10 : v3 < (F 13) → ((A 12) v3) = v1 → ¬ ((A 13) v3) = v2 → Wk l Z (MoC Z cdC) md_findSampledChild 2 [.val (.ref 0), .val (.int v1), .val (.int v2), .val (.int (v3 + (1 : Int32)))] [] (16, F, G, A, B) 0 0 Q) (h11 : v3 < (F 13) → ((A 12) v3) = v1 → ((A 13) v3) = v2 → Q (some (.int v3)) (16, F, G, A, B)) :
    Wk l Z (MoC Z cdC) md_findSampledChild 2 [.val (.ref 0), .val (.int v1), .val (.int v2), .val (.int v3)] [] (16, F, G, A, B) 0 0 Q := by
  refine Wk.iloadN o_findSampledChild_2 rfl ?_
  refine Wk.aloadN o_findSampledChild_3 rfl ?_
  refine Wk.getI (mI_sCount) (wf_sCount H) o_findSampledChild_4 (x := (F 13)) rfl ?_
  refine Wk.icmp_ge o_findSampledChild_7 (fun q1 => ?_) (fun q1 => ?_)
  · refine Wk.iconst o_findSampledChild_38 (z := (-1 : Int32)) (by decide) ?_
    exact Wk.ireturn mrC rfl o_findSampledChild_39 rfl (by decide) (by decide) (h2 q1)
  · refine Wk.aloadN o_findSampledChild_10 rfl ?_
    refine Wk.getA (mA_sParent) (by decide) (i' := 13) rfl (wf_sParent H) o_findSampledChild_11 ?_
    refine Wk.iloadN o_findSampledChild_14 rfl ?_
    refine Wk.iaload (mA_sParent) (by decide) (i' := 13) rfl (s3 q1) (s4 q1) o_findSampledChild_15 (y := ((A 12) v3)) rfl ?_
    refine Wk.iloadN o_findSampledChild_16 rfl ?_
    refine Wk.icmp_ne o_findSampledChild_17 (fun q5 => ?_) (fun q5 => ?_)
    · refine Wk.iinc o_findSampledChild_32 rfl (z := (v3 + (1 : Int32))) rfl (L' := [.val (.ref 0), .val (.int v1), .val (.int v2), .val (.int (v3 + (1 : Int32)))]) rfl ?_
      refine Wk.goto o_findSampledChild_35 ?_
      exact (h6 q1 q5)
    · refine Wk.aloadN o_findSampledChild_20 rfl ?_
      refine Wk.getA (mA_sFunc) (by decide) (i' := 14) rfl (wf_sFunc H) o_findSampledChild_21 ?_
      refine Wk.iloadN o_findSampledChild_24 rfl ?_
      refine Wk.iaload (mA_sFunc) (by decide) (i' := 14) rfl (s7 q1 q5) (s8 q1 q5) o_findSampledChild_25 (y := ((A 13) v3)) rfl ?_
      refine Wk.iloadN o_findSampledChild_26 rfl ?_
      refine Wk.icmp_ne o_findSampledChild_27 (fun q9 => ?_) (fun q9 => ?_)
      · refine Wk.iinc o_findSampledChild_32 rfl (z := (v3 + (1 : Int32))) rfl (L' := [.val (.ref 0), .val (.int v1), .val (.int v2), .val (.int (v3 + (1 : Int32)))]) rfl ?_
        refine Wk.goto o_findSampledChild_35 ?_
        exact (h10 q1 q5 q9)
      · refine Wk.iloadN o_findSampledChild_30 rfl ?_
        exact Wk.ireturn mrC rfl o_findSampledChild_31 rfl (by decide) (by decide) (h11 q1 q5 q9)

theorem rt_findSampledChild (F : Nat → Int32) (G : Nat → Int64) (A : Nat → Int32 → Int32) (B : Nat → Int32 → Int64) (v0 : Int32) (r : Int32) (e : v0 = r) : some (Value.int v0) = some (.int r) ∧ (16, F, G, A, B) = (16, F, G, A, B) := by subst e; exact ⟨rfl, rfl⟩
def lp_findSampledChild : Nat → Nat → Int32 → Int32 → Int32 → (Nat → Int32) → (Nat → Int32 → Int32) → Option (Int32)
  | 0, _, _, _, _, _, _ => none
  | n + 1, tag, v1, v2, v3, F, A => if tag = 2 then (if v3 < (F 13) then (if (¬ v3 < 0) ∧ (v3 < (32 : Int32)) then (if ((A 12) v3) = v1 then (if (¬ v3 < 0) ∧ (v3 < (32 : Int32)) then (if ((A 13) v3) = v2 then some (v3) else lp_findSampledChild n 2 v1 v2 (v3 + (1 : Int32)) F A) else none) else lp_findSampledChild n 2 v1 v2 (v3 + (1 : Int32)) F A) else none) else some ((-1 : Int32))) else none
theorem lp_findSampledChild_z (tag : Nat) (v1 : Int32) (v2 : Int32) (v3 : Int32) (F : Nat → Int32) (A : Nat → Int32 → Int32) : lp_findSampledChild 0 tag v1 v2 v3 F A = none := Eq.trans rfl rfl
theorem lp_findSampledChild_2 (n : Nat) (v1 : Int32) (v2 : Int32) (v3 : Int32) (F : Nat → Int32) (A : Nat → Int32 → Int32) : lp_findSampledChild (n + 1) 2 v1 v2 v3 F A = (if v3 < (F 13) then (if (¬ v3 < 0) ∧ (v3 < (32 : Int32)) then (if ((A 12) v3) = v1 then (if (¬ v3 < 0) ∧ (v3 < (32 : Int32)) then (if ((A 13) v3) = v2 then some (v3) else lp_findSampledChild n 2 v1 v2 (v3 + (1 : Int32)) F A) else none) else lp_findSampledChild n 2 v1 v2 (v3 + (1 : Int32)) F A) else none) else some ((-1 : Int32))) := by
  rw [lp_findSampledChild, if_pos rfl]
set_option maxRecDepth 65536 in
set_option maxHeartbeats 4000000 in
theorem lpw_findSampledChild {l : Launch} {Z : State} {a0 : Array Value} (H : OK Z a0) (F : Nat → Int32) (G : Nat → Int64) (A : Nat → Int32 → Int32) (B : Nat → Int32 → Int64) : ∀ (n : Nat) (v1 : Int32) (v2 : Int32) (v3 : Int32) (r : Int32), (lp_findSampledChild n 2 v1 v2 v3 F A = some r → Wk l Z (MoC Z cdC) md_findSampledChild 2 [.val (.ref 0), .val (.int v1), .val (.int v2), .val (.int v3)] [] (16, F, G, A, B) 0 0 (fun v w' => v = some (.int r) ∧ w' = (16, F, G, A, B))) := by
  intro n
  induction n with
  | zero =>
    intro v1 v2 v3  r
    exact (fun h => by rw [lp_findSampledChild_z] at h; cases h)
  | succ n ih =>
    intro v1 v2 v3  r
    refine fun h => ?_
    · rw [lp_findSampledChild_2] at h
      exact wp_findSampledChild_2 H F G A B v1 v2 v3 (fun q1 => (rt_findSampledChild _ _ _ _ _ r (Option.some.inj (ifn q1 h)))) (fun q1 => (gd (ifp q1 h)).1.1) (fun q1 => (gd (ifp q1 h)).1.2) (fun q1 q5 => (ih _ _ _ _) (ifn q5 (gd (ifp q1 h)).2)) (fun q1 q5 => (gd (ifp q5 (gd (ifp q1 h)).2)).1.1) (fun q1 q5 => (gd (ifp q5 (gd (ifp q1 h)).2)).1.2) (fun q1 q5 q9 => (ih _ _ _ _) (ifn q9 (gd (ifp q5 (gd (ifp q1 h)).2)).2)) (fun q1 q5 q9 => (rt_findSampledChild _ _ _ _ _ r (Option.some.inj (ifp q9 (gd (ifp q5 (gd (ifp q1 h)).2)).2))))
def en_findSampledChild (F : Nat → Int32) (A : Nat → Int32 → Int32) (p1 : Int32) (p2 : Int32) : Option (Int32) := lp_findSampledChild 1000 2 p1 p2 (1 : Int32) F A
theorem een_findSampledChild (F : Nat → Int32) (A : Nat → Int32 → Int32) (p1 : Int32) (p2 : Int32) : en_findSampledChild F A p1 p2 = lp_findSampledChild 1000 2 p1 p2 (1 : Int32) F A := Eq.trans rfl rfl
def R_findSampledChild (F : Nat → Int32) (A : Nat → Int32 → Int32) (p1 : Int32) (p2 : Int32) : Int32 := (en_findSampledChild F A p1 p2).getD (0)
theorem eR_findSampledChild (F : Nat → Int32) (A : Nat → Int32 → Int32) (p1 : Int32) (p2 : Int32) : R_findSampledChild F A p1 p2 = (en_findSampledChild F A p1 p2).getD (0) := Eq.trans rfl rfl
set_option maxRecDepth 65536 in
set_option maxHeartbeats 4000000 in
theorem run_findSampledChild {l : Launch} {Z : State} {a0 : Array Value} (H : OK Z a0) (F : Nat → Int32) (G : Nat → Int64) (A : Nat → Int32 → Int32) (B : Nat → Int32 → Int64) (p1 : Int32) (p2 : Int32) (e1 : (en_findSampledChild F A p1 p2).isSome = true) :
    Wk l Z (MoC Z cdC) md_findSampledChild 0 [.val (.ref 0), .val (.int p1), .val (.int p2), .unset] [] (16, F, G, A, B) 0 0 (fun v w' => v = some (.int (R_findSampledChild F A p1 p2)) ∧ w' = (16, F, G, A, B)) := by
  obtain ⟨r, h⟩ := Option.isSome_iff_exists.mp e1
  have e : R_findSampledChild F A p1 p2 = r := (eR_findSampledChild F A p1 p2).trans (getD_some h)
  rw [e]
  rw [een_findSampledChild] at h
  exact wp_findSampledChild H F G A B p1 p2 ((lpw_findSampledChild H F G A B _ _ _ _ _) h)
set_option maxRecDepth 65536 in
set_option maxHeartbeats 4000000 in
theorem wp_newSampledNode {l : Launch} {Z : State} {a0 : Array Value} (H : OK Z a0) (F : Nat → Int32) (G : Nat → Int64) (A : Nat → Int32 → Int32) (B : Nat → Int32 → Int64) (p1 : Int32) (p2 : Int32) {Q : Option Value → WO → Prop} (s1 : ¬ (F 13) < 0) (s2 : (F 13) < (32 : Int32)) (h3 : Q (some (.int (F 13))) (16, (ups F 13 ((F 13) + (1 : Int32))), G, (ups (ups (ups A 12 (ups (A 12) (F 13) p1)) 13 (ups (A 13) (F 13) p2)) 14 (ups (A 14) (F 13) (0 : Int32))), B)) :
    Wk l Z (MoC Z cdC) md_newSampledNode 0 [.val (.ref 0), .val (.int p1), .val (.int p2), .unset] [] (16, F, G, A, B) 0 0 Q := by
  refine Wk.aloadN o_newSampledNode_0 rfl ?_
  refine Wk.getI (mI_sCount) (wf_sCount H) o_newSampledNode_1 (x := (F 13)) rfl ?_
  refine Wk.istoreN o_newSampledNode_4 (Or.inl rfl) (L' := [.val (.ref 0), .val (.int p1), .val (.int p2), .val (.int (F 13))]) rfl ?_
  refine Wk.aloadN o_newSampledNode_5 rfl ?_
  refine Wk.getA (mA_sParent) (by decide) (i' := 13) rfl (wf_sParent H) o_newSampledNode_6 ?_
  refine Wk.iloadN o_newSampledNode_9 rfl ?_
  refine Wk.iloadN o_newSampledNode_10 rfl ?_
  refine Wk.iastore (coC H) (f := (A 12)) (mA_sParent) rfl (by decide) (i' := 13) rfl s1 s2 o_newSampledNode_11 ?_
  refine Wk.aloadN o_newSampledNode_12 rfl ?_
  refine Wk.getA (mA_sFunc) (by decide) (i' := 14) rfl (wf_sFunc H) o_newSampledNode_13 ?_
  refine Wk.iloadN o_newSampledNode_16 rfl ?_
  refine Wk.iloadN o_newSampledNode_17 rfl ?_
  refine Wk.iastore (coC H) (f := (A 13)) (mA_sFunc) rfl (by decide) (i' := 14) rfl s1 s2 o_newSampledNode_18 ?_
  refine Wk.aloadN o_newSampledNode_19 rfl ?_
  refine Wk.getA (mA_sSelf) (by decide) (i' := 15) rfl (wf_sSelf H) o_newSampledNode_20 ?_
  refine Wk.iloadN o_newSampledNode_23 rfl ?_
  refine Wk.iconst o_newSampledNode_24 (z := (0 : Int32)) (by decide) ?_
  refine Wk.iastore (coC H) (f := (A 14)) (mA_sSelf) rfl (by decide) (i' := 15) rfl s1 s2 o_newSampledNode_25 ?_
  refine Wk.aloadN o_newSampledNode_26 rfl ?_
  refine Wk.iloadN o_newSampledNode_27 rfl ?_
  refine Wk.iconst o_newSampledNode_28 (z := (1 : Int32)) (by decide) ?_
  refine Wk.iadd o_newSampledNode_29 ?_
  refine Wk.putI (coC H) (mI_sCount) (wf_sCount H) (Or.inl (wy_sCount H)) o_newSampledNode_30 ?_
  refine Wk.iloadN o_newSampledNode_33 rfl ?_
  exact Wk.ireturn mrC rfl o_newSampledNode_34 rfl (by decide) (by decide) h3

theorem rt_newSampledNode (G : Nat → Int64) (B : Nat → Int32 → Int64) (v0 : Int32) (xF : Nat → Int32) (xA : Nat → Int32 → Int32) (r : Int32 × (Nat → Int32) × (Nat → Int32 → Int32)) (e : (v0, xF, xA) = r) : some (Value.int v0) = some (.int r.1) ∧ (16, xF, G, xA, B) = (16, r.2.1, G, r.2.2, B) := by subst e; exact ⟨rfl, rfl⟩
def en_newSampledNode (F : Nat → Int32) (A : Nat → Int32 → Int32) (p1 : Int32) (p2 : Int32) : Option (Int32 × (Nat → Int32) × (Nat → Int32 → Int32)) := (if (¬ (F 13) < 0) ∧ ((F 13) < (32 : Int32)) then some ((F 13), (ups F 13 ((F 13) + (1 : Int32))), (ups (ups (ups A 12 (ups (A 12) (F 13) p1)) 13 (ups (A 13) (F 13) p2)) 14 (ups (A 14) (F 13) (0 : Int32)))) else none)
theorem een_newSampledNode (F : Nat → Int32) (A : Nat → Int32 → Int32) (p1 : Int32) (p2 : Int32) : en_newSampledNode F A p1 p2 = (if (¬ (F 13) < 0) ∧ ((F 13) < (32 : Int32)) then some ((F 13), (ups F 13 ((F 13) + (1 : Int32))), (ups (ups (ups A 12 (ups (A 12) (F 13) p1)) 13 (ups (A 13) (F 13) p2)) 14 (ups (A 14) (F 13) (0 : Int32)))) else none) := Eq.trans rfl rfl
def R_newSampledNode (F : Nat → Int32) (A : Nat → Int32 → Int32) (p1 : Int32) (p2 : Int32) : Int32 × (Nat → Int32) × (Nat → Int32 → Int32) := (en_newSampledNode F A p1 p2).getD (0, (fun _ => 0), (fun _ _ => 0))
theorem eR_newSampledNode (F : Nat → Int32) (A : Nat → Int32 → Int32) (p1 : Int32) (p2 : Int32) : R_newSampledNode F A p1 p2 = (en_newSampledNode F A p1 p2).getD (0, (fun _ => 0), (fun _ _ => 0)) := Eq.trans rfl rfl
set_option maxRecDepth 65536 in
set_option maxHeartbeats 4000000 in
theorem run_newSampledNode {l : Launch} {Z : State} {a0 : Array Value} (H : OK Z a0) (F : Nat → Int32) (G : Nat → Int64) (A : Nat → Int32 → Int32) (B : Nat → Int32 → Int64) (p1 : Int32) (p2 : Int32) (e1 : (en_newSampledNode F A p1 p2).isSome = true) :
    Wk l Z (MoC Z cdC) md_newSampledNode 0 [.val (.ref 0), .val (.int p1), .val (.int p2), .unset] [] (16, F, G, A, B) 0 0 (fun v w' => v = some (.int (R_newSampledNode F A p1 p2).1) ∧ w' = (16, (R_newSampledNode F A p1 p2).2.1, G, (R_newSampledNode F A p1 p2).2.2, B)) := by
  obtain ⟨r, h⟩ := Option.isSome_iff_exists.mp e1
  have e : R_newSampledNode F A p1 p2 = r := (eR_newSampledNode F A p1 p2).trans (getD_some h)
  rw [e]
  rw [een_newSampledNode] at h
  exact wp_newSampledNode H F G A B p1 p2 ((gd h).1.1) ((gd h).1.2) ((rt_newSampledNode _ _ _ _ _ r (Option.some.inj (gd h).2)))
set_option maxRecDepth 65536 in
set_option maxHeartbeats 4000000 in
theorem wp_sample {l : Launch} {Z : State} {a0 : Array Value} (H : OK Z a0) (F : Nat → Int32) (G : Nat → Int64) (A : Nat → Int32 → Int32) (B : Nat → Int32 → Int64) {Q : Option Value → WO → Prop} (h1 : Wk l Z (MoC Z cdC) md_sample 4 [.val (.ref 0), .val (.int (0 : Int32)), .val (.int (1 : Int32)), .unset, .unset] [] (16, F, G, A, B) 0 0 Q) :
    Wk l Z (MoC Z cdC) md_sample 0 [.val (.ref 0), .unset, .unset, .unset, .unset] [] (16, F, G, A, B) 0 0 Q := by
  refine Wk.iconst o_sample_0 (z := (0 : Int32)) (by decide) ?_
  refine Wk.istoreN o_sample_1 (Or.inl rfl) (L' := [.val (.ref 0), .val (.int (0 : Int32)), .unset, .unset, .unset]) rfl ?_
  refine Wk.iconst o_sample_2 (z := (1 : Int32)) (by decide) ?_
  refine Wk.istoreN o_sample_3 (Or.inl rfl) (L' := [.val (.ref 0), .val (.int (0 : Int32)), .val (.int (1 : Int32)), .unset, .unset]) rfl ?_
  exact h1

set_option maxRecDepth 65536 in
set_option maxHeartbeats 4000000 in
theorem wp_sample_4 {l : Launch} {Z : State} {a0 : Array Value} (H : OK Z a0) (F : Nat → Int32) (G : Nat → Int64) (A : Nat → Int32 → Int32) (B : Nat → Int32 → Int64) (v1 : Int32) (v2 : Int32) {Q : Option Value → WO → Prop} (s2 : ¬ v2 < (F 7) → ¬ v1 < 0) (s3 : ¬ v2 < (F 7) → v1 < (32 : Int32)) (h4 : ¬ v2 < (F 7) → Q none (16, F, G, (ups A 14 (ups (A 14) v1 (((A 14) v1) + (1 : Int32)))), B)) (s5 : v2 < (F 7) → ¬ v2 < 0) (s6 : v2 < (F 7) → v2 < (16 : Int32)) (s7 : v2 < (F 7) → (en_findSampledChild F A v1 ((A 4) v2)).isSome = true) (h9 : v2 < (F 7) → ¬ (R_findSampledChild F A v1 ((A 4) v2)) < 0 → Wk l Z (MoC Z cdC) md_sample 4 [.val (.ref 0), .val (.int (R_findSampledChild F A v1 ((A 4) v2))), .val (.int (v2 + (1 : Int32))), .unset, .unset] [] (16, F, G, A, B) 0 0 Q) (s11 : v2 < (F 7) → (R_findSampledChild F A v1 ((A 4) v2)) < 0 → (F 13) < (F 0) → (en_newSampledNode F A v1 ((A 4) v2)).isSome = true) (h12 : v2 < (F 7) → (R_findSampledChild F A v1 ((A 4) v2)) < 0 → (F 13) < (F 0) → Wk l Z (MoC Z cdC) md_sample 4 [.val (.ref 0), .val (.int (R_newSampledNode F A v1 ((A 4) v2)).1), .val (.int (v2 + (1 : Int32))), .unset, .unset] [] (16, (R_newSampledNode F A v1 ((A 4) v2)).2.1, G, (R_newSampledNode F A v1 ((A 4) v2)).2.2, B) 0 0 Q) (h13 : v2 < (F 7) → (R_findSampledChild F A v1 ((A 4) v2)) < 0 → ¬ (F 13) < (F 0) → Q none (16, (ups F 10 ((F 10) + (1 : Int32))), G, A, B)) :
    Wk l Z (MoC Z cdC) md_sample 4 [.val (.ref 0), .val (.int v1), .val (.int v2), .unset, .unset] [] (16, F, G, A, B) 0 0 Q := by
  refine Wk.iloadN o_sample_4 rfl ?_
  refine Wk.aloadN o_sample_5 rfl ?_
  refine Wk.getI (mI_depth) (wf_depth H) o_sample_6 (x := (F 7)) rfl ?_
  refine Wk.icmp_ge o_sample_9 (fun q1 => ?_) (fun q1 => ?_)
  · refine Wk.aloadN o_sample_71 rfl ?_
    refine Wk.getA (mA_sSelf) (by decide) (i' := 15) rfl (wf_sSelf H) o_sample_72 ?_
    refine Wk.iloadN o_sample_75 rfl ?_
    refine Wk.dup2 o_sample_76 rfl rfl ?_
    refine Wk.iaload (mA_sSelf) (by decide) (i' := 15) rfl (s2 q1) (s3 q1) o_sample_77 (y := ((A 14) v1)) rfl ?_
    refine Wk.iconst o_sample_78 (z := (1 : Int32)) (by decide) ?_
    refine Wk.iadd o_sample_79 ?_
    refine Wk.iastore (coC H) (f := (A 14)) (mA_sSelf) rfl (by decide) (i' := 15) rfl (s2 q1) (s3 q1) o_sample_80 ?_
    exact Wk.ret mrC rfl o_sample_81 rfl (by decide) (by decide) (h4 q1)
  · refine Wk.aloadN o_sample_12 rfl ?_
    refine Wk.getA (mA_frameFunc) (by decide) (i' := 5) rfl (wf_frameFunc H) o_sample_13 ?_
    refine Wk.iloadN o_sample_16 rfl ?_
    refine Wk.iaload (mA_frameFunc) (by decide) (i' := 5) rfl (s5 q1) (s6 q1) o_sample_17 (y := ((A 4) v2)) rfl ?_
    refine Wk.istoreN o_sample_18 (Or.inl rfl) (L' := [.val (.ref 0), .val (.int v1), .val (.int v2), .val (.int ((A 4) v2)), .unset]) rfl ?_
    refine Wk.aloadN o_sample_19 rfl ?_
    refine Wk.iloadN o_sample_20 rfl ?_
    refine Wk.iloadN o_sample_21 rfl ?_
    refine Wk.callF [.int v1, .int ((A 4) v2)] [] (H.w 142 rfl) (cv_findSampledChild H) o_sample_22 (run_findSampledChild H F G A B v1 ((A 4) v2) (s7 q1)) (wt := 0) (cu' := 0) (su' := 0) (by decide) rfl rfl rfl rfl rfl rfl rfl ?_
    refine Wk.istore o_sample_25 (Or.inl rfl) (L' := [.val (.ref 0), .val (.int v1), .val (.int v2), .val (.int ((A 4) v2)), .val (.int (R_findSampledChild F A v1 ((A 4) v2)))]) rfl ?_
    refine Wk.iload o_sample_27 rfl ?_
    refine Wk.if_ge o_sample_29 (fun q8 => ?_) (fun q8 => ?_)
    · refine Wk.iload o_sample_62 rfl ?_
      refine Wk.istoreN o_sample_64 (Or.inr ⟨_, rfl, rfl⟩) (L' := [.val (.ref 0), .val (.int (R_findSampledChild F A v1 ((A 4) v2))), .val (.int v2), .val (.int ((A 4) v2)), .val (.int (R_findSampledChild F A v1 ((A 4) v2)))]) rfl ?_
      refine Wk.iinc o_sample_65 rfl (z := (v2 + (1 : Int32))) rfl (L' := [.val (.ref 0), .val (.int (R_findSampledChild F A v1 ((A 4) v2))), .val (.int (v2 + (1 : Int32))), .val (.int ((A 4) v2)), .val (.int (R_findSampledChild F A v1 ((A 4) v2)))]) rfl ?_
      refine Wk.goto o_sample_68 ?_
      refine Wk.forget [false, false, false, true, true] (L' := [.val (.ref 0), .val (.int (R_findSampledChild F A v1 ((A 4) v2))), .val (.int (v2 + (1 : Int32))), .unset, .unset]) rfl rfl ?_
      exact (h9 q1 q8)
    · refine Wk.aloadN o_sample_32 rfl ?_
      refine Wk.getI (mI_sCount) (wf_sCount H) o_sample_33 (x := (F 13)) rfl ?_
      refine Wk.aloadN o_sample_36 rfl ?_
      refine Wk.getI (mI_capacity) (wf_capacity H) o_sample_37 (x := (F 0)) rfl ?_
      refine Wk.icmp_lt o_sample_40 (fun q10 => ?_) (fun q10 => ?_)
      · refine Wk.aloadN o_sample_54 rfl ?_
        refine Wk.iloadN o_sample_55 rfl ?_
        refine Wk.iloadN o_sample_56 rfl ?_
        refine Wk.callF [.int v1, .int ((A 4) v2)] [] (H.w 146 rfl) (cv_newSampledNode H) o_sample_57 (run_newSampledNode H F G A B v1 ((A 4) v2) (s11 q1 q8 q10)) (wt := 0) (cu' := 0) (su' := 0) (by decide) rfl rfl rfl rfl rfl rfl rfl ?_
        refine Wk.istore o_sample_60 (Or.inr ⟨_, rfl, rfl⟩) (L' := [.val (.ref 0), .val (.int v1), .val (.int v2), .val (.int ((A 4) v2)), .val (.int (R_newSampledNode F A v1 ((A 4) v2)).1)]) rfl ?_
        refine Wk.iload o_sample_62 rfl ?_
        refine Wk.istoreN o_sample_64 (Or.inr ⟨_, rfl, rfl⟩) (L' := [.val (.ref 0), .val (.int (R_newSampledNode F A v1 ((A 4) v2)).1), .val (.int v2), .val (.int ((A 4) v2)), .val (.int (R_newSampledNode F A v1 ((A 4) v2)).1)]) rfl ?_
        refine Wk.iinc o_sample_65 rfl (z := (v2 + (1 : Int32))) rfl (L' := [.val (.ref 0), .val (.int (R_newSampledNode F A v1 ((A 4) v2)).1), .val (.int (v2 + (1 : Int32))), .val (.int ((A 4) v2)), .val (.int (R_newSampledNode F A v1 ((A 4) v2)).1)]) rfl ?_
        refine Wk.goto o_sample_68 ?_
        refine Wk.forget [false, false, false, true, true] (L' := [.val (.ref 0), .val (.int (R_newSampledNode F A v1 ((A 4) v2)).1), .val (.int (v2 + (1 : Int32))), .unset, .unset]) rfl rfl ?_
        exact (h12 q1 q8 q10)
      · refine Wk.aloadN o_sample_43 rfl ?_
        refine Wk.dup o_sample_44 rfl ?_
        refine Wk.getI (mI_sampledOverflow) (wf_sampledOverflow H) o_sample_45 (x := (F 10)) rfl ?_
        refine Wk.iconst o_sample_48 (z := (1 : Int32)) (by decide) ?_
        refine Wk.iadd o_sample_49 ?_
        refine Wk.putI (coC H) (mI_sampledOverflow) (wf_sampledOverflow H) (Or.inl (wy_sampledOverflow H)) o_sample_50 ?_
        exact Wk.ret mrC rfl o_sample_53 rfl (by decide) (by decide) (h13 q1 q8 q10)

theorem rt_sample (G : Nat → Int64) (B : Nat → Int32 → Int64) (v0 : Int32) (xF : Nat → Int32) (xA : Nat → Int32 → Int32) (r : Int32 × (Nat → Int32) × (Nat → Int32 → Int32)) (e : (v0, xF, xA) = r) : (none : Option Value) = none ∧ (16, xF, G, xA, B) = (16, r.2.1, G, r.2.2, B) := by subst e; exact ⟨rfl, rfl⟩
def lp_sample : Nat → Nat → Int32 → Int32 → (Nat → Int32) → (Nat → Int32 → Int32) → Option (Int32 × (Nat → Int32) × (Nat → Int32 → Int32))
  | 0, _, _, _, _, _ => none
  | n + 1, tag, v1, v2, F, A => if tag = 4 then (if v2 < (F 7) then (if (¬ v2 < 0) ∧ (v2 < (16 : Int32)) ∧ ((en_findSampledChild F A v1 ((A 4) v2)).isSome = true) then (if (R_findSampledChild F A v1 ((A 4) v2)) < 0 then (if (F 13) < (F 0) then (if ((en_newSampledNode F A v1 ((A 4) v2)).isSome = true) then lp_sample n 4 (R_newSampledNode F A v1 ((A 4) v2)).1 (v2 + (1 : Int32)) (R_newSampledNode F A v1 ((A 4) v2)).2.1 (R_newSampledNode F A v1 ((A 4) v2)).2.2 else none) else some ((0 : Int32), (ups F 10 ((F 10) + (1 : Int32))), A)) else lp_sample n 4 (R_findSampledChild F A v1 ((A 4) v2)) (v2 + (1 : Int32)) F A) else none) else (if (¬ v1 < 0) ∧ (v1 < (32 : Int32)) then some ((0 : Int32), F, (ups A 14 (ups (A 14) v1 (((A 14) v1) + (1 : Int32))))) else none)) else none
theorem lp_sample_z (tag : Nat) (v1 : Int32) (v2 : Int32) (F : Nat → Int32) (A : Nat → Int32 → Int32) : lp_sample 0 tag v1 v2 F A = none := Eq.trans rfl rfl
theorem lp_sample_4 (n : Nat) (v1 : Int32) (v2 : Int32) (F : Nat → Int32) (A : Nat → Int32 → Int32) : lp_sample (n + 1) 4 v1 v2 F A = (if v2 < (F 7) then (if (¬ v2 < 0) ∧ (v2 < (16 : Int32)) ∧ ((en_findSampledChild F A v1 ((A 4) v2)).isSome = true) then (if (R_findSampledChild F A v1 ((A 4) v2)) < 0 then (if (F 13) < (F 0) then (if ((en_newSampledNode F A v1 ((A 4) v2)).isSome = true) then lp_sample n 4 (R_newSampledNode F A v1 ((A 4) v2)).1 (v2 + (1 : Int32)) (R_newSampledNode F A v1 ((A 4) v2)).2.1 (R_newSampledNode F A v1 ((A 4) v2)).2.2 else none) else some ((0 : Int32), (ups F 10 ((F 10) + (1 : Int32))), A)) else lp_sample n 4 (R_findSampledChild F A v1 ((A 4) v2)) (v2 + (1 : Int32)) F A) else none) else (if (¬ v1 < 0) ∧ (v1 < (32 : Int32)) then some ((0 : Int32), F, (ups A 14 (ups (A 14) v1 (((A 14) v1) + (1 : Int32))))) else none)) := by
  rw [lp_sample, if_pos rfl]
set_option maxRecDepth 65536 in
set_option maxHeartbeats 4000000 in
theorem lpw_sample {l : Launch} {Z : State} {a0 : Array Value} (H : OK Z a0) (G : Nat → Int64) (B : Nat → Int32 → Int64) : ∀ (n : Nat) (v1 : Int32) (v2 : Int32) (F : Nat → Int32) (A : Nat → Int32 → Int32) (r : Int32 × (Nat → Int32) × (Nat → Int32 → Int32)), (lp_sample n 4 v1 v2 F A = some r → Wk l Z (MoC Z cdC) md_sample 4 [.val (.ref 0), .val (.int v1), .val (.int v2), .unset, .unset] [] (16, F, G, A, B) 0 0 (fun v w' => v = none ∧ w' = (16, r.2.1, G, r.2.2, B))) := by
  intro n
  induction n with
  | zero =>
    intro v1 v2 F A r
    exact (fun h => by rw [lp_sample_z] at h; cases h)
  | succ n ih =>
    intro v1 v2 F A r
    refine fun h => ?_
    · rw [lp_sample_4] at h
      exact wp_sample_4 H F G A B v1 v2 (fun q1 => (gd (ifn q1 h)).1.1) (fun q1 => (gd (ifn q1 h)).1.2) (fun q1 => (rt_sample _ _ _ _ _ r (Option.some.inj (gd (ifn q1 h)).2))) (fun q1 => (gd (ifp q1 h)).1.1) (fun q1 => (gd (ifp q1 h)).1.2.1) (fun q1 => (gd (ifp q1 h)).1.2.2) (fun q1 q8 => (ih _ _ _ _ _) (ifn q8 (gd (ifp q1 h)).2)) (fun q1 q8 q10 => (gd (ifp q10 (ifp q8 (gd (ifp q1 h)).2))).1) (fun q1 q8 q10 => (ih _ _ _ _ _) (gd (ifp q10 (ifp q8 (gd (ifp q1 h)).2))).2) (fun q1 q8 q10 => (rt_sample _ _ _ _ _ r (Option.some.inj (ifn q10 (ifp q8 (gd (ifp q1 h)).2)))))
def en_sample (F : Nat → Int32) (A : Nat → Int32 → Int32) : Option (Int32 × (Nat → Int32) × (Nat → Int32 → Int32)) := lp_sample 1000 4 (0 : Int32) (1 : Int32) F A
theorem een_sample (F : Nat → Int32) (A : Nat → Int32 → Int32) : en_sample F A  = lp_sample 1000 4 (0 : Int32) (1 : Int32) F A := Eq.trans rfl rfl
def R_sample (F : Nat → Int32) (A : Nat → Int32 → Int32) : Int32 × (Nat → Int32) × (Nat → Int32 → Int32) := (en_sample F A ).getD (0, (fun _ => 0), (fun _ _ => 0))
theorem eR_sample (F : Nat → Int32) (A : Nat → Int32 → Int32) : R_sample F A  = (en_sample F A ).getD (0, (fun _ => 0), (fun _ _ => 0)) := Eq.trans rfl rfl
set_option maxRecDepth 65536 in
set_option maxHeartbeats 4000000 in
theorem run_sample {l : Launch} {Z : State} {a0 : Array Value} (H : OK Z a0) (F : Nat → Int32) (G : Nat → Int64) (A : Nat → Int32 → Int32) (B : Nat → Int32 → Int64) (e1 : (en_sample F A ).isSome = true) :
    Wk l Z (MoC Z cdC) md_sample 0 [.val (.ref 0), .unset, .unset, .unset, .unset] [] (16, F, G, A, B) 0 0 (fun v w' => v = none ∧ w' = (16, (R_sample F A ).2.1, G, (R_sample F A ).2.2, B)) := by
  obtain ⟨r, h⟩ := Option.isSome_iff_exists.mp e1
  have e : R_sample F A  = r := (eR_sample F A ).trans (getD_some h)
  rw [e]
  rw [een_sample] at h
  exact wp_sample H F G A B  ((lpw_sample H G B _ _ _ _ _ _) h)
set_option maxRecDepth 65536 in
set_option maxHeartbeats 4000000 in
theorem wp_charge {l : Launch} {Z : State} {a0 : Array Value} (H : OK Z a0) (F : Nat → Int32) (G : Nat → Int64) (A : Nat → Int32 → Int32) (B : Nat → Int32 → Int64) {Q : Option Value → WO → Prop} (s1 : ¬ ((F 7) - (1 : Int32)) < 0) (s2 : ((F 7) - (1 : Int32)) < (16 : Int32)) (h4 : ((A 6) ((F 7) - (1 : Int32))) < 0 → False) (s5 : ¬ ((A 6) ((F 7) - (1 : Int32))) < 0 → ((A 6) ((F 7) - (1 : Int32))) < (32 : Int32)) (s6 : ¬ ((A 6) ((F 7) - (1 : Int32))) < 0 → (en_addInclusive (ups A 9 (ups (A 9) ((A 6) ((F 7) - (1 : Int32))) (((A 9) ((A 6) ((F 7) - (1 : Int32)))) + (1 : Int32)))) ((A 6) ((F 7) - (1 : Int32)))).isSome = true) (s7 : ¬ ((A 6) ((F 7) - (1 : Int32))) < 0 → ¬ (F 1) = (0 : Int32)) (h10 : ¬ ((A 6) ((F 7) - (1 : Int32))) < 0 → ¬ (((F 8) + (1 : Int32)) % (F 1)) = 0 → Q none (16, (ups F 8 ((F 8) + (1 : Int32))), G, (R_addInclusive (ups A 9 (ups (A 9) ((A 6) ((F 7) - (1 : Int32))) (((A 9) ((A 6) ((F 7) - (1 : Int32)))) + (1 : Int32)))) ((A 6) ((F 7) - (1 : Int32)))).2, B)) (s11 : ¬ ((A 6) ((F 7) - (1 : Int32))) < 0 → (((F 8) + (1 : Int32)) % (F 1)) = 0 → (en_sample (ups F 8 ((F 8) + (1 : Int32))) (R_addInclusive (ups A 9 (ups (A 9) ((A 6) ((F 7) - (1 : Int32))) (((A 9) ((A 6) ((F 7) - (1 : Int32)))) + (1 : Int32)))) ((A 6) ((F 7) - (1 : Int32)))).2 ).isSome = true) (h12 : ¬ ((A 6) ((F 7) - (1 : Int32))) < 0 → (((F 8) + (1 : Int32)) % (F 1)) = 0 → Q none (16, (R_sample (ups F 8 ((F 8) + (1 : Int32))) (R_addInclusive (ups A 9 (ups (A 9) ((A 6) ((F 7) - (1 : Int32))) (((A 9) ((A 6) ((F 7) - (1 : Int32)))) + (1 : Int32)))) ((A 6) ((F 7) - (1 : Int32)))).2 ).2.1, G, (R_sample (ups F 8 ((F 8) + (1 : Int32))) (R_addInclusive (ups A 9 (ups (A 9) ((A 6) ((F 7) - (1 : Int32))) (((A 9) ((A 6) ((F 7) - (1 : Int32)))) + (1 : Int32)))) ((A 6) ((F 7) - (1 : Int32)))).2 ).2.2, B)) :
    Wk l Z (MoC Z cdC) md_charge 0 [.val (.ref 0), .unset] [] (16, F, G, A, B) 0 0 Q := by
  refine Wk.aloadN o_charge_0 rfl ?_
  refine Wk.dup o_charge_1 rfl ?_
  refine Wk.getI (mI_executed) (wf_executed H) o_charge_2 (x := (F 8)) rfl ?_
  refine Wk.iconst o_charge_5 (z := (1 : Int32)) (by decide) ?_
  refine Wk.iadd o_charge_6 ?_
  refine Wk.putI (coC H) (mI_executed) (wf_executed H) (Or.inl (wy_executed H)) o_charge_7 ?_
  refine Wk.aloadN o_charge_10 rfl ?_
  refine Wk.getA (mA_frameNode) (by decide) (i' := 7) rfl (wf_frameNode H) o_charge_11 ?_
  refine Wk.aloadN o_charge_14 rfl ?_
  refine Wk.getI (mI_depth) (wf_depth H) o_charge_15 (x := (F 7)) rfl ?_
  refine Wk.iconst o_charge_18 (z := (1 : Int32)) (by decide) ?_
  refine Wk.isub o_charge_19 ?_
  refine Wk.iaload (mA_frameNode) (by decide) (i' := 7) rfl s1 s2 o_charge_20 (y := ((A 6) ((F 7) - (1 : Int32)))) rfl ?_
  refine Wk.istoreN o_charge_21 (Or.inl rfl) (L' := [.val (.ref 0), .val (.int ((A 6) ((F 7) - (1 : Int32))))]) rfl ?_
  refine Wk.iloadN o_charge_22 rfl ?_
  refine Wk.if_lt o_charge_23 (fun q3 => ?_) (fun q3 => ?_)
  · refine Wk.aloadN o_charge_39 rfl ?_
    refine Wk.dup o_charge_40 rfl ?_
    refine Wk.getI (mI_overflow) (wf_overflow H) o_charge_41 (x := (F 9)) rfl ?_
    refine Wk.iconst o_charge_44 (z := (1 : Int32)) (by decide) ?_
    refine Wk.iadd o_charge_45 ?_
    refine Wk.putI (coC H) (mI_overflow) (wf_overflow H) (Or.inl (wy_overflow H)) o_charge_46 ?_
    refine Wk.aloadN o_charge_49 rfl ?_
    exact False.elim (h4 q3)
  · refine Wk.aloadN o_charge_26 rfl ?_
    refine Wk.getA (mA_iSelf) (by decide) (i' := 10) rfl (wf_iSelf H) o_charge_27 ?_
    refine Wk.iloadN o_charge_30 rfl ?_
    refine Wk.dup2 o_charge_31 rfl rfl ?_
    refine Wk.iaload (mA_iSelf) (by decide) (i' := 10) rfl q3 (s5 q3) o_charge_32 (y := ((A 9) ((A 6) ((F 7) - (1 : Int32))))) rfl ?_
    refine Wk.iconst o_charge_33 (z := (1 : Int32)) (by decide) ?_
    refine Wk.iadd o_charge_34 ?_
    refine Wk.iastore (coC H) (f := (A 9)) (mA_iSelf) rfl (by decide) (i' := 10) rfl q3 (s5 q3) o_charge_35 ?_
    refine Wk.goto o_charge_36 ?_
    refine Wk.aloadN o_charge_64 rfl ?_
    refine Wk.iloadN o_charge_65 rfl ?_
    refine Wk.callU [.int ((A 6) ((F 7) - (1 : Int32)))] [] (H.w 114 rfl) (cv_addInclusive H) o_charge_66 (run_addInclusive H (ups F 8 ((F 8) + (1 : Int32))) G (ups A 9 (ups (A 9) ((A 6) ((F 7) - (1 : Int32))) (((A 9) ((A 6) ((F 7) - (1 : Int32)))) + (1 : Int32)))) B ((A 6) ((F 7) - (1 : Int32))) (s6 q3)) (wt := 0) (cu' := 0) (su' := 0) (by decide) rfl rfl rfl rfl rfl rfl rfl ?_
    refine Wk.aloadN o_charge_69 rfl ?_
    refine Wk.getI (mI_executed) (wf_executed H) o_charge_70 (x := ((F 8) + (1 : Int32))) rfl ?_
    refine Wk.aloadN o_charge_73 rfl ?_
    refine Wk.getI (mI_period) (wf_period H) o_charge_74 (x := (F 1)) rfl ?_
    refine Wk.irem o_charge_77 (s7 q3) ?_
    refine Wk.if_ne o_charge_78 (fun q8 => ?_) (fun q8 => ?_)
    · exact Wk.ret mrC rfl o_charge_85 rfl (by decide) (by decide) (h10 q3 q8)
    · refine Wk.aloadN o_charge_81 rfl ?_
      refine Wk.callU [] [] (H.w 138 rfl) (cv_sample H) o_charge_82 (run_sample H (ups F 8 ((F 8) + (1 : Int32))) G (R_addInclusive (ups A 9 (ups (A 9) ((A 6) ((F 7) - (1 : Int32))) (((A 9) ((A 6) ((F 7) - (1 : Int32)))) + (1 : Int32)))) ((A 6) ((F 7) - (1 : Int32)))).2 B (s11 q3 q8)) (wt := 0) (cu' := 0) (su' := 0) (by decide) rfl rfl rfl rfl rfl rfl rfl ?_
      exact Wk.ret mrC rfl o_charge_85 rfl (by decide) (by decide) (h12 q3 q8)

theorem rt_charge (G : Nat → Int64) (B : Nat → Int32 → Int64) (v0 : Int32) (xF : Nat → Int32) (xA : Nat → Int32 → Int32) (r : Int32 × (Nat → Int32) × (Nat → Int32 → Int32)) (e : (v0, xF, xA) = r) : (none : Option Value) = none ∧ (16, xF, G, xA, B) = (16, r.2.1, G, r.2.2, B) := by subst e; exact ⟨rfl, rfl⟩
def en_charge (F : Nat → Int32) (A : Nat → Int32 → Int32) : Option (Int32 × (Nat → Int32) × (Nat → Int32 → Int32)) := (if (¬ ((F 7) - (1 : Int32)) < 0) ∧ (((F 7) - (1 : Int32)) < (16 : Int32)) then (if ((A 6) ((F 7) - (1 : Int32))) < 0 then none else (if (((A 6) ((F 7) - (1 : Int32))) < (32 : Int32)) ∧ ((en_addInclusive (ups A 9 (ups (A 9) ((A 6) ((F 7) - (1 : Int32))) (((A 9) ((A 6) ((F 7) - (1 : Int32)))) + (1 : Int32)))) ((A 6) ((F 7) - (1 : Int32)))).isSome = true) ∧ (¬ (F 1) = (0 : Int32)) then (if (((F 8) + (1 : Int32)) % (F 1)) = 0 then (if ((en_sample (ups F 8 ((F 8) + (1 : Int32))) (R_addInclusive (ups A 9 (ups (A 9) ((A 6) ((F 7) - (1 : Int32))) (((A 9) ((A 6) ((F 7) - (1 : Int32)))) + (1 : Int32)))) ((A 6) ((F 7) - (1 : Int32)))).2 ).isSome = true) then some ((0 : Int32), (R_sample (ups F 8 ((F 8) + (1 : Int32))) (R_addInclusive (ups A 9 (ups (A 9) ((A 6) ((F 7) - (1 : Int32))) (((A 9) ((A 6) ((F 7) - (1 : Int32)))) + (1 : Int32)))) ((A 6) ((F 7) - (1 : Int32)))).2 ).2.1, (R_sample (ups F 8 ((F 8) + (1 : Int32))) (R_addInclusive (ups A 9 (ups (A 9) ((A 6) ((F 7) - (1 : Int32))) (((A 9) ((A 6) ((F 7) - (1 : Int32)))) + (1 : Int32)))) ((A 6) ((F 7) - (1 : Int32)))).2 ).2.2) else none) else some ((0 : Int32), (ups F 8 ((F 8) + (1 : Int32))), (R_addInclusive (ups A 9 (ups (A 9) ((A 6) ((F 7) - (1 : Int32))) (((A 9) ((A 6) ((F 7) - (1 : Int32)))) + (1 : Int32)))) ((A 6) ((F 7) - (1 : Int32)))).2)) else none)) else none)
theorem een_charge (F : Nat → Int32) (A : Nat → Int32 → Int32) : en_charge F A  = (if (¬ ((F 7) - (1 : Int32)) < 0) ∧ (((F 7) - (1 : Int32)) < (16 : Int32)) then (if ((A 6) ((F 7) - (1 : Int32))) < 0 then none else (if (((A 6) ((F 7) - (1 : Int32))) < (32 : Int32)) ∧ ((en_addInclusive (ups A 9 (ups (A 9) ((A 6) ((F 7) - (1 : Int32))) (((A 9) ((A 6) ((F 7) - (1 : Int32)))) + (1 : Int32)))) ((A 6) ((F 7) - (1 : Int32)))).isSome = true) ∧ (¬ (F 1) = (0 : Int32)) then (if (((F 8) + (1 : Int32)) % (F 1)) = 0 then (if ((en_sample (ups F 8 ((F 8) + (1 : Int32))) (R_addInclusive (ups A 9 (ups (A 9) ((A 6) ((F 7) - (1 : Int32))) (((A 9) ((A 6) ((F 7) - (1 : Int32)))) + (1 : Int32)))) ((A 6) ((F 7) - (1 : Int32)))).2 ).isSome = true) then some ((0 : Int32), (R_sample (ups F 8 ((F 8) + (1 : Int32))) (R_addInclusive (ups A 9 (ups (A 9) ((A 6) ((F 7) - (1 : Int32))) (((A 9) ((A 6) ((F 7) - (1 : Int32)))) + (1 : Int32)))) ((A 6) ((F 7) - (1 : Int32)))).2 ).2.1, (R_sample (ups F 8 ((F 8) + (1 : Int32))) (R_addInclusive (ups A 9 (ups (A 9) ((A 6) ((F 7) - (1 : Int32))) (((A 9) ((A 6) ((F 7) - (1 : Int32)))) + (1 : Int32)))) ((A 6) ((F 7) - (1 : Int32)))).2 ).2.2) else none) else some ((0 : Int32), (ups F 8 ((F 8) + (1 : Int32))), (R_addInclusive (ups A 9 (ups (A 9) ((A 6) ((F 7) - (1 : Int32))) (((A 9) ((A 6) ((F 7) - (1 : Int32)))) + (1 : Int32)))) ((A 6) ((F 7) - (1 : Int32)))).2)) else none)) else none) := Eq.trans rfl rfl
def R_charge (F : Nat → Int32) (A : Nat → Int32 → Int32) : Int32 × (Nat → Int32) × (Nat → Int32 → Int32) := (en_charge F A ).getD (0, (fun _ => 0), (fun _ _ => 0))
theorem eR_charge (F : Nat → Int32) (A : Nat → Int32 → Int32) : R_charge F A  = (en_charge F A ).getD (0, (fun _ => 0), (fun _ _ => 0)) := Eq.trans rfl rfl
set_option maxRecDepth 65536 in
set_option maxHeartbeats 4000000 in
theorem run_charge {l : Launch} {Z : State} {a0 : Array Value} (H : OK Z a0) (F : Nat → Int32) (G : Nat → Int64) (A : Nat → Int32 → Int32) (B : Nat → Int32 → Int64) (e1 : (en_charge F A ).isSome = true) :
    Wk l Z (MoC Z cdC) md_charge 0 [.val (.ref 0), .unset] [] (16, F, G, A, B) 0 0 (fun v w' => v = none ∧ w' = (16, (R_charge F A ).2.1, G, (R_charge F A ).2.2, B)) := by
  obtain ⟨r, h⟩ := Option.isSome_iff_exists.mp e1
  have e : R_charge F A  = r := (eR_charge F A ).trans (getD_some h)
  rw [e]
  rw [een_charge] at h
  exact wp_charge H F G A B  ((gd h).1.1) ((gd h).1.2) (fun q3 => (by have e := (ifp q3 (gd h).2); cases e)) (fun q3 => (gd (ifn q3 (gd h).2)).1.1) (fun q3 => (gd (ifn q3 (gd h).2)).1.2.1) (fun q3 => (gd (ifn q3 (gd h).2)).1.2.2) (fun q3 q8 => (rt_charge _ _ _ _ _ r (Option.some.inj (ifn q8 (gd (ifn q3 (gd h).2)).2)))) (fun q3 q8 => (gd (ifp q8 (gd (ifn q3 (gd h).2)).2)).1) (fun q3 q8 => (rt_charge _ _ _ _ _ r (Option.some.inj (gd (ifp q8 (gd (ifn q3 (gd h).2)).2)).2)))
set_option maxRecDepth 65536 in
set_option maxHeartbeats 4000000 in
theorem wp_arith {l : Launch} {Z : State} {a0 : Array Value} (H : OK Z a0) (F : Nat → Int32) (G : Nat → Int64) (A : Nat → Int32 → Int32) (B : Nat → Int32 → Int64) (p1 : Int32) {Q : Option Value → WO → Prop} (s1 : ¬ ((F 6) - (1 : Int32)) < 0) (s2 : ((F 6) - (1 : Int32)) < (16 : Int32)) (s3 : ¬ ((F 6) - (2 : Int32)) < 0) (s4 : ((F 6) - (2 : Int32)) < (16 : Int32)) (s7 : ¬ (((F 6) - (1 : Int32)) - (1 : Int32)) < 0) (s8 : (((F 6) - (1 : Int32)) - (1 : Int32)) < (16 : Int32)) (h9 : Q none (16, (ups F 6 ((F 6) - (1 : Int32))), G, (ups A 3 (ups (A 3) (((F 6) - (1 : Int32)) - (1 : Int32)) (if p1 = 0 then (((A 3) ((F 6) - (2 : Int32))) - ((A 3) ((F 6) - (1 : Int32)))) else (((A 3) ((F 6) - (2 : Int32))) + ((A 3) ((F 6) - (1 : Int32))))))), B)) :
    Wk l Z (MoC Z cdC) md_arith 0 [.val (.ref 0), .val (.int p1), .unset, .unset] [] (16, F, G, A, B) 0 0 Q := by
  refine Wk.aloadN o_arith_0 rfl ?_
  refine Wk.getA (mA_stack) (by decide) (i' := 4) rfl (wf_stack H) o_arith_1 ?_
  refine Wk.aloadN o_arith_4 rfl ?_
  refine Wk.getI (mI_sp) (wf_sp H) o_arith_5 (x := (F 6)) rfl ?_
  refine Wk.iconst o_arith_8 (z := (1 : Int32)) (by decide) ?_
  refine Wk.isub o_arith_9 ?_
  refine Wk.iaload (mA_stack) (by decide) (i' := 4) rfl s1 s2 o_arith_10 (y := ((A 3) ((F 6) - (1 : Int32)))) rfl ?_
  refine Wk.istoreN o_arith_11 (Or.inl rfl) (L' := [.val (.ref 0), .val (.int p1), .val (.int ((A 3) ((F 6) - (1 : Int32)))), .unset]) rfl ?_
  refine Wk.aloadN o_arith_12 rfl ?_
  refine Wk.getA (mA_stack) (by decide) (i' := 4) rfl (wf_stack H) o_arith_13 ?_
  refine Wk.aloadN o_arith_16 rfl ?_
  refine Wk.getI (mI_sp) (wf_sp H) o_arith_17 (x := (F 6)) rfl ?_
  refine Wk.iconst o_arith_20 (z := (2 : Int32)) (by decide) ?_
  refine Wk.isub o_arith_21 ?_
  refine Wk.iaload (mA_stack) (by decide) (i' := 4) rfl s3 s4 o_arith_22 (y := ((A 3) ((F 6) - (2 : Int32)))) rfl ?_
  refine Wk.istoreN o_arith_23 (Or.inl rfl) (L' := [.val (.ref 0), .val (.int p1), .val (.int ((A 3) ((F 6) - (1 : Int32)))), .val (.int ((A 3) ((F 6) - (2 : Int32))))]) rfl ?_
  refine Wk.aloadN o_arith_24 rfl ?_
  refine Wk.dup o_arith_25 rfl ?_
  refine Wk.getI (mI_sp) (wf_sp H) o_arith_26 (x := (F 6)) rfl ?_
  refine Wk.iconst o_arith_29 (z := (1 : Int32)) (by decide) ?_
  refine Wk.isub o_arith_30 ?_
  refine Wk.putI (coC H) (mI_sp) (wf_sp H) (Or.inl (wy_sp H)) o_arith_31 ?_
  refine Wk.aloadN o_arith_34 rfl ?_
  refine Wk.getA (mA_stack) (by decide) (i' := 4) rfl (wf_stack H) o_arith_35 ?_
  refine Wk.aloadN o_arith_38 rfl ?_
  refine Wk.getI (mI_sp) (wf_sp H) o_arith_39 (x := ((F 6) - (1 : Int32))) rfl ?_
  refine Wk.iconst o_arith_42 (z := (1 : Int32)) (by decide) ?_
  refine Wk.isub o_arith_43 ?_
  refine Wk.iloadN o_arith_44 rfl ?_
  have J6 : Wk l Z (MoC Z cdC) md_arith 57 [.val (.ref 0), .val (.int p1), .val (.int ((A 3) ((F 6) - (1 : Int32)))), .val (.int ((A 3) ((F 6) - (2 : Int32))))] [.int (if p1 = 0 then (((A 3) ((F 6) - (2 : Int32))) - ((A 3) ((F 6) - (1 : Int32)))) else (((A 3) ((F 6) - (2 : Int32))) + ((A 3) ((F 6) - (1 : Int32))))), .int (((F 6) - (1 : Int32)) - (1 : Int32)), .ref 4] (16, (ups F 6 ((F 6) - (1 : Int32))), G, A, B) 0 0 Q := by
    refine Wk.iastore (coC H) (f := (A 3)) (mA_stack) rfl (by decide) (i' := 4) rfl s7 s8 o_arith_57 ?_
    exact Wk.ret mrC rfl o_arith_58 rfl (by decide) (by decide) h9
  refine Wk.if_eq o_arith_45 (fun q5 => ?_) (fun q5 => ?_)
  · refine Wk.iloadN o_arith_54 rfl ?_
    refine Wk.iloadN o_arith_55 rfl ?_
    refine Wk.isub o_arith_56 ?_
    first | (rw [show ((if p1 = 0 then (((A 3) ((F 6) - (2 : Int32))) - ((A 3) ((F 6) - (1 : Int32)))) else (((A 3) ((F 6) - (2 : Int32))) + ((A 3) ((F 6) - (1 : Int32))))) : Int32) = (((A 3) ((F 6) - (2 : Int32))) - ((A 3) ((F 6) - (1 : Int32)))) from if_pos q5] at J6; exact J6) | exact J6 | (simp only [if_pos q5] at J6 ⊢; exact J6)
  · refine Wk.iloadN o_arith_48 rfl ?_
    refine Wk.iloadN o_arith_49 rfl ?_
    refine Wk.iadd o_arith_50 ?_
    refine Wk.goto o_arith_51 ?_
    first | (rw [show ((if p1 = 0 then (((A 3) ((F 6) - (2 : Int32))) - ((A 3) ((F 6) - (1 : Int32)))) else (((A 3) ((F 6) - (2 : Int32))) + ((A 3) ((F 6) - (1 : Int32))))) : Int32) = (((A 3) ((F 6) - (2 : Int32))) + ((A 3) ((F 6) - (1 : Int32)))) from if_neg q5] at J6; exact J6) | exact J6 | (simp only [if_neg q5] at J6 ⊢; exact J6)

theorem rt_arith (G : Nat → Int64) (B : Nat → Int32 → Int64) (v0 : Int32) (xF : Nat → Int32) (xA : Nat → Int32 → Int32) (r : Int32 × (Nat → Int32) × (Nat → Int32 → Int32)) (e : (v0, xF, xA) = r) : (none : Option Value) = none ∧ (16, xF, G, xA, B) = (16, r.2.1, G, r.2.2, B) := by subst e; exact ⟨rfl, rfl⟩
def en_arith (F : Nat → Int32) (A : Nat → Int32 → Int32) (p1 : Int32) : Option (Int32 × (Nat → Int32) × (Nat → Int32 → Int32)) := (if (¬ ((F 6) - (1 : Int32)) < 0) ∧ (((F 6) - (1 : Int32)) < (16 : Int32)) ∧ (¬ ((F 6) - (2 : Int32)) < 0) ∧ (((F 6) - (2 : Int32)) < (16 : Int32)) ∧ (¬ (((F 6) - (1 : Int32)) - (1 : Int32)) < 0) ∧ ((((F 6) - (1 : Int32)) - (1 : Int32)) < (16 : Int32)) then some ((0 : Int32), (ups F 6 ((F 6) - (1 : Int32))), (ups A 3 (ups (A 3) (((F 6) - (1 : Int32)) - (1 : Int32)) (if p1 = 0 then (((A 3) ((F 6) - (2 : Int32))) - ((A 3) ((F 6) - (1 : Int32)))) else (((A 3) ((F 6) - (2 : Int32))) + ((A 3) ((F 6) - (1 : Int32)))))))) else none)
theorem een_arith (F : Nat → Int32) (A : Nat → Int32 → Int32) (p1 : Int32) : en_arith F A p1 = (if (¬ ((F 6) - (1 : Int32)) < 0) ∧ (((F 6) - (1 : Int32)) < (16 : Int32)) ∧ (¬ ((F 6) - (2 : Int32)) < 0) ∧ (((F 6) - (2 : Int32)) < (16 : Int32)) ∧ (¬ (((F 6) - (1 : Int32)) - (1 : Int32)) < 0) ∧ ((((F 6) - (1 : Int32)) - (1 : Int32)) < (16 : Int32)) then some ((0 : Int32), (ups F 6 ((F 6) - (1 : Int32))), (ups A 3 (ups (A 3) (((F 6) - (1 : Int32)) - (1 : Int32)) (if p1 = 0 then (((A 3) ((F 6) - (2 : Int32))) - ((A 3) ((F 6) - (1 : Int32)))) else (((A 3) ((F 6) - (2 : Int32))) + ((A 3) ((F 6) - (1 : Int32)))))))) else none) := Eq.trans rfl rfl
def R_arith (F : Nat → Int32) (A : Nat → Int32 → Int32) (p1 : Int32) : Int32 × (Nat → Int32) × (Nat → Int32 → Int32) := (en_arith F A p1).getD (0, (fun _ => 0), (fun _ _ => 0))
theorem eR_arith (F : Nat → Int32) (A : Nat → Int32 → Int32) (p1 : Int32) : R_arith F A p1 = (en_arith F A p1).getD (0, (fun _ => 0), (fun _ _ => 0)) := Eq.trans rfl rfl
set_option maxRecDepth 65536 in
set_option maxHeartbeats 4000000 in
theorem run_arith {l : Launch} {Z : State} {a0 : Array Value} (H : OK Z a0) (F : Nat → Int32) (G : Nat → Int64) (A : Nat → Int32 → Int32) (B : Nat → Int32 → Int64) (p1 : Int32) (e1 : (en_arith F A p1).isSome = true) :
    Wk l Z (MoC Z cdC) md_arith 0 [.val (.ref 0), .val (.int p1), .unset, .unset] [] (16, F, G, A, B) 0 0 (fun v w' => v = none ∧ w' = (16, (R_arith F A p1).2.1, G, (R_arith F A p1).2.2, B)) := by
  obtain ⟨r, h⟩ := Option.isSome_iff_exists.mp e1
  have e : R_arith F A p1 = r := (eR_arith F A p1).trans (getD_some h)
  rw [e]
  rw [een_arith] at h
  exact wp_arith H F G A B p1 ((gd h).1.1) ((gd h).1.2.1) ((gd h).1.2.2.1) ((gd h).1.2.2.2.1) ((gd h).1.2.2.2.2.1) ((gd h).1.2.2.2.2.2) ((rt_arith _ _ _ _ _ r (Option.some.inj (gd h).2)))
set_option maxRecDepth 65536 in
set_option maxHeartbeats 4000000 in
theorem wp_findInstrChild {l : Launch} {Z : State} {a0 : Array Value} (H : OK Z a0) (F : Nat → Int32) (G : Nat → Int64) (A : Nat → Int32 → Int32) (B : Nat → Int32 → Int64) (p1 : Int32) (p2 : Int32) {Q : Option Value → WO → Prop} (h1 : Wk l Z (MoC Z cdC) md_findInstrChild 2 [.val (.ref 0), .val (.int p1), .val (.int p2), .val (.int (1 : Int32))] [] (16, F, G, A, B) 0 0 Q) :
    Wk l Z (MoC Z cdC) md_findInstrChild 0 [.val (.ref 0), .val (.int p1), .val (.int p2), .unset] [] (16, F, G, A, B) 0 0 Q := by
  refine Wk.iconst o_findInstrChild_0 (z := (1 : Int32)) (by decide) ?_
  refine Wk.istoreN o_findInstrChild_1 (Or.inl rfl) (L' := [.val (.ref 0), .val (.int p1), .val (.int p2), .val (.int (1 : Int32))]) rfl ?_
  exact h1

set_option maxRecDepth 65536 in
set_option maxHeartbeats 4000000 in
theorem wp_findInstrChild_2 {l : Launch} {Z : State} {a0 : Array Value} (H : OK Z a0) (F : Nat → Int32) (G : Nat → Int64) (A : Nat → Int32 → Int32) (B : Nat → Int32 → Int64) (v1 : Int32) (v2 : Int32) (v3 : Int32) {Q : Option Value → WO → Prop} (h2 : ¬ v3 < (F 12) → Q (some (.int (-1 : Int32))) (16, F, G, A, B)) (s3 : v3 < (F 12) → ¬ v3 < 0) (s4 : v3 < (F 12) → v3 < (32 : Int32)) (h6 : v3 < (F 12) → ¬ ((A 7) v3) = v1 → Wk l Z (MoC Z cdC) md_findInstrChild 2 [.val (.ref 0), .val (.int v1), .val (.int v2), .val (.int (v3 + (1 : Int32)))] [] (16, F, G, A, B) 0 0 Q) (s7 : v3 < (F 12) → ((A 7) v3) = v1 → ¬ v3 < 0) (s8 : v3 < (F 12) → ((A 7) v3) = v1 → v3 < (32 : Int32)) (h10 : v3 < (F 12) → ((A 7) v3) = v1 → ¬ ((A 8) v3) = v2 → Wk l Z (MoC Z cdC) md_findInstrChild 2 [.val (.ref 0), .val (.int v1), .val (.int v2), .val (.int (v3 + (1 : Int32)))] [] (16, F, G, A, B) 0 0 Q) (h11 : v3 < (F 12) → ((A 7) v3) = v1 → ((A 8) v3) = v2 → Q (some (.int v3)) (16, F, G, A, B)) :
    Wk l Z (MoC Z cdC) md_findInstrChild 2 [.val (.ref 0), .val (.int v1), .val (.int v2), .val (.int v3)] [] (16, F, G, A, B) 0 0 Q := by
  refine Wk.iloadN o_findInstrChild_2 rfl ?_
  refine Wk.aloadN o_findInstrChild_3 rfl ?_
  refine Wk.getI (mI_iCount) (wf_iCount H) o_findInstrChild_4 (x := (F 12)) rfl ?_
  refine Wk.icmp_ge o_findInstrChild_7 (fun q1 => ?_) (fun q1 => ?_)
  · refine Wk.iconst o_findInstrChild_38 (z := (-1 : Int32)) (by decide) ?_
    exact Wk.ireturn mrC rfl o_findInstrChild_39 rfl (by decide) (by decide) (h2 q1)
  · refine Wk.aloadN o_findInstrChild_10 rfl ?_
    refine Wk.getA (mA_iParent) (by decide) (i' := 8) rfl (wf_iParent H) o_findInstrChild_11 ?_
    refine Wk.iloadN o_findInstrChild_14 rfl ?_
    refine Wk.iaload (mA_iParent) (by decide) (i' := 8) rfl (s3 q1) (s4 q1) o_findInstrChild_15 (y := ((A 7) v3)) rfl ?_
    refine Wk.iloadN o_findInstrChild_16 rfl ?_
    refine Wk.icmp_ne o_findInstrChild_17 (fun q5 => ?_) (fun q5 => ?_)
    · refine Wk.iinc o_findInstrChild_32 rfl (z := (v3 + (1 : Int32))) rfl (L' := [.val (.ref 0), .val (.int v1), .val (.int v2), .val (.int (v3 + (1 : Int32)))]) rfl ?_
      refine Wk.goto o_findInstrChild_35 ?_
      exact (h6 q1 q5)
    · refine Wk.aloadN o_findInstrChild_20 rfl ?_
      refine Wk.getA (mA_iFunc) (by decide) (i' := 9) rfl (wf_iFunc H) o_findInstrChild_21 ?_
      refine Wk.iloadN o_findInstrChild_24 rfl ?_
      refine Wk.iaload (mA_iFunc) (by decide) (i' := 9) rfl (s7 q1 q5) (s8 q1 q5) o_findInstrChild_25 (y := ((A 8) v3)) rfl ?_
      refine Wk.iloadN o_findInstrChild_26 rfl ?_
      refine Wk.icmp_ne o_findInstrChild_27 (fun q9 => ?_) (fun q9 => ?_)
      · refine Wk.iinc o_findInstrChild_32 rfl (z := (v3 + (1 : Int32))) rfl (L' := [.val (.ref 0), .val (.int v1), .val (.int v2), .val (.int (v3 + (1 : Int32)))]) rfl ?_
        refine Wk.goto o_findInstrChild_35 ?_
        exact (h10 q1 q5 q9)
      · refine Wk.iloadN o_findInstrChild_30 rfl ?_
        exact Wk.ireturn mrC rfl o_findInstrChild_31 rfl (by decide) (by decide) (h11 q1 q5 q9)

theorem rt_findInstrChild (F : Nat → Int32) (G : Nat → Int64) (A : Nat → Int32 → Int32) (B : Nat → Int32 → Int64) (v0 : Int32) (r : Int32) (e : v0 = r) : some (Value.int v0) = some (.int r) ∧ (16, F, G, A, B) = (16, F, G, A, B) := by subst e; exact ⟨rfl, rfl⟩
def lp_findInstrChild : Nat → Nat → Int32 → Int32 → Int32 → (Nat → Int32) → (Nat → Int32 → Int32) → Option (Int32)
  | 0, _, _, _, _, _, _ => none
  | n + 1, tag, v1, v2, v3, F, A => if tag = 2 then (if v3 < (F 12) then (if (¬ v3 < 0) ∧ (v3 < (32 : Int32)) then (if ((A 7) v3) = v1 then (if (¬ v3 < 0) ∧ (v3 < (32 : Int32)) then (if ((A 8) v3) = v2 then some (v3) else lp_findInstrChild n 2 v1 v2 (v3 + (1 : Int32)) F A) else none) else lp_findInstrChild n 2 v1 v2 (v3 + (1 : Int32)) F A) else none) else some ((-1 : Int32))) else none
theorem lp_findInstrChild_z (tag : Nat) (v1 : Int32) (v2 : Int32) (v3 : Int32) (F : Nat → Int32) (A : Nat → Int32 → Int32) : lp_findInstrChild 0 tag v1 v2 v3 F A = none := Eq.trans rfl rfl
theorem lp_findInstrChild_2 (n : Nat) (v1 : Int32) (v2 : Int32) (v3 : Int32) (F : Nat → Int32) (A : Nat → Int32 → Int32) : lp_findInstrChild (n + 1) 2 v1 v2 v3 F A = (if v3 < (F 12) then (if (¬ v3 < 0) ∧ (v3 < (32 : Int32)) then (if ((A 7) v3) = v1 then (if (¬ v3 < 0) ∧ (v3 < (32 : Int32)) then (if ((A 8) v3) = v2 then some (v3) else lp_findInstrChild n 2 v1 v2 (v3 + (1 : Int32)) F A) else none) else lp_findInstrChild n 2 v1 v2 (v3 + (1 : Int32)) F A) else none) else some ((-1 : Int32))) := by
  rw [lp_findInstrChild, if_pos rfl]
set_option maxRecDepth 65536 in
set_option maxHeartbeats 4000000 in
theorem lpw_findInstrChild {l : Launch} {Z : State} {a0 : Array Value} (H : OK Z a0) (F : Nat → Int32) (G : Nat → Int64) (A : Nat → Int32 → Int32) (B : Nat → Int32 → Int64) : ∀ (n : Nat) (v1 : Int32) (v2 : Int32) (v3 : Int32) (r : Int32), (lp_findInstrChild n 2 v1 v2 v3 F A = some r → Wk l Z (MoC Z cdC) md_findInstrChild 2 [.val (.ref 0), .val (.int v1), .val (.int v2), .val (.int v3)] [] (16, F, G, A, B) 0 0 (fun v w' => v = some (.int r) ∧ w' = (16, F, G, A, B))) := by
  intro n
  induction n with
  | zero =>
    intro v1 v2 v3  r
    exact (fun h => by rw [lp_findInstrChild_z] at h; cases h)
  | succ n ih =>
    intro v1 v2 v3  r
    refine fun h => ?_
    · rw [lp_findInstrChild_2] at h
      exact wp_findInstrChild_2 H F G A B v1 v2 v3 (fun q1 => (rt_findInstrChild _ _ _ _ _ r (Option.some.inj (ifn q1 h)))) (fun q1 => (gd (ifp q1 h)).1.1) (fun q1 => (gd (ifp q1 h)).1.2) (fun q1 q5 => (ih _ _ _ _) (ifn q5 (gd (ifp q1 h)).2)) (fun q1 q5 => (gd (ifp q5 (gd (ifp q1 h)).2)).1.1) (fun q1 q5 => (gd (ifp q5 (gd (ifp q1 h)).2)).1.2) (fun q1 q5 q9 => (ih _ _ _ _) (ifn q9 (gd (ifp q5 (gd (ifp q1 h)).2)).2)) (fun q1 q5 q9 => (rt_findInstrChild _ _ _ _ _ r (Option.some.inj (ifp q9 (gd (ifp q5 (gd (ifp q1 h)).2)).2))))
def en_findInstrChild (F : Nat → Int32) (A : Nat → Int32 → Int32) (p1 : Int32) (p2 : Int32) : Option (Int32) := lp_findInstrChild 1000 2 p1 p2 (1 : Int32) F A
theorem een_findInstrChild (F : Nat → Int32) (A : Nat → Int32 → Int32) (p1 : Int32) (p2 : Int32) : en_findInstrChild F A p1 p2 = lp_findInstrChild 1000 2 p1 p2 (1 : Int32) F A := Eq.trans rfl rfl
def R_findInstrChild (F : Nat → Int32) (A : Nat → Int32 → Int32) (p1 : Int32) (p2 : Int32) : Int32 := (en_findInstrChild F A p1 p2).getD (0)
theorem eR_findInstrChild (F : Nat → Int32) (A : Nat → Int32 → Int32) (p1 : Int32) (p2 : Int32) : R_findInstrChild F A p1 p2 = (en_findInstrChild F A p1 p2).getD (0) := Eq.trans rfl rfl
set_option maxRecDepth 65536 in
set_option maxHeartbeats 4000000 in
theorem run_findInstrChild {l : Launch} {Z : State} {a0 : Array Value} (H : OK Z a0) (F : Nat → Int32) (G : Nat → Int64) (A : Nat → Int32 → Int32) (B : Nat → Int32 → Int64) (p1 : Int32) (p2 : Int32) (e1 : (en_findInstrChild F A p1 p2).isSome = true) :
    Wk l Z (MoC Z cdC) md_findInstrChild 0 [.val (.ref 0), .val (.int p1), .val (.int p2), .unset] [] (16, F, G, A, B) 0 0 (fun v w' => v = some (.int (R_findInstrChild F A p1 p2)) ∧ w' = (16, F, G, A, B)) := by
  obtain ⟨r, h⟩ := Option.isSome_iff_exists.mp e1
  have e : R_findInstrChild F A p1 p2 = r := (eR_findInstrChild F A p1 p2).trans (getD_some h)
  rw [e]
  rw [een_findInstrChild] at h
  exact wp_findInstrChild H F G A B p1 p2 ((lpw_findInstrChild H F G A B _ _ _ _ _) h)
set_option maxRecDepth 65536 in
set_option maxHeartbeats 4000000 in
theorem wp_newInstrNode {l : Launch} {Z : State} {a0 : Array Value} (H : OK Z a0) (F : Nat → Int32) (G : Nat → Int64) (A : Nat → Int32 → Int32) (B : Nat → Int32 → Int64) (p1 : Int32) (p2 : Int32) {Q : Option Value → WO → Prop} (s1 : ¬ (F 12) < 0) (s2 : (F 12) < (32 : Int32)) (h3 : Q (some (.int (F 12))) (16, (ups F 12 ((F 12) + (1 : Int32))), G, (ups (ups (ups (ups (ups A 7 (ups (A 7) (F 12) p1)) 8 (ups (A 8) (F 12) p2)) 9 (ups (A 9) (F 12) (0 : Int32))) 10 (ups (A 10) (F 12) (0 : Int32))) 11 (ups (A 11) (F 12) (0 : Int32))), B)) :
    Wk l Z (MoC Z cdC) md_newInstrNode 0 [.val (.ref 0), .val (.int p1), .val (.int p2), .unset] [] (16, F, G, A, B) 0 0 Q := by
  refine Wk.aloadN o_newInstrNode_0 rfl ?_
  refine Wk.getI (mI_iCount) (wf_iCount H) o_newInstrNode_1 (x := (F 12)) rfl ?_
  refine Wk.istoreN o_newInstrNode_4 (Or.inl rfl) (L' := [.val (.ref 0), .val (.int p1), .val (.int p2), .val (.int (F 12))]) rfl ?_
  refine Wk.aloadN o_newInstrNode_5 rfl ?_
  refine Wk.getA (mA_iParent) (by decide) (i' := 8) rfl (wf_iParent H) o_newInstrNode_6 ?_
  refine Wk.iloadN o_newInstrNode_9 rfl ?_
  refine Wk.iloadN o_newInstrNode_10 rfl ?_
  refine Wk.iastore (coC H) (f := (A 7)) (mA_iParent) rfl (by decide) (i' := 8) rfl s1 s2 o_newInstrNode_11 ?_
  refine Wk.aloadN o_newInstrNode_12 rfl ?_
  refine Wk.getA (mA_iFunc) (by decide) (i' := 9) rfl (wf_iFunc H) o_newInstrNode_13 ?_
  refine Wk.iloadN o_newInstrNode_16 rfl ?_
  refine Wk.iloadN o_newInstrNode_17 rfl ?_
  refine Wk.iastore (coC H) (f := (A 8)) (mA_iFunc) rfl (by decide) (i' := 9) rfl s1 s2 o_newInstrNode_18 ?_
  refine Wk.aloadN o_newInstrNode_19 rfl ?_
  refine Wk.getA (mA_iSelf) (by decide) (i' := 10) rfl (wf_iSelf H) o_newInstrNode_20 ?_
  refine Wk.iloadN o_newInstrNode_23 rfl ?_
  refine Wk.iconst o_newInstrNode_24 (z := (0 : Int32)) (by decide) ?_
  refine Wk.iastore (coC H) (f := (A 9)) (mA_iSelf) rfl (by decide) (i' := 10) rfl s1 s2 o_newInstrNode_25 ?_
  refine Wk.aloadN o_newInstrNode_26 rfl ?_
  refine Wk.getA (mA_iIncl) (by decide) (i' := 11) rfl (wf_iIncl H) o_newInstrNode_27 ?_
  refine Wk.iloadN o_newInstrNode_30 rfl ?_
  refine Wk.iconst o_newInstrNode_31 (z := (0 : Int32)) (by decide) ?_
  refine Wk.iastore (coC H) (f := (A 10)) (mA_iIncl) rfl (by decide) (i' := 11) rfl s1 s2 o_newInstrNode_32 ?_
  refine Wk.aloadN o_newInstrNode_33 rfl ?_
  refine Wk.getA (mA_iLost) (by decide) (i' := 12) rfl (wf_iLost H) o_newInstrNode_34 ?_
  refine Wk.iloadN o_newInstrNode_37 rfl ?_
  refine Wk.iconst o_newInstrNode_38 (z := (0 : Int32)) (by decide) ?_
  refine Wk.iastore (coC H) (f := (A 11)) (mA_iLost) rfl (by decide) (i' := 12) rfl s1 s2 o_newInstrNode_39 ?_
  refine Wk.aloadN o_newInstrNode_40 rfl ?_
  refine Wk.iloadN o_newInstrNode_41 rfl ?_
  refine Wk.iconst o_newInstrNode_42 (z := (1 : Int32)) (by decide) ?_
  refine Wk.iadd o_newInstrNode_43 ?_
  refine Wk.putI (coC H) (mI_iCount) (wf_iCount H) (Or.inl (wy_iCount H)) o_newInstrNode_44 ?_
  refine Wk.iloadN o_newInstrNode_47 rfl ?_
  exact Wk.ireturn mrC rfl o_newInstrNode_48 rfl (by decide) (by decide) h3

theorem rt_newInstrNode (G : Nat → Int64) (B : Nat → Int32 → Int64) (v0 : Int32) (xF : Nat → Int32) (xA : Nat → Int32 → Int32) (r : Int32 × (Nat → Int32) × (Nat → Int32 → Int32)) (e : (v0, xF, xA) = r) : some (Value.int v0) = some (.int r.1) ∧ (16, xF, G, xA, B) = (16, r.2.1, G, r.2.2, B) := by subst e; exact ⟨rfl, rfl⟩
def en_newInstrNode (F : Nat → Int32) (A : Nat → Int32 → Int32) (p1 : Int32) (p2 : Int32) : Option (Int32 × (Nat → Int32) × (Nat → Int32 → Int32)) := (if (¬ (F 12) < 0) ∧ ((F 12) < (32 : Int32)) then some ((F 12), (ups F 12 ((F 12) + (1 : Int32))), (ups (ups (ups (ups (ups A 7 (ups (A 7) (F 12) p1)) 8 (ups (A 8) (F 12) p2)) 9 (ups (A 9) (F 12) (0 : Int32))) 10 (ups (A 10) (F 12) (0 : Int32))) 11 (ups (A 11) (F 12) (0 : Int32)))) else none)
theorem een_newInstrNode (F : Nat → Int32) (A : Nat → Int32 → Int32) (p1 : Int32) (p2 : Int32) : en_newInstrNode F A p1 p2 = (if (¬ (F 12) < 0) ∧ ((F 12) < (32 : Int32)) then some ((F 12), (ups F 12 ((F 12) + (1 : Int32))), (ups (ups (ups (ups (ups A 7 (ups (A 7) (F 12) p1)) 8 (ups (A 8) (F 12) p2)) 9 (ups (A 9) (F 12) (0 : Int32))) 10 (ups (A 10) (F 12) (0 : Int32))) 11 (ups (A 11) (F 12) (0 : Int32)))) else none) := Eq.trans rfl rfl
def R_newInstrNode (F : Nat → Int32) (A : Nat → Int32 → Int32) (p1 : Int32) (p2 : Int32) : Int32 × (Nat → Int32) × (Nat → Int32 → Int32) := (en_newInstrNode F A p1 p2).getD (0, (fun _ => 0), (fun _ _ => 0))
theorem eR_newInstrNode (F : Nat → Int32) (A : Nat → Int32 → Int32) (p1 : Int32) (p2 : Int32) : R_newInstrNode F A p1 p2 = (en_newInstrNode F A p1 p2).getD (0, (fun _ => 0), (fun _ _ => 0)) := Eq.trans rfl rfl
set_option maxRecDepth 65536 in
set_option maxHeartbeats 4000000 in
theorem run_newInstrNode {l : Launch} {Z : State} {a0 : Array Value} (H : OK Z a0) (F : Nat → Int32) (G : Nat → Int64) (A : Nat → Int32 → Int32) (B : Nat → Int32 → Int64) (p1 : Int32) (p2 : Int32) (e1 : (en_newInstrNode F A p1 p2).isSome = true) :
    Wk l Z (MoC Z cdC) md_newInstrNode 0 [.val (.ref 0), .val (.int p1), .val (.int p2), .unset] [] (16, F, G, A, B) 0 0 (fun v w' => v = some (.int (R_newInstrNode F A p1 p2).1) ∧ w' = (16, (R_newInstrNode F A p1 p2).2.1, G, (R_newInstrNode F A p1 p2).2.2, B)) := by
  obtain ⟨r, h⟩ := Option.isSome_iff_exists.mp e1
  have e : R_newInstrNode F A p1 p2 = r := (eR_newInstrNode F A p1 p2).trans (getD_some h)
  rw [e]
  rw [een_newInstrNode] at h
  exact wp_newInstrNode H F G A B p1 p2 ((gd h).1.1) ((gd h).1.2) ((rt_newInstrNode _ _ _ _ _ r (Option.some.inj (gd h).2)))
set_option maxRecDepth 65536 in
set_option maxHeartbeats 4000000 in
theorem wp_doCall {l : Launch} {Z : State} {a0 : Array Value} (H : OK Z a0) (F : Nat → Int32) (G : Nat → Int64) (A : Nat → Int32 → Int32) (B : Nat → Int32 → Int64) (p1 : Int32) {Q : Option Value → WO → Prop} (s1 : ¬ ((F 7) - (1 : Int32)) < 0) (s2 : ((F 7) - (1 : Int32)) < (16 : Int32)) (s12 : ((A 6) ((F 7) - (1 : Int32))) < 0 → ¬ (F 7) < 0) (s13 : ((A 6) ((F 7) - (1 : Int32))) < 0 → (F 7) < (16 : Int32)) (s14 : ((A 6) ((F 7) - (1 : Int32))) < 0 → ¬ p1 < 0) (s15 : ((A 6) ((F 7) - (1 : Int32))) < 0 → p1 < (8 : Int32)) (h16 : ((A 6) ((F 7) - (1 : Int32))) < 0 → Q none (16, (ups (ups F 7 ((F 7) + (1 : Int32))) 5 ((A 2) p1)), G, (ups (ups (ups A 4 (ups (A 4) (F 7) p1)) 5 (ups (A 5) (F 7) ((F 5) + (1 : Int32)))) 6 (ups (A 6) (F 7) (-1 : Int32))), B)) (s17 : ¬ ((A 6) ((F 7) - (1 : Int32))) < 0 → (en_findInstrChild F A ((A 6) ((F 7) - (1 : Int32))) p1).isSome = true) (s22 : ¬ ((A 6) ((F 7) - (1 : Int32))) < 0 → ¬ (R_findInstrChild F A ((A 6) ((F 7) - (1 : Int32))) p1) < 0 → ¬ (F 7) < 0) (s23 : ¬ ((A 6) ((F 7) - (1 : Int32))) < 0 → ¬ (R_findInstrChild F A ((A 6) ((F 7) - (1 : Int32))) p1) < 0 → (F 7) < (16 : Int32)) (s24 : ¬ ((A 6) ((F 7) - (1 : Int32))) < 0 → ¬ (R_findInstrChild F A ((A 6) ((F 7) - (1 : Int32))) p1) < 0 → ¬ p1 < 0) (s25 : ¬ ((A 6) ((F 7) - (1 : Int32))) < 0 → ¬ (R_findInstrChild F A ((A 6) ((F 7) - (1 : Int32))) p1) < 0 → p1 < (8 : Int32)) (h26 : ¬ ((A 6) ((F 7) - (1 : Int32))) < 0 → ¬ (R_findInstrChild F A ((A 6) ((F 7) - (1 : Int32))) p1) < 0 → Q none (16, (ups (ups F 7 ((F 7) + (1 : Int32))) 5 ((A 2) p1)), G, (ups (ups (ups A 4 (ups (A 4) (F 7) p1)) 5 (ups (A 5) (F 7) ((F 5) + (1 : Int32)))) 6 (ups (A 6) (F 7) (R_findInstrChild F A ((A 6) ((F 7) - (1 : Int32))) p1))), B)) (s29 : ¬ ((A 6) ((F 7) - (1 : Int32))) < 0 → (R_findInstrChild F A ((A 6) ((F 7) - (1 : Int32))) p1) < 0 → ¬ (F 12) < (F 0) → ¬ (F 7) < 0) (s30 : ¬ ((A 6) ((F 7) - (1 : Int32))) < 0 → (R_findInstrChild F A ((A 6) ((F 7) - (1 : Int32))) p1) < 0 → ¬ (F 12) < (F 0) → (F 7) < (16 : Int32)) (s31 : ¬ ((A 6) ((F 7) - (1 : Int32))) < 0 → (R_findInstrChild F A ((A 6) ((F 7) - (1 : Int32))) p1) < 0 → ¬ (F 12) < (F 0) → ¬ p1 < 0) (s32 : ¬ ((A 6) ((F 7) - (1 : Int32))) < 0 → (R_findInstrChild F A ((A 6) ((F 7) - (1 : Int32))) p1) < 0 → ¬ (F 12) < (F 0) → p1 < (8 : Int32)) (h33 : ¬ ((A 6) ((F 7) - (1 : Int32))) < 0 → (R_findInstrChild F A ((A 6) ((F 7) - (1 : Int32))) p1) < 0 → ¬ (F 12) < (F 0) → Q none (16, (ups (ups F 7 ((F 7) + (1 : Int32))) 5 ((A 2) p1)), G, (ups (ups (ups A 4 (ups (A 4) (F 7) p1)) 5 (ups (A 5) (F 7) ((F 5) + (1 : Int32)))) 6 (ups (A 6) (F 7) (R_findInstrChild F A ((A 6) ((F 7) - (1 : Int32))) p1))), B)) (s34 : ¬ ((A 6) ((F 7) - (1 : Int32))) < 0 → (R_findInstrChild F A ((A 6) ((F 7) - (1 : Int32))) p1) < 0 → (F 12) < (F 0) → (en_newInstrNode F A ((A 6) ((F 7) - (1 : Int32))) p1).isSome = true) (s35 : ¬ ((A 6) ((F 7) - (1 : Int32))) < 0 → (R_findInstrChild F A ((A 6) ((F 7) - (1 : Int32))) p1) < 0 → (F 12) < (F 0) → ¬ ((R_newInstrNode F A ((A 6) ((F 7) - (1 : Int32))) p1).2.1 7) < 0) (s36 : ¬ ((A 6) ((F 7) - (1 : Int32))) < 0 → (R_findInstrChild F A ((A 6) ((F 7) - (1 : Int32))) p1) < 0 → (F 12) < (F 0) → ((R_newInstrNode F A ((A 6) ((F 7) - (1 : Int32))) p1).2.1 7) < (16 : Int32)) (s37 : ¬ ((A 6) ((F 7) - (1 : Int32))) < 0 → (R_findInstrChild F A ((A 6) ((F 7) - (1 : Int32))) p1) < 0 → (F 12) < (F 0) → ¬ p1 < 0) (s38 : ¬ ((A 6) ((F 7) - (1 : Int32))) < 0 → (R_findInstrChild F A ((A 6) ((F 7) - (1 : Int32))) p1) < 0 → (F 12) < (F 0) → p1 < (8 : Int32)) (h39 : ¬ ((A 6) ((F 7) - (1 : Int32))) < 0 → (R_findInstrChild F A ((A 6) ((F 7) - (1 : Int32))) p1) < 0 → (F 12) < (F 0) → Q none (16, (ups (ups (R_newInstrNode F A ((A 6) ((F 7) - (1 : Int32))) p1).2.1 7 (((R_newInstrNode F A ((A 6) ((F 7) - (1 : Int32))) p1).2.1 7) + (1 : Int32))) 5 (((R_newInstrNode F A ((A 6) ((F 7) - (1 : Int32))) p1).2.2 2) p1)), G, (ups (ups (ups (R_newInstrNode F A ((A 6) ((F 7) - (1 : Int32))) p1).2.2 4 (ups ((R_newInstrNode F A ((A 6) ((F 7) - (1 : Int32))) p1).2.2 4) ((R_newInstrNode F A ((A 6) ((F 7) - (1 : Int32))) p1).2.1 7) p1)) 5 (ups ((R_newInstrNode F A ((A 6) ((F 7) - (1 : Int32))) p1).2.2 5) ((R_newInstrNode F A ((A 6) ((F 7) - (1 : Int32))) p1).2.1 7) (((R_newInstrNode F A ((A 6) ((F 7) - (1 : Int32))) p1).2.1 5) + (1 : Int32)))) 6 (ups ((R_newInstrNode F A ((A 6) ((F 7) - (1 : Int32))) p1).2.2 6) ((R_newInstrNode F A ((A 6) ((F 7) - (1 : Int32))) p1).2.1 7) (R_newInstrNode F A ((A 6) ((F 7) - (1 : Int32))) p1).1)), B)) :
    Wk l Z (MoC Z cdC) md_doCall 0 [.val (.ref 0), .val (.int p1), .unset, .unset] [] (16, F, G, A, B) 0 0 Q := by
  refine Wk.aloadN o_doCall_0 rfl ?_
  refine Wk.getA (mA_frameNode) (by decide) (i' := 7) rfl (wf_frameNode H) o_doCall_1 ?_
  refine Wk.aloadN o_doCall_4 rfl ?_
  refine Wk.getI (mI_depth) (wf_depth H) o_doCall_5 (x := (F 7)) rfl ?_
  refine Wk.iconst o_doCall_8 (z := (1 : Int32)) (by decide) ?_
  refine Wk.isub o_doCall_9 ?_
  refine Wk.iaload (mA_frameNode) (by decide) (i' := 7) rfl s1 s2 o_doCall_10 (y := ((A 6) ((F 7) - (1 : Int32)))) rfl ?_
  refine Wk.istoreN o_doCall_11 (Or.inl rfl) (L' := [.val (.ref 0), .val (.int p1), .val (.int ((A 6) ((F 7) - (1 : Int32)))), .unset]) rfl ?_
  refine Wk.iconst o_doCall_12 (z := (-1 : Int32)) (by decide) ?_
  refine Wk.istoreN o_doCall_13 (Or.inl rfl) (L' := [.val (.ref 0), .val (.int p1), .val (.int ((A 6) ((F 7) - (1 : Int32)))), .val (.int (-1 : Int32))]) rfl ?_
  refine Wk.iloadN o_doCall_14 rfl ?_
  refine Wk.if_lt o_doCall_15 (fun q3 => ?_) (fun q3 => ?_)
  · refine Wk.aloadN o_doCall_47 rfl ?_
    refine Wk.getA (mA_frameFunc) (by decide) (i' := 5) rfl (wf_frameFunc H) o_doCall_48 ?_
    refine Wk.aloadN o_doCall_51 rfl ?_
    refine Wk.getI (mI_depth) (wf_depth H) o_doCall_52 (x := (F 7)) rfl ?_
    refine Wk.iloadN o_doCall_55 rfl ?_
    refine Wk.iastore (coC H) (f := (A 4)) (mA_frameFunc) rfl (by decide) (i' := 5) rfl (s12 q3) (s13 q3) o_doCall_56 ?_
    refine Wk.aloadN o_doCall_57 rfl ?_
    refine Wk.getA (mA_frameRet) (by decide) (i' := 6) rfl (wf_frameRet H) o_doCall_58 ?_
    refine Wk.aloadN o_doCall_61 rfl ?_
    refine Wk.getI (mI_depth) (wf_depth H) o_doCall_62 (x := (F 7)) rfl ?_
    refine Wk.aloadN o_doCall_65 rfl ?_
    refine Wk.getI (mI_pc) (wf_pc H) o_doCall_66 (x := (F 5)) rfl ?_
    refine Wk.iconst o_doCall_69 (z := (1 : Int32)) (by decide) ?_
    refine Wk.iadd o_doCall_70 ?_
    refine Wk.iastore (coC H) (f := (A 5)) (mA_frameRet) rfl (by decide) (i' := 6) rfl (s12 q3) (s13 q3) o_doCall_71 ?_
    refine Wk.aloadN o_doCall_72 rfl ?_
    refine Wk.getA (mA_frameNode) (by decide) (i' := 7) rfl (wf_frameNode H) o_doCall_73 ?_
    refine Wk.aloadN o_doCall_76 rfl ?_
    refine Wk.getI (mI_depth) (wf_depth H) o_doCall_77 (x := (F 7)) rfl ?_
    refine Wk.iloadN o_doCall_80 rfl ?_
    refine Wk.iastore (coC H) (f := (A 6)) (mA_frameNode) rfl (by decide) (i' := 7) rfl (s12 q3) (s13 q3) o_doCall_81 ?_
    refine Wk.aloadN o_doCall_82 rfl ?_
    refine Wk.dup o_doCall_83 rfl ?_
    refine Wk.getI (mI_depth) (wf_depth H) o_doCall_84 (x := (F 7)) rfl ?_
    refine Wk.iconst o_doCall_87 (z := (1 : Int32)) (by decide) ?_
    refine Wk.iadd o_doCall_88 ?_
    refine Wk.putI (coC H) (mI_depth) (wf_depth H) (Or.inl (wy_depth H)) o_doCall_89 ?_
    refine Wk.aloadN o_doCall_92 rfl ?_
    refine Wk.aloadN o_doCall_93 rfl ?_
    refine Wk.getA (mA_entries) (by decide) (i' := 3) rfl (wf_entries H) o_doCall_94 ?_
    refine Wk.iloadN o_doCall_97 rfl ?_
    refine Wk.iaload (mA_entries) (by decide) (i' := 3) rfl (s14 q3) (s15 q3) o_doCall_98 (y := ((A 2) p1)) rfl ?_
    refine Wk.putI (coC H) (mI_pc) (wf_pc H) (Or.inl (wy_pc H)) o_doCall_99 ?_
    exact Wk.ret mrC rfl o_doCall_102 rfl (by decide) (by decide) (h16 q3)
  · refine Wk.aloadN o_doCall_18 rfl ?_
    refine Wk.iloadN o_doCall_19 rfl ?_
    refine Wk.iloadN o_doCall_20 rfl ?_
    refine Wk.callF [.int ((A 6) ((F 7) - (1 : Int32))), .int p1] [] (H.w 130 rfl) (cv_findInstrChild H) o_doCall_21 (run_findInstrChild H F G A B ((A 6) ((F 7) - (1 : Int32))) p1 (s17 q3)) (wt := 0) (cu' := 0) (su' := 0) (by decide) rfl rfl rfl rfl rfl rfl rfl ?_
    refine Wk.istoreN o_doCall_24 (Or.inr ⟨_, rfl, rfl⟩) (L' := [.val (.ref 0), .val (.int p1), .val (.int ((A 6) ((F 7) - (1 : Int32)))), .val (.int (R_findInstrChild F A ((A 6) ((F 7) - (1 : Int32))) p1))]) rfl ?_
    refine Wk.iloadN o_doCall_25 rfl ?_
    refine Wk.if_ge o_doCall_26 (fun q18 => ?_) (fun q18 => ?_)
    · refine Wk.aloadN o_doCall_47 rfl ?_
      refine Wk.getA (mA_frameFunc) (by decide) (i' := 5) rfl (wf_frameFunc H) o_doCall_48 ?_
      refine Wk.aloadN o_doCall_51 rfl ?_
      refine Wk.getI (mI_depth) (wf_depth H) o_doCall_52 (x := (F 7)) rfl ?_
      refine Wk.iloadN o_doCall_55 rfl ?_
      refine Wk.iastore (coC H) (f := (A 4)) (mA_frameFunc) rfl (by decide) (i' := 5) rfl (s22 q3 q18) (s23 q3 q18) o_doCall_56 ?_
      refine Wk.aloadN o_doCall_57 rfl ?_
      refine Wk.getA (mA_frameRet) (by decide) (i' := 6) rfl (wf_frameRet H) o_doCall_58 ?_
      refine Wk.aloadN o_doCall_61 rfl ?_
      refine Wk.getI (mI_depth) (wf_depth H) o_doCall_62 (x := (F 7)) rfl ?_
      refine Wk.aloadN o_doCall_65 rfl ?_
      refine Wk.getI (mI_pc) (wf_pc H) o_doCall_66 (x := (F 5)) rfl ?_
      refine Wk.iconst o_doCall_69 (z := (1 : Int32)) (by decide) ?_
      refine Wk.iadd o_doCall_70 ?_
      refine Wk.iastore (coC H) (f := (A 5)) (mA_frameRet) rfl (by decide) (i' := 6) rfl (s22 q3 q18) (s23 q3 q18) o_doCall_71 ?_
      refine Wk.aloadN o_doCall_72 rfl ?_
      refine Wk.getA (mA_frameNode) (by decide) (i' := 7) rfl (wf_frameNode H) o_doCall_73 ?_
      refine Wk.aloadN o_doCall_76 rfl ?_
      refine Wk.getI (mI_depth) (wf_depth H) o_doCall_77 (x := (F 7)) rfl ?_
      refine Wk.iloadN o_doCall_80 rfl ?_
      refine Wk.iastore (coC H) (f := (A 6)) (mA_frameNode) rfl (by decide) (i' := 7) rfl (s22 q3 q18) (s23 q3 q18) o_doCall_81 ?_
      refine Wk.aloadN o_doCall_82 rfl ?_
      refine Wk.dup o_doCall_83 rfl ?_
      refine Wk.getI (mI_depth) (wf_depth H) o_doCall_84 (x := (F 7)) rfl ?_
      refine Wk.iconst o_doCall_87 (z := (1 : Int32)) (by decide) ?_
      refine Wk.iadd o_doCall_88 ?_
      refine Wk.putI (coC H) (mI_depth) (wf_depth H) (Or.inl (wy_depth H)) o_doCall_89 ?_
      refine Wk.aloadN o_doCall_92 rfl ?_
      refine Wk.aloadN o_doCall_93 rfl ?_
      refine Wk.getA (mA_entries) (by decide) (i' := 3) rfl (wf_entries H) o_doCall_94 ?_
      refine Wk.iloadN o_doCall_97 rfl ?_
      refine Wk.iaload (mA_entries) (by decide) (i' := 3) rfl (s24 q3 q18) (s25 q3 q18) o_doCall_98 (y := ((A 2) p1)) rfl ?_
      refine Wk.putI (coC H) (mI_pc) (wf_pc H) (Or.inl (wy_pc H)) o_doCall_99 ?_
      exact Wk.ret mrC rfl o_doCall_102 rfl (by decide) (by decide) (h26 q3 q18)
    · refine Wk.aloadN o_doCall_29 rfl ?_
      refine Wk.getI (mI_iCount) (wf_iCount H) o_doCall_30 (x := (F 12)) rfl ?_
      refine Wk.aloadN o_doCall_33 rfl ?_
      refine Wk.getI (mI_capacity) (wf_capacity H) o_doCall_34 (x := (F 0)) rfl ?_
      refine Wk.icmp_ge o_doCall_37 (fun q27 => ?_) (fun q27 => ?_)
      · refine Wk.aloadN o_doCall_47 rfl ?_
        refine Wk.getA (mA_frameFunc) (by decide) (i' := 5) rfl (wf_frameFunc H) o_doCall_48 ?_
        refine Wk.aloadN o_doCall_51 rfl ?_
        refine Wk.getI (mI_depth) (wf_depth H) o_doCall_52 (x := (F 7)) rfl ?_
        refine Wk.iloadN o_doCall_55 rfl ?_
        refine Wk.iastore (coC H) (f := (A 4)) (mA_frameFunc) rfl (by decide) (i' := 5) rfl (s29 q3 q18 q27) (s30 q3 q18 q27) o_doCall_56 ?_
        refine Wk.aloadN o_doCall_57 rfl ?_
        refine Wk.getA (mA_frameRet) (by decide) (i' := 6) rfl (wf_frameRet H) o_doCall_58 ?_
        refine Wk.aloadN o_doCall_61 rfl ?_
        refine Wk.getI (mI_depth) (wf_depth H) o_doCall_62 (x := (F 7)) rfl ?_
        refine Wk.aloadN o_doCall_65 rfl ?_
        refine Wk.getI (mI_pc) (wf_pc H) o_doCall_66 (x := (F 5)) rfl ?_
        refine Wk.iconst o_doCall_69 (z := (1 : Int32)) (by decide) ?_
        refine Wk.iadd o_doCall_70 ?_
        refine Wk.iastore (coC H) (f := (A 5)) (mA_frameRet) rfl (by decide) (i' := 6) rfl (s29 q3 q18 q27) (s30 q3 q18 q27) o_doCall_71 ?_
        refine Wk.aloadN o_doCall_72 rfl ?_
        refine Wk.getA (mA_frameNode) (by decide) (i' := 7) rfl (wf_frameNode H) o_doCall_73 ?_
        refine Wk.aloadN o_doCall_76 rfl ?_
        refine Wk.getI (mI_depth) (wf_depth H) o_doCall_77 (x := (F 7)) rfl ?_
        refine Wk.iloadN o_doCall_80 rfl ?_
        refine Wk.iastore (coC H) (f := (A 6)) (mA_frameNode) rfl (by decide) (i' := 7) rfl (s29 q3 q18 q27) (s30 q3 q18 q27) o_doCall_81 ?_
        refine Wk.aloadN o_doCall_82 rfl ?_
        refine Wk.dup o_doCall_83 rfl ?_
        refine Wk.getI (mI_depth) (wf_depth H) o_doCall_84 (x := (F 7)) rfl ?_
        refine Wk.iconst o_doCall_87 (z := (1 : Int32)) (by decide) ?_
        refine Wk.iadd o_doCall_88 ?_
        refine Wk.putI (coC H) (mI_depth) (wf_depth H) (Or.inl (wy_depth H)) o_doCall_89 ?_
        refine Wk.aloadN o_doCall_92 rfl ?_
        refine Wk.aloadN o_doCall_93 rfl ?_
        refine Wk.getA (mA_entries) (by decide) (i' := 3) rfl (wf_entries H) o_doCall_94 ?_
        refine Wk.iloadN o_doCall_97 rfl ?_
        refine Wk.iaload (mA_entries) (by decide) (i' := 3) rfl (s31 q3 q18 q27) (s32 q3 q18 q27) o_doCall_98 (y := ((A 2) p1)) rfl ?_
        refine Wk.putI (coC H) (mI_pc) (wf_pc H) (Or.inl (wy_pc H)) o_doCall_99 ?_
        exact Wk.ret mrC rfl o_doCall_102 rfl (by decide) (by decide) (h33 q3 q18 q27)
      · refine Wk.aloadN o_doCall_40 rfl ?_
        refine Wk.iloadN o_doCall_41 rfl ?_
        refine Wk.iloadN o_doCall_42 rfl ?_
        refine Wk.callF [.int ((A 6) ((F 7) - (1 : Int32))), .int p1] [] (H.w 134 rfl) (cv_newInstrNode H) o_doCall_43 (run_newInstrNode H F G A B ((A 6) ((F 7) - (1 : Int32))) p1 (s34 q3 q18 q27)) (wt := 0) (cu' := 0) (su' := 0) (by decide) rfl rfl rfl rfl rfl rfl rfl ?_
        refine Wk.istoreN o_doCall_46 (Or.inr ⟨_, rfl, rfl⟩) (L' := [.val (.ref 0), .val (.int p1), .val (.int ((A 6) ((F 7) - (1 : Int32)))), .val (.int (R_newInstrNode F A ((A 6) ((F 7) - (1 : Int32))) p1).1)]) rfl ?_
        refine Wk.aloadN o_doCall_47 rfl ?_
        refine Wk.getA (mA_frameFunc) (by decide) (i' := 5) rfl (wf_frameFunc H) o_doCall_48 ?_
        refine Wk.aloadN o_doCall_51 rfl ?_
        refine Wk.getI (mI_depth) (wf_depth H) o_doCall_52 (x := ((R_newInstrNode F A ((A 6) ((F 7) - (1 : Int32))) p1).2.1 7)) rfl ?_
        refine Wk.iloadN o_doCall_55 rfl ?_
        refine Wk.iastore (coC H) (f := ((R_newInstrNode F A ((A 6) ((F 7) - (1 : Int32))) p1).2.2 4)) (mA_frameFunc) rfl (by decide) (i' := 5) rfl (s35 q3 q18 q27) (s36 q3 q18 q27) o_doCall_56 ?_
        refine Wk.aloadN o_doCall_57 rfl ?_
        refine Wk.getA (mA_frameRet) (by decide) (i' := 6) rfl (wf_frameRet H) o_doCall_58 ?_
        refine Wk.aloadN o_doCall_61 rfl ?_
        refine Wk.getI (mI_depth) (wf_depth H) o_doCall_62 (x := ((R_newInstrNode F A ((A 6) ((F 7) - (1 : Int32))) p1).2.1 7)) rfl ?_
        refine Wk.aloadN o_doCall_65 rfl ?_
        refine Wk.getI (mI_pc) (wf_pc H) o_doCall_66 (x := ((R_newInstrNode F A ((A 6) ((F 7) - (1 : Int32))) p1).2.1 5)) rfl ?_
        refine Wk.iconst o_doCall_69 (z := (1 : Int32)) (by decide) ?_
        refine Wk.iadd o_doCall_70 ?_
        refine Wk.iastore (coC H) (f := ((R_newInstrNode F A ((A 6) ((F 7) - (1 : Int32))) p1).2.2 5)) (mA_frameRet) rfl (by decide) (i' := 6) rfl (s35 q3 q18 q27) (s36 q3 q18 q27) o_doCall_71 ?_
        refine Wk.aloadN o_doCall_72 rfl ?_
        refine Wk.getA (mA_frameNode) (by decide) (i' := 7) rfl (wf_frameNode H) o_doCall_73 ?_
        refine Wk.aloadN o_doCall_76 rfl ?_
        refine Wk.getI (mI_depth) (wf_depth H) o_doCall_77 (x := ((R_newInstrNode F A ((A 6) ((F 7) - (1 : Int32))) p1).2.1 7)) rfl ?_
        refine Wk.iloadN o_doCall_80 rfl ?_
        refine Wk.iastore (coC H) (f := ((R_newInstrNode F A ((A 6) ((F 7) - (1 : Int32))) p1).2.2 6)) (mA_frameNode) rfl (by decide) (i' := 7) rfl (s35 q3 q18 q27) (s36 q3 q18 q27) o_doCall_81 ?_
        refine Wk.aloadN o_doCall_82 rfl ?_
        refine Wk.dup o_doCall_83 rfl ?_
        refine Wk.getI (mI_depth) (wf_depth H) o_doCall_84 (x := ((R_newInstrNode F A ((A 6) ((F 7) - (1 : Int32))) p1).2.1 7)) rfl ?_
        refine Wk.iconst o_doCall_87 (z := (1 : Int32)) (by decide) ?_
        refine Wk.iadd o_doCall_88 ?_
        refine Wk.putI (coC H) (mI_depth) (wf_depth H) (Or.inl (wy_depth H)) o_doCall_89 ?_
        refine Wk.aloadN o_doCall_92 rfl ?_
        refine Wk.aloadN o_doCall_93 rfl ?_
        refine Wk.getA (mA_entries) (by decide) (i' := 3) rfl (wf_entries H) o_doCall_94 ?_
        refine Wk.iloadN o_doCall_97 rfl ?_
        refine Wk.iaload (mA_entries) (by decide) (i' := 3) rfl (s37 q3 q18 q27) (s38 q3 q18 q27) o_doCall_98 (y := (((R_newInstrNode F A ((A 6) ((F 7) - (1 : Int32))) p1).2.2 2) p1)) rfl ?_
        refine Wk.putI (coC H) (mI_pc) (wf_pc H) (Or.inl (wy_pc H)) o_doCall_99 ?_
        exact Wk.ret mrC rfl o_doCall_102 rfl (by decide) (by decide) (h39 q3 q18 q27)

theorem rt_doCall (G : Nat → Int64) (B : Nat → Int32 → Int64) (v0 : Int32) (xF : Nat → Int32) (xA : Nat → Int32 → Int32) (r : Int32 × (Nat → Int32) × (Nat → Int32 → Int32)) (e : (v0, xF, xA) = r) : (none : Option Value) = none ∧ (16, xF, G, xA, B) = (16, r.2.1, G, r.2.2, B) := by subst e; exact ⟨rfl, rfl⟩
def en_doCall (F : Nat → Int32) (A : Nat → Int32 → Int32) (p1 : Int32) : Option (Int32 × (Nat → Int32) × (Nat → Int32 → Int32)) := (if (¬ ((F 7) - (1 : Int32)) < 0) ∧ (((F 7) - (1 : Int32)) < (16 : Int32)) then (if ((A 6) ((F 7) - (1 : Int32))) < 0 then (if (¬ (F 7) < 0) ∧ ((F 7) < (16 : Int32)) ∧ (¬ p1 < 0) ∧ (p1 < (8 : Int32)) then some ((0 : Int32), (ups (ups F 7 ((F 7) + (1 : Int32))) 5 ((A 2) p1)), (ups (ups (ups A 4 (ups (A 4) (F 7) p1)) 5 (ups (A 5) (F 7) ((F 5) + (1 : Int32)))) 6 (ups (A 6) (F 7) (-1 : Int32)))) else none) else (if ((en_findInstrChild F A ((A 6) ((F 7) - (1 : Int32))) p1).isSome = true) then (if (R_findInstrChild F A ((A 6) ((F 7) - (1 : Int32))) p1) < 0 then (if (F 12) < (F 0) then (if ((en_newInstrNode F A ((A 6) ((F 7) - (1 : Int32))) p1).isSome = true) ∧ (¬ ((R_newInstrNode F A ((A 6) ((F 7) - (1 : Int32))) p1).2.1 7) < 0) ∧ (((R_newInstrNode F A ((A 6) ((F 7) - (1 : Int32))) p1).2.1 7) < (16 : Int32)) ∧ (¬ p1 < 0) ∧ (p1 < (8 : Int32)) then some ((0 : Int32), (ups (ups (R_newInstrNode F A ((A 6) ((F 7) - (1 : Int32))) p1).2.1 7 (((R_newInstrNode F A ((A 6) ((F 7) - (1 : Int32))) p1).2.1 7) + (1 : Int32))) 5 (((R_newInstrNode F A ((A 6) ((F 7) - (1 : Int32))) p1).2.2 2) p1)), (ups (ups (ups (R_newInstrNode F A ((A 6) ((F 7) - (1 : Int32))) p1).2.2 4 (ups ((R_newInstrNode F A ((A 6) ((F 7) - (1 : Int32))) p1).2.2 4) ((R_newInstrNode F A ((A 6) ((F 7) - (1 : Int32))) p1).2.1 7) p1)) 5 (ups ((R_newInstrNode F A ((A 6) ((F 7) - (1 : Int32))) p1).2.2 5) ((R_newInstrNode F A ((A 6) ((F 7) - (1 : Int32))) p1).2.1 7) (((R_newInstrNode F A ((A 6) ((F 7) - (1 : Int32))) p1).2.1 5) + (1 : Int32)))) 6 (ups ((R_newInstrNode F A ((A 6) ((F 7) - (1 : Int32))) p1).2.2 6) ((R_newInstrNode F A ((A 6) ((F 7) - (1 : Int32))) p1).2.1 7) (R_newInstrNode F A ((A 6) ((F 7) - (1 : Int32))) p1).1))) else none) else (if (¬ (F 7) < 0) ∧ ((F 7) < (16 : Int32)) ∧ (¬ p1 < 0) ∧ (p1 < (8 : Int32)) then some ((0 : Int32), (ups (ups F 7 ((F 7) + (1 : Int32))) 5 ((A 2) p1)), (ups (ups (ups A 4 (ups (A 4) (F 7) p1)) 5 (ups (A 5) (F 7) ((F 5) + (1 : Int32)))) 6 (ups (A 6) (F 7) (R_findInstrChild F A ((A 6) ((F 7) - (1 : Int32))) p1)))) else none)) else (if (¬ (F 7) < 0) ∧ ((F 7) < (16 : Int32)) ∧ (¬ p1 < 0) ∧ (p1 < (8 : Int32)) then some ((0 : Int32), (ups (ups F 7 ((F 7) + (1 : Int32))) 5 ((A 2) p1)), (ups (ups (ups A 4 (ups (A 4) (F 7) p1)) 5 (ups (A 5) (F 7) ((F 5) + (1 : Int32)))) 6 (ups (A 6) (F 7) (R_findInstrChild F A ((A 6) ((F 7) - (1 : Int32))) p1)))) else none)) else none)) else none)
theorem een_doCall (F : Nat → Int32) (A : Nat → Int32 → Int32) (p1 : Int32) : en_doCall F A p1 = (if (¬ ((F 7) - (1 : Int32)) < 0) ∧ (((F 7) - (1 : Int32)) < (16 : Int32)) then (if ((A 6) ((F 7) - (1 : Int32))) < 0 then (if (¬ (F 7) < 0) ∧ ((F 7) < (16 : Int32)) ∧ (¬ p1 < 0) ∧ (p1 < (8 : Int32)) then some ((0 : Int32), (ups (ups F 7 ((F 7) + (1 : Int32))) 5 ((A 2) p1)), (ups (ups (ups A 4 (ups (A 4) (F 7) p1)) 5 (ups (A 5) (F 7) ((F 5) + (1 : Int32)))) 6 (ups (A 6) (F 7) (-1 : Int32)))) else none) else (if ((en_findInstrChild F A ((A 6) ((F 7) - (1 : Int32))) p1).isSome = true) then (if (R_findInstrChild F A ((A 6) ((F 7) - (1 : Int32))) p1) < 0 then (if (F 12) < (F 0) then (if ((en_newInstrNode F A ((A 6) ((F 7) - (1 : Int32))) p1).isSome = true) ∧ (¬ ((R_newInstrNode F A ((A 6) ((F 7) - (1 : Int32))) p1).2.1 7) < 0) ∧ (((R_newInstrNode F A ((A 6) ((F 7) - (1 : Int32))) p1).2.1 7) < (16 : Int32)) ∧ (¬ p1 < 0) ∧ (p1 < (8 : Int32)) then some ((0 : Int32), (ups (ups (R_newInstrNode F A ((A 6) ((F 7) - (1 : Int32))) p1).2.1 7 (((R_newInstrNode F A ((A 6) ((F 7) - (1 : Int32))) p1).2.1 7) + (1 : Int32))) 5 (((R_newInstrNode F A ((A 6) ((F 7) - (1 : Int32))) p1).2.2 2) p1)), (ups (ups (ups (R_newInstrNode F A ((A 6) ((F 7) - (1 : Int32))) p1).2.2 4 (ups ((R_newInstrNode F A ((A 6) ((F 7) - (1 : Int32))) p1).2.2 4) ((R_newInstrNode F A ((A 6) ((F 7) - (1 : Int32))) p1).2.1 7) p1)) 5 (ups ((R_newInstrNode F A ((A 6) ((F 7) - (1 : Int32))) p1).2.2 5) ((R_newInstrNode F A ((A 6) ((F 7) - (1 : Int32))) p1).2.1 7) (((R_newInstrNode F A ((A 6) ((F 7) - (1 : Int32))) p1).2.1 5) + (1 : Int32)))) 6 (ups ((R_newInstrNode F A ((A 6) ((F 7) - (1 : Int32))) p1).2.2 6) ((R_newInstrNode F A ((A 6) ((F 7) - (1 : Int32))) p1).2.1 7) (R_newInstrNode F A ((A 6) ((F 7) - (1 : Int32))) p1).1))) else none) else (if (¬ (F 7) < 0) ∧ ((F 7) < (16 : Int32)) ∧ (¬ p1 < 0) ∧ (p1 < (8 : Int32)) then some ((0 : Int32), (ups (ups F 7 ((F 7) + (1 : Int32))) 5 ((A 2) p1)), (ups (ups (ups A 4 (ups (A 4) (F 7) p1)) 5 (ups (A 5) (F 7) ((F 5) + (1 : Int32)))) 6 (ups (A 6) (F 7) (R_findInstrChild F A ((A 6) ((F 7) - (1 : Int32))) p1)))) else none)) else (if (¬ (F 7) < 0) ∧ ((F 7) < (16 : Int32)) ∧ (¬ p1 < 0) ∧ (p1 < (8 : Int32)) then some ((0 : Int32), (ups (ups F 7 ((F 7) + (1 : Int32))) 5 ((A 2) p1)), (ups (ups (ups A 4 (ups (A 4) (F 7) p1)) 5 (ups (A 5) (F 7) ((F 5) + (1 : Int32)))) 6 (ups (A 6) (F 7) (R_findInstrChild F A ((A 6) ((F 7) - (1 : Int32))) p1)))) else none)) else none)) else none) := Eq.trans rfl rfl
def R_doCall (F : Nat → Int32) (A : Nat → Int32 → Int32) (p1 : Int32) : Int32 × (Nat → Int32) × (Nat → Int32 → Int32) := (en_doCall F A p1).getD (0, (fun _ => 0), (fun _ _ => 0))
theorem eR_doCall (F : Nat → Int32) (A : Nat → Int32 → Int32) (p1 : Int32) : R_doCall F A p1 = (en_doCall F A p1).getD (0, (fun _ => 0), (fun _ _ => 0)) := Eq.trans rfl rfl
set_option maxRecDepth 65536 in
set_option maxHeartbeats 4000000 in
theorem run_doCall {l : Launch} {Z : State} {a0 : Array Value} (H : OK Z a0) (F : Nat → Int32) (G : Nat → Int64) (A : Nat → Int32 → Int32) (B : Nat → Int32 → Int64) (p1 : Int32) (e1 : (en_doCall F A p1).isSome = true) :
    Wk l Z (MoC Z cdC) md_doCall 0 [.val (.ref 0), .val (.int p1), .unset, .unset] [] (16, F, G, A, B) 0 0 (fun v w' => v = none ∧ w' = (16, (R_doCall F A p1).2.1, G, (R_doCall F A p1).2.2, B)) := by
  obtain ⟨r, h⟩ := Option.isSome_iff_exists.mp e1
  have e : R_doCall F A p1 = r := (eR_doCall F A p1).trans (getD_some h)
  rw [e]
  rw [een_doCall] at h
  exact wp_doCall H F G A B p1 ((gd h).1.1) ((gd h).1.2) (fun q3 => (gd (ifp q3 (gd h).2)).1.1) (fun q3 => (gd (ifp q3 (gd h).2)).1.2.1) (fun q3 => (gd (ifp q3 (gd h).2)).1.2.2.1) (fun q3 => (gd (ifp q3 (gd h).2)).1.2.2.2) (fun q3 => (rt_doCall _ _ _ _ _ r (Option.some.inj (gd (ifp q3 (gd h).2)).2))) (fun q3 => (gd (ifn q3 (gd h).2)).1) (fun q3 q18 => (gd (ifn q18 (gd (ifn q3 (gd h).2)).2)).1.1) (fun q3 q18 => (gd (ifn q18 (gd (ifn q3 (gd h).2)).2)).1.2.1) (fun q3 q18 => (gd (ifn q18 (gd (ifn q3 (gd h).2)).2)).1.2.2.1) (fun q3 q18 => (gd (ifn q18 (gd (ifn q3 (gd h).2)).2)).1.2.2.2) (fun q3 q18 => (rt_doCall _ _ _ _ _ r (Option.some.inj (gd (ifn q18 (gd (ifn q3 (gd h).2)).2)).2))) (fun q3 q18 q27 => (gd (ifn q27 (ifp q18 (gd (ifn q3 (gd h).2)).2))).1.1) (fun q3 q18 q27 => (gd (ifn q27 (ifp q18 (gd (ifn q3 (gd h).2)).2))).1.2.1) (fun q3 q18 q27 => (gd (ifn q27 (ifp q18 (gd (ifn q3 (gd h).2)).2))).1.2.2.1) (fun q3 q18 q27 => (gd (ifn q27 (ifp q18 (gd (ifn q3 (gd h).2)).2))).1.2.2.2) (fun q3 q18 q27 => (rt_doCall _ _ _ _ _ r (Option.some.inj (gd (ifn q27 (ifp q18 (gd (ifn q3 (gd h).2)).2))).2))) (fun q3 q18 q27 => (gd (ifp q27 (ifp q18 (gd (ifn q3 (gd h).2)).2))).1.1) (fun q3 q18 q27 => (gd (ifp q27 (ifp q18 (gd (ifn q3 (gd h).2)).2))).1.2.1) (fun q3 q18 q27 => (gd (ifp q27 (ifp q18 (gd (ifn q3 (gd h).2)).2))).1.2.2.1) (fun q3 q18 q27 => (gd (ifp q27 (ifp q18 (gd (ifn q3 (gd h).2)).2))).1.2.2.2.1) (fun q3 q18 q27 => (gd (ifp q27 (ifp q18 (gd (ifn q3 (gd h).2)).2))).1.2.2.2.2) (fun q3 q18 q27 => (rt_doCall _ _ _ _ _ r (Option.some.inj (gd (ifp q27 (ifp q18 (gd (ifn q3 (gd h).2)).2))).2)))
set_option maxRecDepth 65536 in
set_option maxHeartbeats 4000000 in
theorem wp_doRet {l : Launch} {Z : State} {a0 : Array Value} (H : OK Z a0) (F : Nat → Int32) (G : Nat → Int64) (A : Nat → Int32 → Int32) (B : Nat → Int32 → Int64) {Q : Option Value → WO → Prop} (s2 : 0 < ((F 7) - (1 : Int32)) → ¬ ((F 7) - (1 : Int32)) < 0) (s3 : 0 < ((F 7) - (1 : Int32)) → ((F 7) - (1 : Int32)) < (16 : Int32)) (h4 : 0 < ((F 7) - (1 : Int32)) → Q none (16, (ups (ups F 7 ((F 7) - (1 : Int32))) 5 ((A 5) ((F 7) - (1 : Int32)))), G, A, B)) (h5 : ¬ 0 < ((F 7) - (1 : Int32)) → Q none (16, (ups (ups (ups F 7 ((F 7) - (1 : Int32))) 7 (0 : Int32)) 3 (2 : Int32)), G, A, B)) :
    Wk l Z (MoC Z cdC) md_doRet 0 [.val (.ref 0)] [] (16, F, G, A, B) 0 0 Q := by
  refine Wk.aloadN o_doRet_0 rfl ?_
  refine Wk.dup o_doRet_1 rfl ?_
  refine Wk.getI (mI_depth) (wf_depth H) o_doRet_2 (x := (F 7)) rfl ?_
  refine Wk.iconst o_doRet_5 (z := (1 : Int32)) (by decide) ?_
  refine Wk.isub o_doRet_6 ?_
  refine Wk.putI (coC H) (mI_depth) (wf_depth H) (Or.inl (wy_depth H)) o_doRet_7 ?_
  refine Wk.aloadN o_doRet_10 rfl ?_
  refine Wk.getI (mI_depth) (wf_depth H) o_doRet_11 (x := ((F 7) - (1 : Int32))) rfl ?_
  refine Wk.if_gt o_doRet_14 (fun q1 => ?_) (fun q1 => ?_)
  · refine Wk.aloadN o_doRet_28 rfl ?_
    refine Wk.aloadN o_doRet_29 rfl ?_
    refine Wk.getA (mA_frameRet) (by decide) (i' := 6) rfl (wf_frameRet H) o_doRet_30 ?_
    refine Wk.aloadN o_doRet_33 rfl ?_
    refine Wk.getI (mI_depth) (wf_depth H) o_doRet_34 (x := ((F 7) - (1 : Int32))) rfl ?_
    refine Wk.iaload (mA_frameRet) (by decide) (i' := 6) rfl (s2 q1) (s3 q1) o_doRet_37 (y := ((A 5) ((F 7) - (1 : Int32)))) rfl ?_
    refine Wk.putI (coC H) (mI_pc) (wf_pc H) (Or.inl (wy_pc H)) o_doRet_38 ?_
    exact Wk.ret mrC rfl o_doRet_41 rfl (by decide) (by decide) (h4 q1)
  · refine Wk.aloadN o_doRet_17 rfl ?_
    refine Wk.iconst o_doRet_18 (z := (0 : Int32)) (by decide) ?_
    refine Wk.putI (coC H) (mI_depth) (wf_depth H) (Or.inl (wy_depth H)) o_doRet_19 ?_
    refine Wk.aloadN o_doRet_22 rfl ?_
    refine Wk.iconst o_doRet_23 (z := (2 : Int32)) (by decide) ?_
    refine Wk.putI (coC H) (mI_status) (wf_status H) (Or.inl (wy_status H)) o_doRet_24 ?_
    exact Wk.ret mrC rfl o_doRet_27 rfl (by decide) (by decide) (h5 q1)

theorem rt_doRet (G : Nat → Int64) (A : Nat → Int32 → Int32) (B : Nat → Int32 → Int64) (v0 : Int32) (xF : Nat → Int32) (r : Int32 × (Nat → Int32)) (e : (v0, xF) = r) : (none : Option Value) = none ∧ (16, xF, G, A, B) = (16, r.2, G, A, B) := by subst e; exact ⟨rfl, rfl⟩
def en_doRet (F : Nat → Int32) (A : Nat → Int32 → Int32) : Option (Int32 × (Nat → Int32)) := (if 0 < ((F 7) - (1 : Int32)) then (if (¬ ((F 7) - (1 : Int32)) < 0) ∧ (((F 7) - (1 : Int32)) < (16 : Int32)) then some ((0 : Int32), (ups (ups F 7 ((F 7) - (1 : Int32))) 5 ((A 5) ((F 7) - (1 : Int32))))) else none) else some ((0 : Int32), (ups (ups (ups F 7 ((F 7) - (1 : Int32))) 7 (0 : Int32)) 3 (2 : Int32))))
theorem een_doRet (F : Nat → Int32) (A : Nat → Int32 → Int32) : en_doRet F A  = (if 0 < ((F 7) - (1 : Int32)) then (if (¬ ((F 7) - (1 : Int32)) < 0) ∧ (((F 7) - (1 : Int32)) < (16 : Int32)) then some ((0 : Int32), (ups (ups F 7 ((F 7) - (1 : Int32))) 5 ((A 5) ((F 7) - (1 : Int32))))) else none) else some ((0 : Int32), (ups (ups (ups F 7 ((F 7) - (1 : Int32))) 7 (0 : Int32)) 3 (2 : Int32)))) := Eq.trans rfl rfl
def R_doRet (F : Nat → Int32) (A : Nat → Int32 → Int32) : Int32 × (Nat → Int32) := (en_doRet F A ).getD (0, (fun _ => 0))
theorem eR_doRet (F : Nat → Int32) (A : Nat → Int32 → Int32) : R_doRet F A  = (en_doRet F A ).getD (0, (fun _ => 0)) := Eq.trans rfl rfl
set_option maxRecDepth 65536 in
set_option maxHeartbeats 4000000 in
theorem run_doRet {l : Launch} {Z : State} {a0 : Array Value} (H : OK Z a0) (F : Nat → Int32) (G : Nat → Int64) (A : Nat → Int32 → Int32) (B : Nat → Int32 → Int64) (e1 : (en_doRet F A ).isSome = true) :
    Wk l Z (MoC Z cdC) md_doRet 0 [.val (.ref 0)] [] (16, F, G, A, B) 0 0 (fun v w' => v = none ∧ w' = (16, (R_doRet F A ).2, G, A, B)) := by
  obtain ⟨r, h⟩ := Option.isSome_iff_exists.mp e1
  have e : R_doRet F A  = r := (eR_doRet F A ).trans (getD_some h)
  rw [e]
  rw [een_doRet] at h
  exact wp_doRet H F G A B  (fun q1 => (gd (ifp q1 h)).1.1) (fun q1 => (gd (ifp q1 h)).1.2) (fun q1 => (rt_doRet _ _ _ _ _ r (Option.some.inj (gd (ifp q1 h)).2))) (fun q1 => (rt_doRet _ _ _ _ _ r (Option.some.inj (ifn q1 h))))
set_option maxRecDepth 65536 in
set_option maxHeartbeats 4000000 in
theorem wp_apply {l : Launch} {Z : State} {a0 : Array Value} (H : OK Z a0) (F : Nat → Int32) (G : Nat → Int64) (A : Nat → Int32 → Int32) (B : Nat → Int32 → Int64) (p1 : Int32) (p2 : Int32) {Q : Option Value → WO → Prop} (s2 : p1 = (1 : Int32) → ¬ (F 6) < 0) (s3 : p1 = (1 : Int32) → (F 6) < (16 : Int32)) (h4 : p1 = (1 : Int32) → Q none (16, (ups (ups F 6 ((F 6) + (1 : Int32))) 5 ((F 5) + (1 : Int32))), G, (ups A 3 (ups (A 3) (F 6) p2)), B)) (s8 : ¬ p1 = (1 : Int32) → p1 = (2 : Int32) → (en_arith F A (if p1 = (2 : Int32) then (1 : Int32) else (0 : Int32))).isSome = true) (h9 : ¬ p1 = (1 : Int32) → p1 = (2 : Int32) → Q none (16, (ups (R_arith F A (if p1 = (2 : Int32) then (1 : Int32) else (0 : Int32))).2.1 5 (((R_arith F A (if p1 = (2 : Int32) then (1 : Int32) else (0 : Int32))).2.1 5) + (1 : Int32))), G, (R_arith F A (if p1 = (2 : Int32) then (1 : Int32) else (0 : Int32))).2.2, B)) (s13 : ¬ p1 = (1 : Int32) → ¬ p1 = (2 : Int32) → p1 = (3 : Int32) → (en_arith F A (if p1 = (2 : Int32) then (1 : Int32) else (0 : Int32))).isSome = true) (h14 : ¬ p1 = (1 : Int32) → ¬ p1 = (2 : Int32) → p1 = (3 : Int32) → Q none (16, (ups (R_arith F A (if p1 = (2 : Int32) then (1 : Int32) else (0 : Int32))).2.1 5 (((R_arith F A (if p1 = (2 : Int32) then (1 : Int32) else (0 : Int32))).2.1 5) + (1 : Int32))), G, (R_arith F A (if p1 = (2 : Int32) then (1 : Int32) else (0 : Int32))).2.2, B)) (s16 : ¬ p1 = (1 : Int32) → ¬ p1 = (2 : Int32) → ¬ p1 = (3 : Int32) → p1 = (4 : Int32) → ¬ ((F 6) - (1 : Int32)) < 0) (s17 : ¬ p1 = (1 : Int32) → ¬ p1 = (2 : Int32) → ¬ p1 = (3 : Int32) → p1 = (4 : Int32) → ((F 6) - (1 : Int32)) < (16 : Int32)) (s18 : ¬ p1 = (1 : Int32) → ¬ p1 = (2 : Int32) → ¬ p1 = (3 : Int32) → p1 = (4 : Int32) → ¬ (F 6) < 0) (s19 : ¬ p1 = (1 : Int32) → ¬ p1 = (2 : Int32) → ¬ p1 = (3 : Int32) → p1 = (4 : Int32) → (F 6) < (16 : Int32)) (h20 : ¬ p1 = (1 : Int32) → ¬ p1 = (2 : Int32) → ¬ p1 = (3 : Int32) → p1 = (4 : Int32) → Q none (16, (ups (ups F 6 ((F 6) + (1 : Int32))) 5 ((F 5) + (1 : Int32))), G, (ups A 3 (ups (A 3) (F 6) ((A 3) ((F 6) - (1 : Int32))))), B)) (h22 : ¬ p1 = (1 : Int32) → ¬ p1 = (2 : Int32) → ¬ p1 = (3 : Int32) → ¬ p1 = (4 : Int32) → p1 = (5 : Int32) → Q none (16, (ups (ups F 6 ((F 6) - (1 : Int32))) 5 ((F 5) + (1 : Int32))), G, A, B)) (h24 : ¬ p1 = (1 : Int32) → ¬ p1 = (2 : Int32) → ¬ p1 = (3 : Int32) → ¬ p1 = (4 : Int32) → ¬ p1 = (5 : Int32) → p1 = (6 : Int32) → Q none (16, (ups F 5 p2), G, A, B)) (h26 : ¬ p1 = (1 : Int32) → ¬ p1 = (2 : Int32) → ¬ p1 = (3 : Int32) → ¬ p1 = (4 : Int32) → ¬ p1 = (5 : Int32) → ¬ p1 = (6 : Int32) → p1 = (7 : Int32) → False) (s28 : ¬ p1 = (1 : Int32) → ¬ p1 = (2 : Int32) → ¬ p1 = (3 : Int32) → ¬ p1 = (4 : Int32) → ¬ p1 = (5 : Int32) → ¬ p1 = (6 : Int32) → ¬ p1 = (7 : Int32) → p1 = (8 : Int32) → (en_doCall F A p2).isSome = true) (h29 : ¬ p1 = (1 : Int32) → ¬ p1 = (2 : Int32) → ¬ p1 = (3 : Int32) → ¬ p1 = (4 : Int32) → ¬ p1 = (5 : Int32) → ¬ p1 = (6 : Int32) → ¬ p1 = (7 : Int32) → p1 = (8 : Int32) → Q none (16, (R_doCall F A p2).2.1, G, (R_doCall F A p2).2.2, B)) (s31 : ¬ p1 = (1 : Int32) → ¬ p1 = (2 : Int32) → ¬ p1 = (3 : Int32) → ¬ p1 = (4 : Int32) → ¬ p1 = (5 : Int32) → ¬ p1 = (6 : Int32) → ¬ p1 = (7 : Int32) → ¬ p1 = (8 : Int32) → p1 = (9 : Int32) → (en_doRet F A ).isSome = true) (h32 : ¬ p1 = (1 : Int32) → ¬ p1 = (2 : Int32) → ¬ p1 = (3 : Int32) → ¬ p1 = (4 : Int32) → ¬ p1 = (5 : Int32) → ¬ p1 = (6 : Int32) → ¬ p1 = (7 : Int32) → ¬ p1 = (8 : Int32) → p1 = (9 : Int32) → Q none (16, (R_doRet F A ).2, G, A, B)) (h34 : ¬ p1 = (1 : Int32) → ¬ p1 = (2 : Int32) → ¬ p1 = (3 : Int32) → ¬ p1 = (4 : Int32) → ¬ p1 = (5 : Int32) → ¬ p1 = (6 : Int32) → ¬ p1 = (7 : Int32) → ¬ p1 = (8 : Int32) → ¬ p1 = (9 : Int32) → p1 = (10 : Int32) → Q none (16, (ups F 3 (2 : Int32)), G, A, B)) (h35 : ¬ p1 = (1 : Int32) → ¬ p1 = (2 : Int32) → ¬ p1 = (3 : Int32) → ¬ p1 = (4 : Int32) → ¬ p1 = (5 : Int32) → ¬ p1 = (6 : Int32) → ¬ p1 = (7 : Int32) → ¬ p1 = (8 : Int32) → ¬ p1 = (9 : Int32) → ¬ p1 = (10 : Int32) → Q none (16, (ups F 5 ((F 5) + (1 : Int32))), G, A, B)) :
    Wk l Z (MoC Z cdC) md_apply 0 [.val (.ref 0), .val (.int p1), .val (.int p2)] [] (16, F, G, A, B) 0 0 Q := by
  refine Wk.iloadN o_apply_0 rfl ?_
  by_cases q1 : p1 = (1 : Int32)
  · refine Wk.tswIn o_apply_1_1 q1 (by decide) (by decide) ?_
    refine Wk.aloadN o_apply_56 rfl ?_
    refine Wk.getA (mA_stack) (by decide) (i' := 4) rfl (wf_stack H) o_apply_57 ?_
    refine Wk.aloadN o_apply_60 rfl ?_
    refine Wk.getI (mI_sp) (wf_sp H) o_apply_61 (x := (F 6)) rfl ?_
    refine Wk.iloadN o_apply_64 rfl ?_
    refine Wk.iastore (coC H) (f := (A 3)) (mA_stack) rfl (by decide) (i' := 4) rfl (s2 q1) (s3 q1) o_apply_65 ?_
    refine Wk.aloadN o_apply_66 rfl ?_
    refine Wk.dup o_apply_67 rfl ?_
    refine Wk.getI (mI_sp) (wf_sp H) o_apply_68 (x := (F 6)) rfl ?_
    refine Wk.iconst o_apply_71 (z := (1 : Int32)) (by decide) ?_
    refine Wk.iadd o_apply_72 ?_
    refine Wk.putI (coC H) (mI_sp) (wf_sp H) (Or.inl (wy_sp H)) o_apply_73 ?_
    refine Wk.aloadN o_apply_76 rfl ?_
    refine Wk.dup o_apply_77 rfl ?_
    refine Wk.getI (mI_pc) (wf_pc H) o_apply_78 (x := (F 5)) rfl ?_
    refine Wk.iconst o_apply_81 (z := (1 : Int32)) (by decide) ?_
    refine Wk.iadd o_apply_82 ?_
    refine Wk.putI (coC H) (mI_pc) (wf_pc H) (Or.inl (wy_pc H)) o_apply_83 ?_
    refine Wk.goto o_apply_86 ?_
    exact Wk.ret mrC rfl o_apply_231 rfl (by decide) (by decide) (h4 q1)
  · by_cases q5 : p1 = (2 : Int32)
    · refine Wk.tswIn o_apply_1_2 q5 (by decide) (by decide) ?_
      refine Wk.aloadN o_apply_89 rfl ?_
      refine Wk.iloadN o_apply_90 rfl ?_
      refine Wk.iconst o_apply_91 (z := (2 : Int32)) (by decide) ?_
      have J7 : Wk l Z (MoC Z cdC) md_apply 100 [.val (.ref 0), .val (.int p1), .val (.int p2)] [.int (if p1 = (2 : Int32) then (1 : Int32) else (0 : Int32)), .ref 0] (16, F, G, A, B) 0 0 Q := by
        refine Wk.callU [.int (if p1 = (2 : Int32) then (1 : Int32) else (0 : Int32))] [] (H.w 150 rfl) (cv_arith H) o_apply_100 (run_arith H F G A B (if p1 = (2 : Int32) then (1 : Int32) else (0 : Int32)) (s8 q1 q5)) (wt := 0) (cu' := 0) (su' := 0) (by decide) rfl rfl rfl rfl rfl rfl rfl ?_
        refine Wk.aloadN o_apply_103 rfl ?_
        refine Wk.dup o_apply_104 rfl ?_
        refine Wk.getI (mI_pc) (wf_pc H) o_apply_105 (x := ((R_arith F A (if p1 = (2 : Int32) then (1 : Int32) else (0 : Int32))).2.1 5)) rfl ?_
        refine Wk.iconst o_apply_108 (z := (1 : Int32)) (by decide) ?_
        refine Wk.iadd o_apply_109 ?_
        refine Wk.putI (coC H) (mI_pc) (wf_pc H) (Or.inl (wy_pc H)) o_apply_110 ?_
        refine Wk.goto o_apply_113 ?_
        exact Wk.ret mrC rfl o_apply_231 rfl (by decide) (by decide) (h9 q1 q5)
      refine Wk.icmp_ne o_apply_92 (fun q6 => ?_) (fun q6 => ?_)
      · refine Wk.iconst o_apply_99 (z := (0 : Int32)) (by decide) ?_
        first | (rw [show ((if p1 = (2 : Int32) then (1 : Int32) else (0 : Int32)) : Int32) = (0 : Int32) from if_neg q6] at J7; exact J7) | exact J7 | (simp only [if_neg q6] at J7 ⊢; exact J7)
      · refine Wk.iconst o_apply_95 (z := (1 : Int32)) (by decide) ?_
        refine Wk.goto o_apply_96 ?_
        first | (rw [show ((if p1 = (2 : Int32) then (1 : Int32) else (0 : Int32)) : Int32) = (1 : Int32) from if_pos q6] at J7; exact J7) | exact J7 | (simp only [if_pos q6] at J7 ⊢; exact J7)
    · by_cases q10 : p1 = (3 : Int32)
      · refine Wk.tswIn o_apply_1_3 q10 (by decide) (by decide) ?_
        refine Wk.aloadN o_apply_89 rfl ?_
        refine Wk.iloadN o_apply_90 rfl ?_
        refine Wk.iconst o_apply_91 (z := (2 : Int32)) (by decide) ?_
        have J12 : Wk l Z (MoC Z cdC) md_apply 100 [.val (.ref 0), .val (.int p1), .val (.int p2)] [.int (if p1 = (2 : Int32) then (1 : Int32) else (0 : Int32)), .ref 0] (16, F, G, A, B) 0 0 Q := by
          refine Wk.callU [.int (if p1 = (2 : Int32) then (1 : Int32) else (0 : Int32))] [] (H.w 150 rfl) (cv_arith H) o_apply_100 (run_arith H F G A B (if p1 = (2 : Int32) then (1 : Int32) else (0 : Int32)) (s13 q1 q5 q10)) (wt := 0) (cu' := 0) (su' := 0) (by decide) rfl rfl rfl rfl rfl rfl rfl ?_
          refine Wk.aloadN o_apply_103 rfl ?_
          refine Wk.dup o_apply_104 rfl ?_
          refine Wk.getI (mI_pc) (wf_pc H) o_apply_105 (x := ((R_arith F A (if p1 = (2 : Int32) then (1 : Int32) else (0 : Int32))).2.1 5)) rfl ?_
          refine Wk.iconst o_apply_108 (z := (1 : Int32)) (by decide) ?_
          refine Wk.iadd o_apply_109 ?_
          refine Wk.putI (coC H) (mI_pc) (wf_pc H) (Or.inl (wy_pc H)) o_apply_110 ?_
          refine Wk.goto o_apply_113 ?_
          exact Wk.ret mrC rfl o_apply_231 rfl (by decide) (by decide) (h14 q1 q5 q10)
        refine Wk.icmp_ne o_apply_92 (fun q11 => ?_) (fun q11 => ?_)
        · refine Wk.iconst o_apply_99 (z := (0 : Int32)) (by decide) ?_
          first | (rw [show ((if p1 = (2 : Int32) then (1 : Int32) else (0 : Int32)) : Int32) = (0 : Int32) from if_neg q11] at J12; exact J12) | exact J12 | (simp only [if_neg q11] at J12 ⊢; exact J12)
        · refine Wk.iconst o_apply_95 (z := (1 : Int32)) (by decide) ?_
          refine Wk.goto o_apply_96 ?_
          first | (rw [show ((if p1 = (2 : Int32) then (1 : Int32) else (0 : Int32)) : Int32) = (1 : Int32) from if_pos q11] at J12; exact J12) | exact J12 | (simp only [if_pos q11] at J12 ⊢; exact J12)
      · by_cases q15 : p1 = (4 : Int32)
        · refine Wk.tswIn o_apply_1_4 q15 (by decide) (by decide) ?_
          refine Wk.aloadN o_apply_116 rfl ?_
          refine Wk.getA (mA_stack) (by decide) (i' := 4) rfl (wf_stack H) o_apply_117 ?_
          refine Wk.aloadN o_apply_120 rfl ?_
          refine Wk.getI (mI_sp) (wf_sp H) o_apply_121 (x := (F 6)) rfl ?_
          refine Wk.aloadN o_apply_124 rfl ?_
          refine Wk.getA (mA_stack) (by decide) (i' := 4) rfl (wf_stack H) o_apply_125 ?_
          refine Wk.aloadN o_apply_128 rfl ?_
          refine Wk.getI (mI_sp) (wf_sp H) o_apply_129 (x := (F 6)) rfl ?_
          refine Wk.iconst o_apply_132 (z := (1 : Int32)) (by decide) ?_
          refine Wk.isub o_apply_133 ?_
          refine Wk.iaload (mA_stack) (by decide) (i' := 4) rfl (s16 q1 q5 q10 q15) (s17 q1 q5 q10 q15) o_apply_134 (y := ((A 3) ((F 6) - (1 : Int32)))) rfl ?_
          refine Wk.iastore (coC H) (f := (A 3)) (mA_stack) rfl (by decide) (i' := 4) rfl (s18 q1 q5 q10 q15) (s19 q1 q5 q10 q15) o_apply_135 ?_
          refine Wk.aloadN o_apply_136 rfl ?_
          refine Wk.dup o_apply_137 rfl ?_
          refine Wk.getI (mI_sp) (wf_sp H) o_apply_138 (x := (F 6)) rfl ?_
          refine Wk.iconst o_apply_141 (z := (1 : Int32)) (by decide) ?_
          refine Wk.iadd o_apply_142 ?_
          refine Wk.putI (coC H) (mI_sp) (wf_sp H) (Or.inl (wy_sp H)) o_apply_143 ?_
          refine Wk.aloadN o_apply_146 rfl ?_
          refine Wk.dup o_apply_147 rfl ?_
          refine Wk.getI (mI_pc) (wf_pc H) o_apply_148 (x := (F 5)) rfl ?_
          refine Wk.iconst o_apply_151 (z := (1 : Int32)) (by decide) ?_
          refine Wk.iadd o_apply_152 ?_
          refine Wk.putI (coC H) (mI_pc) (wf_pc H) (Or.inl (wy_pc H)) o_apply_153 ?_
          refine Wk.goto o_apply_156 ?_
          exact Wk.ret mrC rfl o_apply_231 rfl (by decide) (by decide) (h20 q1 q5 q10 q15)
        · by_cases q21 : p1 = (5 : Int32)
          · refine Wk.tswIn o_apply_1_5 q21 (by decide) (by decide) ?_
            refine Wk.aloadN o_apply_159 rfl ?_
            refine Wk.dup o_apply_160 rfl ?_
            refine Wk.getI (mI_sp) (wf_sp H) o_apply_161 (x := (F 6)) rfl ?_
            refine Wk.iconst o_apply_164 (z := (1 : Int32)) (by decide) ?_
            refine Wk.isub o_apply_165 ?_
            refine Wk.putI (coC H) (mI_sp) (wf_sp H) (Or.inl (wy_sp H)) o_apply_166 ?_
            refine Wk.aloadN o_apply_169 rfl ?_
            refine Wk.dup o_apply_170 rfl ?_
            refine Wk.getI (mI_pc) (wf_pc H) o_apply_171 (x := (F 5)) rfl ?_
            refine Wk.iconst o_apply_174 (z := (1 : Int32)) (by decide) ?_
            refine Wk.iadd o_apply_175 ?_
            refine Wk.putI (coC H) (mI_pc) (wf_pc H) (Or.inl (wy_pc H)) o_apply_176 ?_
            refine Wk.goto o_apply_179 ?_
            exact Wk.ret mrC rfl o_apply_231 rfl (by decide) (by decide) (h22 q1 q5 q10 q15 q21)
          · by_cases q23 : p1 = (6 : Int32)
            · refine Wk.tswIn o_apply_1_6 q23 (by decide) (by decide) ?_
              refine Wk.aloadN o_apply_182 rfl ?_
              refine Wk.iloadN o_apply_183 rfl ?_
              refine Wk.putI (coC H) (mI_pc) (wf_pc H) (Or.inl (wy_pc H)) o_apply_184 ?_
              refine Wk.goto o_apply_187 ?_
              exact Wk.ret mrC rfl o_apply_231 rfl (by decide) (by decide) (h24 q1 q5 q10 q15 q21 q23)
            · by_cases q25 : p1 = (7 : Int32)
              · refine Wk.tswIn o_apply_1_7 q25 (by decide) (by decide) ?_
                refine Wk.aloadN o_apply_190 rfl ?_
                refine Wk.iloadN o_apply_191 rfl ?_
                exact False.elim (h26 q1 q5 q10 q15 q21 q23 q25)
              · by_cases q27 : p1 = (8 : Int32)
                · refine Wk.tswIn o_apply_1_8 q27 (by decide) (by decide) ?_
                  refine Wk.aloadN o_apply_198 rfl ?_
                  refine Wk.iloadN o_apply_199 rfl ?_
                  refine Wk.callU [.int p2] [] (H.w 126 rfl) (cv_doCall H) o_apply_200 (run_doCall H F G A B p2 (s28 q1 q5 q10 q15 q21 q23 q25 q27)) (wt := 0) (cu' := 0) (su' := 0) (by decide) rfl rfl rfl rfl rfl rfl rfl ?_
                  refine Wk.goto o_apply_203 ?_
                  exact Wk.ret mrC rfl o_apply_231 rfl (by decide) (by decide) (h29 q1 q5 q10 q15 q21 q23 q25 q27)
                · by_cases q30 : p1 = (9 : Int32)
                  · refine Wk.tswIn o_apply_1_9 q30 (by decide) (by decide) ?_
                    refine Wk.aloadN o_apply_206 rfl ?_
                    refine Wk.callU [] [] (H.w 154 rfl) (cv_doRet H) o_apply_207 (run_doRet H F G A B (s31 q1 q5 q10 q15 q21 q23 q25 q27 q30)) (wt := 0) (cu' := 0) (su' := 0) (by decide) rfl rfl rfl rfl rfl rfl rfl ?_
                    refine Wk.goto o_apply_210 ?_
                    exact Wk.ret mrC rfl o_apply_231 rfl (by decide) (by decide) (h32 q1 q5 q10 q15 q21 q23 q25 q27 q30)
                  · by_cases q33 : p1 = (10 : Int32)
                    · refine Wk.tswIn o_apply_1_10 q33 (by decide) (by decide) ?_
                      refine Wk.aloadN o_apply_213 rfl ?_
                      refine Wk.iconst o_apply_214 (z := (2 : Int32)) (by decide) ?_
                      refine Wk.putI (coC H) (mI_status) (wf_status H) (Or.inl (wy_status H)) o_apply_215 ?_
                      refine Wk.goto o_apply_218 ?_
                      exact Wk.ret mrC rfl o_apply_231 rfl (by decide) (by decide) (h34 q1 q5 q10 q15 q21 q23 q25 q27 q30 q33)
                    · refine Wk.tswOut o_apply_1_d (by have a0 : Int32.toInt p1 ≠ 1 := ne_toInt q1; have a1 : Int32.toInt p1 ≠ 2 := ne_toInt q5; have a2 : Int32.toInt p1 ≠ 3 := ne_toInt q10; have a3 : Int32.toInt p1 ≠ 4 := ne_toInt q15; have a4 : Int32.toInt p1 ≠ 5 := ne_toInt q21; have a5 : Int32.toInt p1 ≠ 6 := ne_toInt q23; have a6 : Int32.toInt p1 ≠ 7 := ne_toInt q25; have a7 : Int32.toInt p1 ≠ 8 := ne_toInt q27; have a8 : Int32.toInt p1 ≠ 9 := ne_toInt q30; have a9 : Int32.toInt p1 ≠ 10 := ne_toInt q33; omega) ?_
                      refine Wk.aloadN o_apply_221 rfl ?_
                      refine Wk.dup o_apply_222 rfl ?_
                      refine Wk.getI (mI_pc) (wf_pc H) o_apply_223 (x := (F 5)) rfl ?_
                      refine Wk.iconst o_apply_226 (z := (1 : Int32)) (by decide) ?_
                      refine Wk.iadd o_apply_227 ?_
                      refine Wk.putI (coC H) (mI_pc) (wf_pc H) (Or.inl (wy_pc H)) o_apply_228 ?_
                      exact Wk.ret mrC rfl o_apply_231 rfl (by decide) (by decide) (h35 q1 q5 q10 q15 q21 q23 q25 q27 q30 q33)

theorem rt_apply (G : Nat → Int64) (B : Nat → Int32 → Int64) (v0 : Int32) (xF : Nat → Int32) (xA : Nat → Int32 → Int32) (r : Int32 × (Nat → Int32) × (Nat → Int32 → Int32)) (e : (v0, xF, xA) = r) : (none : Option Value) = none ∧ (16, xF, G, xA, B) = (16, r.2.1, G, r.2.2, B) := by subst e; exact ⟨rfl, rfl⟩
def en_apply (F : Nat → Int32) (A : Nat → Int32 → Int32) (p1 : Int32) (p2 : Int32) : Option (Int32 × (Nat → Int32) × (Nat → Int32 → Int32)) := (if p1 = (1 : Int32) then (if (¬ (F 6) < 0) ∧ ((F 6) < (16 : Int32)) then some ((0 : Int32), (ups (ups F 6 ((F 6) + (1 : Int32))) 5 ((F 5) + (1 : Int32))), (ups A 3 (ups (A 3) (F 6) p2))) else none) else (if p1 = (2 : Int32) then (if ((en_arith F A (if p1 = (2 : Int32) then (1 : Int32) else (0 : Int32))).isSome = true) then some ((0 : Int32), (ups (R_arith F A (if p1 = (2 : Int32) then (1 : Int32) else (0 : Int32))).2.1 5 (((R_arith F A (if p1 = (2 : Int32) then (1 : Int32) else (0 : Int32))).2.1 5) + (1 : Int32))), (R_arith F A (if p1 = (2 : Int32) then (1 : Int32) else (0 : Int32))).2.2) else none) else (if p1 = (3 : Int32) then (if ((en_arith F A (if p1 = (2 : Int32) then (1 : Int32) else (0 : Int32))).isSome = true) then some ((0 : Int32), (ups (R_arith F A (if p1 = (2 : Int32) then (1 : Int32) else (0 : Int32))).2.1 5 (((R_arith F A (if p1 = (2 : Int32) then (1 : Int32) else (0 : Int32))).2.1 5) + (1 : Int32))), (R_arith F A (if p1 = (2 : Int32) then (1 : Int32) else (0 : Int32))).2.2) else none) else (if p1 = (4 : Int32) then (if (¬ ((F 6) - (1 : Int32)) < 0) ∧ (((F 6) - (1 : Int32)) < (16 : Int32)) ∧ (¬ (F 6) < 0) ∧ ((F 6) < (16 : Int32)) then some ((0 : Int32), (ups (ups F 6 ((F 6) + (1 : Int32))) 5 ((F 5) + (1 : Int32))), (ups A 3 (ups (A 3) (F 6) ((A 3) ((F 6) - (1 : Int32)))))) else none) else (if p1 = (5 : Int32) then some ((0 : Int32), (ups (ups F 6 ((F 6) - (1 : Int32))) 5 ((F 5) + (1 : Int32))), A) else (if p1 = (6 : Int32) then some ((0 : Int32), (ups F 5 p2), A) else (if p1 = (7 : Int32) then none else (if p1 = (8 : Int32) then (if ((en_doCall F A p2).isSome = true) then some ((0 : Int32), (R_doCall F A p2).2.1, (R_doCall F A p2).2.2) else none) else (if p1 = (9 : Int32) then (if ((en_doRet F A ).isSome = true) then some ((0 : Int32), (R_doRet F A ).2, A) else none) else (if p1 = (10 : Int32) then some ((0 : Int32), (ups F 3 (2 : Int32)), A) else some ((0 : Int32), (ups F 5 ((F 5) + (1 : Int32))), A)))))))))))
theorem een_apply (F : Nat → Int32) (A : Nat → Int32 → Int32) (p1 : Int32) (p2 : Int32) : en_apply F A p1 p2 = (if p1 = (1 : Int32) then (if (¬ (F 6) < 0) ∧ ((F 6) < (16 : Int32)) then some ((0 : Int32), (ups (ups F 6 ((F 6) + (1 : Int32))) 5 ((F 5) + (1 : Int32))), (ups A 3 (ups (A 3) (F 6) p2))) else none) else (if p1 = (2 : Int32) then (if ((en_arith F A (if p1 = (2 : Int32) then (1 : Int32) else (0 : Int32))).isSome = true) then some ((0 : Int32), (ups (R_arith F A (if p1 = (2 : Int32) then (1 : Int32) else (0 : Int32))).2.1 5 (((R_arith F A (if p1 = (2 : Int32) then (1 : Int32) else (0 : Int32))).2.1 5) + (1 : Int32))), (R_arith F A (if p1 = (2 : Int32) then (1 : Int32) else (0 : Int32))).2.2) else none) else (if p1 = (3 : Int32) then (if ((en_arith F A (if p1 = (2 : Int32) then (1 : Int32) else (0 : Int32))).isSome = true) then some ((0 : Int32), (ups (R_arith F A (if p1 = (2 : Int32) then (1 : Int32) else (0 : Int32))).2.1 5 (((R_arith F A (if p1 = (2 : Int32) then (1 : Int32) else (0 : Int32))).2.1 5) + (1 : Int32))), (R_arith F A (if p1 = (2 : Int32) then (1 : Int32) else (0 : Int32))).2.2) else none) else (if p1 = (4 : Int32) then (if (¬ ((F 6) - (1 : Int32)) < 0) ∧ (((F 6) - (1 : Int32)) < (16 : Int32)) ∧ (¬ (F 6) < 0) ∧ ((F 6) < (16 : Int32)) then some ((0 : Int32), (ups (ups F 6 ((F 6) + (1 : Int32))) 5 ((F 5) + (1 : Int32))), (ups A 3 (ups (A 3) (F 6) ((A 3) ((F 6) - (1 : Int32)))))) else none) else (if p1 = (5 : Int32) then some ((0 : Int32), (ups (ups F 6 ((F 6) - (1 : Int32))) 5 ((F 5) + (1 : Int32))), A) else (if p1 = (6 : Int32) then some ((0 : Int32), (ups F 5 p2), A) else (if p1 = (7 : Int32) then none else (if p1 = (8 : Int32) then (if ((en_doCall F A p2).isSome = true) then some ((0 : Int32), (R_doCall F A p2).2.1, (R_doCall F A p2).2.2) else none) else (if p1 = (9 : Int32) then (if ((en_doRet F A ).isSome = true) then some ((0 : Int32), (R_doRet F A ).2, A) else none) else (if p1 = (10 : Int32) then some ((0 : Int32), (ups F 3 (2 : Int32)), A) else some ((0 : Int32), (ups F 5 ((F 5) + (1 : Int32))), A))))))))))) := Eq.trans rfl rfl
def R_apply (F : Nat → Int32) (A : Nat → Int32 → Int32) (p1 : Int32) (p2 : Int32) : Int32 × (Nat → Int32) × (Nat → Int32 → Int32) := (en_apply F A p1 p2).getD (0, (fun _ => 0), (fun _ _ => 0))
theorem eR_apply (F : Nat → Int32) (A : Nat → Int32 → Int32) (p1 : Int32) (p2 : Int32) : R_apply F A p1 p2 = (en_apply F A p1 p2).getD (0, (fun _ => 0), (fun _ _ => 0)) := Eq.trans rfl rfl
set_option maxRecDepth 65536 in
set_option maxHeartbeats 4000000 in
theorem run_apply {l : Launch} {Z : State} {a0 : Array Value} (H : OK Z a0) (F : Nat → Int32) (G : Nat → Int64) (A : Nat → Int32 → Int32) (B : Nat → Int32 → Int64) (p1 : Int32) (p2 : Int32) (e1 : (en_apply F A p1 p2).isSome = true) :
    Wk l Z (MoC Z cdC) md_apply 0 [.val (.ref 0), .val (.int p1), .val (.int p2)] [] (16, F, G, A, B) 0 0 (fun v w' => v = none ∧ w' = (16, (R_apply F A p1 p2).2.1, G, (R_apply F A p1 p2).2.2, B)) := by
  obtain ⟨r, h⟩ := Option.isSome_iff_exists.mp e1
  have e : R_apply F A p1 p2 = r := (eR_apply F A p1 p2).trans (getD_some h)
  rw [e]
  rw [een_apply] at h
  exact wp_apply H F G A B p1 p2 (fun q1 => (gd (ifp q1 h)).1.1) (fun q1 => (gd (ifp q1 h)).1.2) (fun q1 => (rt_apply _ _ _ _ _ r (Option.some.inj (gd (ifp q1 h)).2))) (fun q1 q5 => (gd (ifp q5 (ifn q1 h))).1) (fun q1 q5 => (rt_apply _ _ _ _ _ r (Option.some.inj (gd (ifp q5 (ifn q1 h))).2))) (fun q1 q5 q10 => (gd (ifp q10 (ifn q5 (ifn q1 h)))).1) (fun q1 q5 q10 => (rt_apply _ _ _ _ _ r (Option.some.inj (gd (ifp q10 (ifn q5 (ifn q1 h)))).2))) (fun q1 q5 q10 q15 => (gd (ifp q15 (ifn q10 (ifn q5 (ifn q1 h))))).1.1) (fun q1 q5 q10 q15 => (gd (ifp q15 (ifn q10 (ifn q5 (ifn q1 h))))).1.2.1) (fun q1 q5 q10 q15 => (gd (ifp q15 (ifn q10 (ifn q5 (ifn q1 h))))).1.2.2.1) (fun q1 q5 q10 q15 => (gd (ifp q15 (ifn q10 (ifn q5 (ifn q1 h))))).1.2.2.2) (fun q1 q5 q10 q15 => (rt_apply _ _ _ _ _ r (Option.some.inj (gd (ifp q15 (ifn q10 (ifn q5 (ifn q1 h))))).2))) (fun q1 q5 q10 q15 q21 => (rt_apply _ _ _ _ _ r (Option.some.inj (ifp q21 (ifn q15 (ifn q10 (ifn q5 (ifn q1 h)))))))) (fun q1 q5 q10 q15 q21 q23 => (rt_apply _ _ _ _ _ r (Option.some.inj (ifp q23 (ifn q21 (ifn q15 (ifn q10 (ifn q5 (ifn q1 h))))))))) (fun q1 q5 q10 q15 q21 q23 q25 => (by have e := (ifp q25 (ifn q23 (ifn q21 (ifn q15 (ifn q10 (ifn q5 (ifn q1 h))))))); cases e)) (fun q1 q5 q10 q15 q21 q23 q25 q27 => (gd (ifp q27 (ifn q25 (ifn q23 (ifn q21 (ifn q15 (ifn q10 (ifn q5 (ifn q1 h))))))))).1) (fun q1 q5 q10 q15 q21 q23 q25 q27 => (rt_apply _ _ _ _ _ r (Option.some.inj (gd (ifp q27 (ifn q25 (ifn q23 (ifn q21 (ifn q15 (ifn q10 (ifn q5 (ifn q1 h))))))))).2))) (fun q1 q5 q10 q15 q21 q23 q25 q27 q30 => (gd (ifp q30 (ifn q27 (ifn q25 (ifn q23 (ifn q21 (ifn q15 (ifn q10 (ifn q5 (ifn q1 h)))))))))).1) (fun q1 q5 q10 q15 q21 q23 q25 q27 q30 => (rt_apply _ _ _ _ _ r (Option.some.inj (gd (ifp q30 (ifn q27 (ifn q25 (ifn q23 (ifn q21 (ifn q15 (ifn q10 (ifn q5 (ifn q1 h)))))))))).2))) (fun q1 q5 q10 q15 q21 q23 q25 q27 q30 q33 => (rt_apply _ _ _ _ _ r (Option.some.inj (ifp q33 (ifn q30 (ifn q27 (ifn q25 (ifn q23 (ifn q21 (ifn q15 (ifn q10 (ifn q5 (ifn q1 h))))))))))))) (fun q1 q5 q10 q15 q21 q23 q25 q27 q30 q33 => (rt_apply _ _ _ _ _ r (Option.some.inj (ifn q33 (ifn q30 (ifn q27 (ifn q25 (ifn q23 (ifn q21 (ifn q15 (ifn q10 (ifn q5 (ifn q1 h)))))))))))))
set_option maxRecDepth 65536 in
set_option maxHeartbeats 4000000 in
theorem wp_stepOnce {l : Launch} {Z : State} {a0 : Array Value} (H : OK Z a0) (F : Nat → Int32) (G : Nat → Int64) (A : Nat → Int32 → Int32) (B : Nat → Int32 → Int64) {Q : Option Value → WO → Prop} (h2 : (F 5) < 0 → Q (some (.int (0 : Int32))) (16, (ups F 3 (3 : Int32)), G, A, B)) (s4 : ¬ (F 5) < 0 → (F 5) < (F 4) → (F 5) < (64 : Int32)) (s5 : ¬ (F 5) < 0 → (F 5) < (F 4) → (en_faults F A ((A 0) (F 5)) ((A 1) (F 5))).isSome = true) (s7 : ¬ (F 5) < 0 → (F 5) < (F 4) → (R_faults F A ((A 0) (F 5)) ((A 1) (F 5))) = 0 → (en_charge F A ).isSome = true) (s8 : ¬ (F 5) < 0 → (F 5) < (F 4) → (R_faults F A ((A 0) (F 5)) ((A 1) (F 5))) = 0 → (en_apply (R_charge F A ).2.1 (R_charge F A ).2.2 ((A 0) (F 5)) ((A 1) (F 5))).isSome = true) (h9 : ¬ (F 5) < 0 → (F 5) < (F 4) → (R_faults F A ((A 0) (F 5)) ((A 1) (F 5))) = 0 → Q (some (.int (1 : Int32))) (16, (R_apply (R_charge F A ).2.1 (R_charge F A ).2.2 ((A 0) (F 5)) ((A 1) (F 5))).2.1, G, (R_apply (R_charge F A ).2.1 (R_charge F A ).2.2 ((A 0) (F 5)) ((A 1) (F 5))).2.2, B)) (h10 : ¬ (F 5) < 0 → (F 5) < (F 4) → ¬ (R_faults F A ((A 0) (F 5)) ((A 1) (F 5))) = 0 → Q (some (.int (0 : Int32))) (16, (ups F 3 (3 : Int32)), G, A, B)) (h11 : ¬ (F 5) < 0 → ¬ (F 5) < (F 4) → Q (some (.int (0 : Int32))) (16, (ups F 3 (3 : Int32)), G, A, B)) :
    Wk l Z (MoC Z cdC) md_stepOnce 0 [.val (.ref 0), .unset, .unset] [] (16, F, G, A, B) 0 0 Q := by
  refine Wk.aloadN o_stepOnce_0 rfl ?_
  refine Wk.getI (mI_pc) (wf_pc H) o_stepOnce_1 (x := (F 5)) rfl ?_
  refine Wk.if_lt o_stepOnce_4 (fun q1 => ?_) (fun q1 => ?_)
  · refine Wk.aloadN o_stepOnce_18 rfl ?_
    refine Wk.iconst o_stepOnce_19 (z := (3 : Int32)) (by decide) ?_
    refine Wk.putI (coC H) (mI_status) (wf_status H) (Or.inl (wy_status H)) o_stepOnce_20 ?_
    refine Wk.iconst o_stepOnce_23 (z := (0 : Int32)) (by decide) ?_
    exact Wk.zreturn mrC rfl o_stepOnce_24 rfl (by decide) (by decide) (y := (0 : Int32)) (by decide) (h2 q1)
  · refine Wk.aloadN o_stepOnce_7 rfl ?_
    refine Wk.getI (mI_pc) (wf_pc H) o_stepOnce_8 (x := (F 5)) rfl ?_
    refine Wk.aloadN o_stepOnce_11 rfl ?_
    refine Wk.getI (mI_codeSize) (wf_codeSize H) o_stepOnce_12 (x := (F 4)) rfl ?_
    refine Wk.icmp_lt o_stepOnce_15 (fun q3 => ?_) (fun q3 => ?_)
    · refine Wk.aloadN o_stepOnce_25 rfl ?_
      refine Wk.getA (mA_ops) (by decide) (i' := 1) rfl (wf_ops H) o_stepOnce_26 ?_
      refine Wk.aloadN o_stepOnce_29 rfl ?_
      refine Wk.getI (mI_pc) (wf_pc H) o_stepOnce_30 (x := (F 5)) rfl ?_
      refine Wk.iaload (mA_ops) (by decide) (i' := 1) rfl q1 (s4 q1 q3) o_stepOnce_33 (y := ((A 0) (F 5))) rfl ?_
      refine Wk.istoreN o_stepOnce_34 (Or.inl rfl) (L' := [.val (.ref 0), .val (.int ((A 0) (F 5))), .unset]) rfl ?_
      refine Wk.aloadN o_stepOnce_35 rfl ?_
      refine Wk.getA (mA_args) (by decide) (i' := 2) rfl (wf_args H) o_stepOnce_36 ?_
      refine Wk.aloadN o_stepOnce_39 rfl ?_
      refine Wk.getI (mI_pc) (wf_pc H) o_stepOnce_40 (x := (F 5)) rfl ?_
      refine Wk.iaload (mA_args) (by decide) (i' := 2) rfl q1 (s4 q1 q3) o_stepOnce_43 (y := ((A 1) (F 5))) rfl ?_
      refine Wk.istoreN o_stepOnce_44 (Or.inl rfl) (L' := [.val (.ref 0), .val (.int ((A 0) (F 5))), .val (.int ((A 1) (F 5)))]) rfl ?_
      refine Wk.aloadN o_stepOnce_45 rfl ?_
      refine Wk.iloadN o_stepOnce_46 rfl ?_
      refine Wk.iloadN o_stepOnce_47 rfl ?_
      refine Wk.callF [.int ((A 0) (F 5)), .int ((A 1) (F 5))] [] (H.w 106 rfl) (cv_faults H) o_stepOnce_48 (run_faults H F G A B ((A 0) (F 5)) ((A 1) (F 5)) (s5 q1 q3)) (wt := 0) (cu' := 0) (su' := 0) (by decide) rfl rfl rfl rfl rfl rfl rfl ?_
      refine Wk.if_eq o_stepOnce_51 (fun q6 => ?_) (fun q6 => ?_)
      · refine Wk.aloadN o_stepOnce_61 rfl ?_
        refine Wk.callU [] [] (H.w 110 rfl) (cv_charge H) o_stepOnce_62 (run_charge H F G A B (s7 q1 q3 q6)) (wt := 0) (cu' := 0) (su' := 0) (by decide) rfl rfl rfl rfl rfl rfl rfl ?_
        refine Wk.aloadN o_stepOnce_65 rfl ?_
        refine Wk.iloadN o_stepOnce_66 rfl ?_
        refine Wk.iloadN o_stepOnce_67 rfl ?_
        refine Wk.callU [.int ((A 0) (F 5)), .int ((A 1) (F 5))] [] (H.w 118 rfl) (cv_apply H) o_stepOnce_68 (run_apply H (R_charge F A ).2.1 G (R_charge F A ).2.2 B ((A 0) (F 5)) ((A 1) (F 5)) (s8 q1 q3 q6)) (wt := 0) (cu' := 0) (su' := 0) (by decide) rfl rfl rfl rfl rfl rfl rfl ?_
        refine Wk.iconst o_stepOnce_71 (z := (1 : Int32)) (by decide) ?_
        exact Wk.zreturn mrC rfl o_stepOnce_72 rfl (by decide) (by decide) (y := (1 : Int32)) (by decide) (h9 q1 q3 q6)
      · refine Wk.aloadN o_stepOnce_54 rfl ?_
        refine Wk.iconst o_stepOnce_55 (z := (3 : Int32)) (by decide) ?_
        refine Wk.putI (coC H) (mI_status) (wf_status H) (Or.inl (wy_status H)) o_stepOnce_56 ?_
        refine Wk.iconst o_stepOnce_59 (z := (0 : Int32)) (by decide) ?_
        exact Wk.zreturn mrC rfl o_stepOnce_60 rfl (by decide) (by decide) (y := (0 : Int32)) (by decide) (h10 q1 q3 q6)
    · refine Wk.aloadN o_stepOnce_18 rfl ?_
      refine Wk.iconst o_stepOnce_19 (z := (3 : Int32)) (by decide) ?_
      refine Wk.putI (coC H) (mI_status) (wf_status H) (Or.inl (wy_status H)) o_stepOnce_20 ?_
      refine Wk.iconst o_stepOnce_23 (z := (0 : Int32)) (by decide) ?_
      exact Wk.zreturn mrC rfl o_stepOnce_24 rfl (by decide) (by decide) (y := (0 : Int32)) (by decide) (h11 q1 q3)

theorem rt_stepOnce (G : Nat → Int64) (B : Nat → Int32 → Int64) (v0 : Int32) (xF : Nat → Int32) (xA : Nat → Int32 → Int32) (r : Int32 × (Nat → Int32) × (Nat → Int32 → Int32)) (e : (v0, xF, xA) = r) : some (Value.int v0) = some (.int r.1) ∧ (16, xF, G, xA, B) = (16, r.2.1, G, r.2.2, B) := by subst e; exact ⟨rfl, rfl⟩
def en_stepOnce (F : Nat → Int32) (A : Nat → Int32 → Int32) : Option (Int32 × (Nat → Int32) × (Nat → Int32 → Int32)) := (if (F 5) < 0 then some ((0 : Int32), (ups F 3 (3 : Int32)), A) else (if (F 5) < (F 4) then (if ((F 5) < (64 : Int32)) ∧ ((en_faults F A ((A 0) (F 5)) ((A 1) (F 5))).isSome = true) then (if (R_faults F A ((A 0) (F 5)) ((A 1) (F 5))) = 0 then (if ((en_charge F A ).isSome = true) ∧ ((en_apply (R_charge F A ).2.1 (R_charge F A ).2.2 ((A 0) (F 5)) ((A 1) (F 5))).isSome = true) then some ((1 : Int32), (R_apply (R_charge F A ).2.1 (R_charge F A ).2.2 ((A 0) (F 5)) ((A 1) (F 5))).2.1, (R_apply (R_charge F A ).2.1 (R_charge F A ).2.2 ((A 0) (F 5)) ((A 1) (F 5))).2.2) else none) else some ((0 : Int32), (ups F 3 (3 : Int32)), A)) else none) else some ((0 : Int32), (ups F 3 (3 : Int32)), A)))
theorem een_stepOnce (F : Nat → Int32) (A : Nat → Int32 → Int32) : en_stepOnce F A  = (if (F 5) < 0 then some ((0 : Int32), (ups F 3 (3 : Int32)), A) else (if (F 5) < (F 4) then (if ((F 5) < (64 : Int32)) ∧ ((en_faults F A ((A 0) (F 5)) ((A 1) (F 5))).isSome = true) then (if (R_faults F A ((A 0) (F 5)) ((A 1) (F 5))) = 0 then (if ((en_charge F A ).isSome = true) ∧ ((en_apply (R_charge F A ).2.1 (R_charge F A ).2.2 ((A 0) (F 5)) ((A 1) (F 5))).isSome = true) then some ((1 : Int32), (R_apply (R_charge F A ).2.1 (R_charge F A ).2.2 ((A 0) (F 5)) ((A 1) (F 5))).2.1, (R_apply (R_charge F A ).2.1 (R_charge F A ).2.2 ((A 0) (F 5)) ((A 1) (F 5))).2.2) else none) else some ((0 : Int32), (ups F 3 (3 : Int32)), A)) else none) else some ((0 : Int32), (ups F 3 (3 : Int32)), A))) := Eq.trans rfl rfl
def R_stepOnce (F : Nat → Int32) (A : Nat → Int32 → Int32) : Int32 × (Nat → Int32) × (Nat → Int32 → Int32) := (en_stepOnce F A ).getD (0, (fun _ => 0), (fun _ _ => 0))
theorem eR_stepOnce (F : Nat → Int32) (A : Nat → Int32 → Int32) : R_stepOnce F A  = (en_stepOnce F A ).getD (0, (fun _ => 0), (fun _ _ => 0)) := Eq.trans rfl rfl
set_option maxRecDepth 65536 in
set_option maxHeartbeats 4000000 in
theorem run_stepOnce {l : Launch} {Z : State} {a0 : Array Value} (H : OK Z a0) (F : Nat → Int32) (G : Nat → Int64) (A : Nat → Int32 → Int32) (B : Nat → Int32 → Int64) (e1 : (en_stepOnce F A ).isSome = true) :
    Wk l Z (MoC Z cdC) md_stepOnce 0 [.val (.ref 0), .unset, .unset] [] (16, F, G, A, B) 0 0 (fun v w' => v = some (.int (R_stepOnce F A ).1) ∧ w' = (16, (R_stepOnce F A ).2.1, G, (R_stepOnce F A ).2.2, B)) := by
  obtain ⟨r, h⟩ := Option.isSome_iff_exists.mp e1
  have e : R_stepOnce F A  = r := (eR_stepOnce F A ).trans (getD_some h)
  rw [e]
  rw [een_stepOnce] at h
  exact wp_stepOnce H F G A B  (fun q1 => (rt_stepOnce _ _ _ _ _ r (Option.some.inj (ifp q1 h)))) (fun q1 q3 => (gd (ifp q3 (ifn q1 h))).1.1) (fun q1 q3 => (gd (ifp q3 (ifn q1 h))).1.2) (fun q1 q3 q6 => (gd (ifp q6 (gd (ifp q3 (ifn q1 h))).2)).1.1) (fun q1 q3 q6 => (gd (ifp q6 (gd (ifp q3 (ifn q1 h))).2)).1.2) (fun q1 q3 q6 => (rt_stepOnce _ _ _ _ _ r (Option.some.inj (gd (ifp q6 (gd (ifp q3 (ifn q1 h))).2)).2))) (fun q1 q3 q6 => (rt_stepOnce _ _ _ _ _ r (Option.some.inj (ifn q6 (gd (ifp q3 (ifn q1 h))).2)))) (fun q1 q3 => (rt_stepOnce _ _ _ _ _ r (Option.some.inj (ifn q3 (ifn q1 h)))))
set_option maxRecDepth 65536 in
set_option maxHeartbeats 4000000 in
theorem wp_run {l : Launch} {Z : State} {a0 : Array Value} (H : OK Z a0) (F : Nat → Int32) (G : Nat → Int64) (A : Nat → Int32 → Int32) (B : Nat → Int32 → Int64) (p1 : Int32) {Q : Option Value → WO → Prop} (h2 : ¬ 0 < p1 → Q (some (.int (0 : Int32))) (16, F, G, A, B)) (h4 : 0 < p1 → (F 3) = (2 : Int32) → Q (some (.int (0 : Int32))) (16, F, G, A, B)) (h9 : 0 < p1 → ¬ (F 3) = (2 : Int32) → ¬ (F 3) = (3 : Int32) → ¬ (F 3) = 0 → Wk l Z (MoC Z cdC) md_run 69 [.val (.ref 0), .unset, .val (.int (if (1000 : Int32) < p1 then (1000 : Int32) else p1)), .val (.int (0 : Int32)), .val (.int (0 : Int32))] [] (16, F, G, A, B) 0 0 Q) (h11 : 0 < p1 → ¬ (F 3) = (2 : Int32) → ¬ (F 3) = (3 : Int32) → (F 3) = 0 → ¬ ((A 2) (0 : Int32)) < 0 → Wk l Z (MoC Z cdC) md_run 69 [.val (.ref 0), .unset, .val (.int (if (1000 : Int32) < p1 then (1000 : Int32) else p1)), .val (.int (0 : Int32)), .val (.int (0 : Int32))] [] (16, (F_start F A), G, (A_start A), B) 0 0 Q) (h12 : 0 < p1 → ¬ (F 3) = (2 : Int32) → ¬ (F 3) = (3 : Int32) → (F 3) = 0 → ((A 2) (0 : Int32)) < 0 → Q (some (.int (0 : Int32))) (16, (ups F 3 (3 : Int32)), G, A, B)) (h13 : 0 < p1 → ¬ (F 3) = (2 : Int32) → (F 3) = (3 : Int32) → Q (some (.int (0 : Int32))) (16, F, G, A, B)) :
    Wk l Z (MoC Z cdC) md_run 0 [.val (.ref 0), .val (.int p1), .unset, .unset, .unset] [] (16, F, G, A, B) 0 0 Q := by
  refine Wk.iloadN o_run_0 rfl ?_
  refine Wk.if_le o_run_1 (fun q1 => ?_) (fun q1 => ?_)
  · refine Wk.iconst o_run_20 (z := (0 : Int32)) (by decide) ?_
    exact Wk.ireturn mrC rfl o_run_21 rfl (by decide) (by decide) (h2 q1)
  · refine Wk.aloadN o_run_4 rfl ?_
    refine Wk.getI (mI_status) (wf_status H) o_run_5 (x := (F 3)) rfl ?_
    refine Wk.iconst o_run_8 (z := (2 : Int32)) (by decide) ?_
    refine Wk.icmp_eq o_run_9 (fun q3 => ?_) (fun q3 => ?_)
    · refine Wk.iconst o_run_20 (z := (0 : Int32)) (by decide) ?_
      exact Wk.ireturn mrC rfl o_run_21 rfl (by decide) (by decide) (h4 q1 q3)
    · refine Wk.aloadN o_run_12 rfl ?_
      refine Wk.getI (mI_status) (wf_status H) o_run_13 (x := (F 3)) rfl ?_
      refine Wk.iconst o_run_16 (z := (3 : Int32)) (by decide) ?_
      refine Wk.icmp_ne o_run_17 (fun q5 => ?_) (fun q5 => ?_)
      · refine Wk.iloadN o_run_22 rfl ?_
        refine Wk.sipush o_run_23 (z := (1000 : Int32)) (by decide) ?_
        have J7 : Wk l Z (MoC Z cdC) md_run 36 [.val (.ref 0), .val (.int p1), .unset, .unset, .unset] [.int (if (1000 : Int32) < p1 then (1000 : Int32) else p1)] (16, F, G, A, B) 0 0 Q := by
          refine Wk.istoreN o_run_36 (Or.inl rfl) (L' := [.val (.ref 0), .val (.int p1), .val (.int (if (1000 : Int32) < p1 then (1000 : Int32) else p1)), .unset, .unset]) rfl ?_
          refine Wk.aloadN o_run_37 rfl ?_
          refine Wk.getI (mI_status) (wf_status H) o_run_38 (x := (F 3)) rfl ?_
          refine Wk.if_ne o_run_41 (fun q8 => ?_) (fun q8 => ?_)
          · refine Wk.iconst o_run_64 (z := (0 : Int32)) (by decide) ?_
            refine Wk.istoreN o_run_65 (Or.inl rfl) (L' := [.val (.ref 0), .val (.int p1), .val (.int (if (1000 : Int32) < p1 then (1000 : Int32) else p1)), .val (.int (0 : Int32)), .unset]) rfl ?_
            refine Wk.iconst o_run_66 (z := (0 : Int32)) (by decide) ?_
            refine Wk.istore o_run_67 (Or.inl rfl) (L' := [.val (.ref 0), .val (.int p1), .val (.int (if (1000 : Int32) < p1 then (1000 : Int32) else p1)), .val (.int (0 : Int32)), .val (.int (0 : Int32))]) rfl ?_
            refine Wk.forget [false, true, false, false, false] (L' := [.val (.ref 0), .unset, .val (.int (if (1000 : Int32) < p1 then (1000 : Int32) else p1)), .val (.int (0 : Int32)), .val (.int (0 : Int32))]) rfl rfl ?_
            exact (h9 q1 q3 q5 q8)
          · refine Wk.aloadN o_run_44 rfl ?_
            refine Wk.getA (mA_entries) (by decide) (i' := 3) rfl (wf_entries H) o_run_45 ?_
            refine Wk.iconst o_run_48 (z := (0 : Int32)) (by decide) ?_
            refine Wk.iaload (mA_entries) (by decide) (i' := 3) rfl (by decide) (by decide) o_run_49 (y := ((A 2) (0 : Int32))) rfl ?_
            refine Wk.if_ge o_run_50 (fun q10 => ?_) (fun q10 => ?_)
            · refine Wk.aloadN o_run_60 rfl ?_
              refine Wk.callU [] [] (H.w 98 rfl) (cv_start H) o_run_61 (run_start H F G A B) (wt := 0) (cu' := 0) (su' := 0) (by decide) rfl rfl rfl rfl rfl rfl rfl ?_
              refine Wk.iconst o_run_64 (z := (0 : Int32)) (by decide) ?_
              refine Wk.istoreN o_run_65 (Or.inl rfl) (L' := [.val (.ref 0), .val (.int p1), .val (.int (if (1000 : Int32) < p1 then (1000 : Int32) else p1)), .val (.int (0 : Int32)), .unset]) rfl ?_
              refine Wk.iconst o_run_66 (z := (0 : Int32)) (by decide) ?_
              refine Wk.istore o_run_67 (Or.inl rfl) (L' := [.val (.ref 0), .val (.int p1), .val (.int (if (1000 : Int32) < p1 then (1000 : Int32) else p1)), .val (.int (0 : Int32)), .val (.int (0 : Int32))]) rfl ?_
              refine Wk.forget [false, true, false, false, false] (L' := [.val (.ref 0), .unset, .val (.int (if (1000 : Int32) < p1 then (1000 : Int32) else p1)), .val (.int (0 : Int32)), .val (.int (0 : Int32))]) rfl rfl ?_
              exact (h11 q1 q3 q5 q8 q10)
            · refine Wk.aloadN o_run_53 rfl ?_
              refine Wk.iconst o_run_54 (z := (3 : Int32)) (by decide) ?_
              refine Wk.putI (coC H) (mI_status) (wf_status H) (Or.inl (wy_status H)) o_run_55 ?_
              refine Wk.iconst o_run_58 (z := (0 : Int32)) (by decide) ?_
              exact Wk.ireturn mrC rfl o_run_59 rfl (by decide) (by decide) (h12 q1 q3 q5 q8 q10)
        refine Wk.icmp_le o_run_26 (fun q6 => ?_) (fun q6 => ?_)
        · refine Wk.iloadN o_run_35 rfl ?_
          first | (rw [show ((if (1000 : Int32) < p1 then (1000 : Int32) else p1) : Int32) = p1 from if_neg q6] at J7; exact J7) | exact J7 | (simp only [if_neg q6] at J7 ⊢; exact J7)
        · refine Wk.sipush o_run_29 (z := (1000 : Int32)) (by decide) ?_
          refine Wk.goto o_run_32 ?_
          first | (rw [show ((if (1000 : Int32) < p1 then (1000 : Int32) else p1) : Int32) = (1000 : Int32) from if_pos q6] at J7; exact J7) | exact J7 | (simp only [if_pos q6] at J7 ⊢; exact J7)
      · refine Wk.iconst o_run_20 (z := (0 : Int32)) (by decide) ?_
        exact Wk.ireturn mrC rfl o_run_21 rfl (by decide) (by decide) (h13 q1 q3 q5)

set_option maxRecDepth 65536 in
set_option maxHeartbeats 4000000 in
theorem wp_run_69 {l : Launch} {Z : State} {a0 : Array Value} (H : OK Z a0) (F : Nat → Int32) (G : Nat → Int64) (A : Nat → Int32 → Int32) (B : Nat → Int32 → Int64) (v2 : Int32) (v3 : Int32) (v4 : Int32) {Q : Option Value → WO → Prop} (h2 : ¬ v4 < v2 → Q (some (.int v3)) (16, F, G, A, B)) (s3 : v4 < v2 → (en_stepOnce F A ).isSome = true) (h6 : v4 < v2 → ¬ (R_stepOnce F A ).1 = 0 → ((R_stepOnce F A ).2.1 3) = (1 : Int32) → Wk l Z (MoC Z cdC) md_run 69 [.val (.ref 0), .unset, .val (.int v2), .val (.int (v3 + (1 : Int32))), .val (.int (v4 + (1 : Int32)))] [] (16, (R_stepOnce F A ).2.1, G, (R_stepOnce F A ).2.2, B) 0 0 Q) (h7 : v4 < v2 → ¬ (R_stepOnce F A ).1 = 0 → ¬ ((R_stepOnce F A ).2.1 3) = (1 : Int32) → Q (some (.int (v3 + (1 : Int32)))) (16, (R_stepOnce F A ).2.1, G, (R_stepOnce F A ).2.2, B)) (h8 : v4 < v2 → (R_stepOnce F A ).1 = 0 → Q (some (.int v3)) (16, (R_stepOnce F A ).2.1, G, (R_stepOnce F A ).2.2, B)) :
    Wk l Z (MoC Z cdC) md_run 69 [.val (.ref 0), .unset, .val (.int v2), .val (.int v3), .val (.int v4)] [] (16, F, G, A, B) 0 0 Q := by
  refine Wk.iload o_run_69 rfl ?_
  refine Wk.iloadN o_run_71 rfl ?_
  refine Wk.icmp_ge o_run_72 (fun q1 => ?_) (fun q1 => ?_)
  · refine Wk.iloadN o_run_105 rfl ?_
    exact Wk.ireturn mrC rfl o_run_106 rfl (by decide) (by decide) (h2 q1)
  · refine Wk.aloadN o_run_75 rfl ?_
    refine Wk.callF [] [] (H.w 102 rfl) (cv_stepOnce H) o_run_76 (run_stepOnce H F G A B (s3 q1)) (wt := 0) (cu' := 0) (su' := 0) (by decide) rfl rfl rfl rfl rfl rfl rfl ?_
    refine Wk.if_ne o_run_79 (fun q4 => ?_) (fun q4 => ?_)
    · refine Wk.iinc o_run_85 rfl (z := (v3 + (1 : Int32))) rfl (L' := [.val (.ref 0), .unset, .val (.int v2), .val (.int (v3 + (1 : Int32))), .val (.int v4)]) rfl ?_
      refine Wk.aloadN o_run_88 rfl ?_
      refine Wk.getI (mI_status) (wf_status H) o_run_89 (x := ((R_stepOnce F A ).2.1 3)) rfl ?_
      refine Wk.iconst o_run_92 (z := (1 : Int32)) (by decide) ?_
      refine Wk.icmp_eq o_run_93 (fun q5 => ?_) (fun q5 => ?_)
      · refine Wk.iinc o_run_99 rfl (z := (v4 + (1 : Int32))) rfl (L' := [.val (.ref 0), .unset, .val (.int v2), .val (.int (v3 + (1 : Int32))), .val (.int (v4 + (1 : Int32)))]) rfl ?_
        refine Wk.goto o_run_102 ?_
        exact (h6 q1 q4 q5)
      · refine Wk.goto o_run_96 ?_
        refine Wk.iloadN o_run_105 rfl ?_
        exact Wk.ireturn mrC rfl o_run_106 rfl (by decide) (by decide) (h7 q1 q4 q5)
    · refine Wk.goto o_run_82 ?_
      refine Wk.iloadN o_run_105 rfl ?_
      exact Wk.ireturn mrC rfl o_run_106 rfl (by decide) (by decide) (h8 q1 q4)

theorem rt_run (G : Nat → Int64) (B : Nat → Int32 → Int64) (v0 : Int32) (xF : Nat → Int32) (xA : Nat → Int32 → Int32) (r : Int32 × (Nat → Int32) × (Nat → Int32 → Int32)) (e : (v0, xF, xA) = r) : some (Value.int v0) = some (.int r.1) ∧ (16, xF, G, xA, B) = (16, r.2.1, G, r.2.2, B) := by subst e; exact ⟨rfl, rfl⟩
def lp_run : Nat → Nat → Int32 → Int32 → Int32 → (Nat → Int32) → (Nat → Int32 → Int32) → Option (Int32 × (Nat → Int32) × (Nat → Int32 → Int32))
  | 0, _, _, _, _, _, _ => none
  | n + 1, tag, v2, v3, v4, F, A => if tag = 69 then (if v4 < v2 then (if ((en_stepOnce F A ).isSome = true) then (if (R_stepOnce F A ).1 = 0 then some (v3, (R_stepOnce F A ).2.1, (R_stepOnce F A ).2.2) else (if ((R_stepOnce F A ).2.1 3) = (1 : Int32) then lp_run n 69 v2 (v3 + (1 : Int32)) (v4 + (1 : Int32)) (R_stepOnce F A ).2.1 (R_stepOnce F A ).2.2 else some ((v3 + (1 : Int32)), (R_stepOnce F A ).2.1, (R_stepOnce F A ).2.2))) else none) else some (v3, F, A)) else none
theorem lp_run_z (tag : Nat) (v2 : Int32) (v3 : Int32) (v4 : Int32) (F : Nat → Int32) (A : Nat → Int32 → Int32) : lp_run 0 tag v2 v3 v4 F A = none := Eq.trans rfl rfl
theorem lp_run_69 (n : Nat) (v2 : Int32) (v3 : Int32) (v4 : Int32) (F : Nat → Int32) (A : Nat → Int32 → Int32) : lp_run (n + 1) 69 v2 v3 v4 F A = (if v4 < v2 then (if ((en_stepOnce F A ).isSome = true) then (if (R_stepOnce F A ).1 = 0 then some (v3, (R_stepOnce F A ).2.1, (R_stepOnce F A ).2.2) else (if ((R_stepOnce F A ).2.1 3) = (1 : Int32) then lp_run n 69 v2 (v3 + (1 : Int32)) (v4 + (1 : Int32)) (R_stepOnce F A ).2.1 (R_stepOnce F A ).2.2 else some ((v3 + (1 : Int32)), (R_stepOnce F A ).2.1, (R_stepOnce F A ).2.2))) else none) else some (v3, F, A)) := by
  rw [lp_run, if_pos rfl]
set_option maxRecDepth 65536 in
set_option maxHeartbeats 4000000 in
theorem lpw_run {l : Launch} {Z : State} {a0 : Array Value} (H : OK Z a0) (G : Nat → Int64) (B : Nat → Int32 → Int64) : ∀ (n : Nat) (v2 : Int32) (v3 : Int32) (v4 : Int32) (F : Nat → Int32) (A : Nat → Int32 → Int32) (r : Int32 × (Nat → Int32) × (Nat → Int32 → Int32)), (lp_run n 69 v2 v3 v4 F A = some r → Wk l Z (MoC Z cdC) md_run 69 [.val (.ref 0), .unset, .val (.int v2), .val (.int v3), .val (.int v4)] [] (16, F, G, A, B) 0 0 (fun v w' => v = some (.int r.1) ∧ w' = (16, r.2.1, G, r.2.2, B))) := by
  intro n
  induction n with
  | zero =>
    intro v2 v3 v4 F A r
    exact (fun h => by rw [lp_run_z] at h; cases h)
  | succ n ih =>
    intro v2 v3 v4 F A r
    refine fun h => ?_
    · rw [lp_run_69] at h
      exact wp_run_69 H F G A B v2 v3 v4 (fun q1 => (rt_run _ _ _ _ _ r (Option.some.inj (ifn q1 h)))) (fun q1 => (gd (ifp q1 h)).1) (fun q1 q4 q5 => (ih _ _ _ _ _ _) (ifp q5 (ifn q4 (gd (ifp q1 h)).2))) (fun q1 q4 q5 => (rt_run _ _ _ _ _ r (Option.some.inj (ifn q5 (ifn q4 (gd (ifp q1 h)).2))))) (fun q1 q4 => (rt_run _ _ _ _ _ r (Option.some.inj (ifp q4 (gd (ifp q1 h)).2))))
def en_run (F : Nat → Int32) (A : Nat → Int32 → Int32) (p1 : Int32) : Option (Int32 × (Nat → Int32) × (Nat → Int32 → Int32)) := (if 0 < p1 then (if (F 3) = (2 : Int32) then some ((0 : Int32), F, A) else (if (F 3) = (3 : Int32) then some ((0 : Int32), F, A) else (if (F 3) = 0 then (if ((A 2) (0 : Int32)) < 0 then some ((0 : Int32), (ups F 3 (3 : Int32)), A) else lp_run 1000 69 (if (1000 : Int32) < p1 then (1000 : Int32) else p1) (0 : Int32) (0 : Int32) (F_start F A) (A_start A)) else lp_run 1000 69 (if (1000 : Int32) < p1 then (1000 : Int32) else p1) (0 : Int32) (0 : Int32) F A))) else some ((0 : Int32), F, A))
theorem een_run (F : Nat → Int32) (A : Nat → Int32 → Int32) (p1 : Int32) : en_run F A p1 = (if 0 < p1 then (if (F 3) = (2 : Int32) then some ((0 : Int32), F, A) else (if (F 3) = (3 : Int32) then some ((0 : Int32), F, A) else (if (F 3) = 0 then (if ((A 2) (0 : Int32)) < 0 then some ((0 : Int32), (ups F 3 (3 : Int32)), A) else lp_run 1000 69 (if (1000 : Int32) < p1 then (1000 : Int32) else p1) (0 : Int32) (0 : Int32) (F_start F A) (A_start A)) else lp_run 1000 69 (if (1000 : Int32) < p1 then (1000 : Int32) else p1) (0 : Int32) (0 : Int32) F A))) else some ((0 : Int32), F, A)) := Eq.trans rfl rfl
def R_run (F : Nat → Int32) (A : Nat → Int32 → Int32) (p1 : Int32) : Int32 × (Nat → Int32) × (Nat → Int32 → Int32) := (en_run F A p1).getD (0, (fun _ => 0), (fun _ _ => 0))
theorem eR_run (F : Nat → Int32) (A : Nat → Int32 → Int32) (p1 : Int32) : R_run F A p1 = (en_run F A p1).getD (0, (fun _ => 0), (fun _ _ => 0)) := Eq.trans rfl rfl
set_option maxRecDepth 65536 in
set_option maxHeartbeats 4000000 in
theorem run_run {l : Launch} {Z : State} {a0 : Array Value} (H : OK Z a0) (F : Nat → Int32) (G : Nat → Int64) (A : Nat → Int32 → Int32) (B : Nat → Int32 → Int64) (p1 : Int32) (e1 : (en_run F A p1).isSome = true) :
    Wk l Z (MoC Z cdC) md_run 0 [.val (.ref 0), .val (.int p1), .unset, .unset, .unset] [] (16, F, G, A, B) 0 0 (fun v w' => v = some (.int (R_run F A p1).1) ∧ w' = (16, (R_run F A p1).2.1, G, (R_run F A p1).2.2, B)) := by
  obtain ⟨r, h⟩ := Option.isSome_iff_exists.mp e1
  have e : R_run F A p1 = r := (eR_run F A p1).trans (getD_some h)
  rw [e]
  rw [een_run] at h
  exact wp_run H F G A B p1 (fun q1 => (rt_run _ _ _ _ _ r (Option.some.inj (ifn q1 h)))) (fun q1 q3 => (rt_run _ _ _ _ _ r (Option.some.inj (ifp q3 (ifp q1 h))))) (fun q1 q3 q5 q8 => (lpw_run H G B _ _ _ _ _ _ _) (ifn q8 (ifn q5 (ifn q3 (ifp q1 h))))) (fun q1 q3 q5 q8 q10 => (lpw_run H G B _ _ _ _ _ _ _) (ifn q10 (ifp q8 (ifn q5 (ifn q3 (ifp q1 h)))))) (fun q1 q3 q5 q8 q10 => (rt_run _ _ _ _ _ r (Option.some.inj (ifp q10 (ifp q8 (ifn q5 (ifn q3 (ifp q1 h)))))))) (fun q1 q3 q5 => (rt_run _ _ _ _ _ r (Option.some.inj (ifp q5 (ifn q3 (ifp q1 h))))))
set_option maxRecDepth 65536 in
set_option maxHeartbeats 4000000 in
theorem wp_info {l : Launch} {Z : State} {a0 : Array Value} (H : OK Z a0) (F : Nat → Int32) (G : Nat → Int64) (A : Nat → Int32 → Int32) (B : Nat → Int32 → Int64) (p1 : Int32) {Q : Option Value → WO → Prop} (h2 : p1 = (0 : Int32) → Q (some (.int (F 3))) (16, F, G, A, B)) (h4 : ¬ p1 = (0 : Int32) → p1 = (1 : Int32) → Q (some (.int (F 8))) (16, F, G, A, B)) (h6 : ¬ p1 = (0 : Int32) → ¬ p1 = (1 : Int32) → p1 = (2 : Int32) → Q (some (.int (F 12))) (16, F, G, A, B)) (h8 : ¬ p1 = (0 : Int32) → ¬ p1 = (1 : Int32) → ¬ p1 = (2 : Int32) → p1 = (3 : Int32) → Q (some (.int (F 9))) (16, F, G, A, B)) (s10 : ¬ p1 = (0 : Int32) → ¬ p1 = (1 : Int32) → ¬ p1 = (2 : Int32) → ¬ p1 = (3 : Int32) → p1 = (4 : Int32) → ¬ (F 1) = (0 : Int32)) (h11 : ¬ p1 = (0 : Int32) → ¬ p1 = (1 : Int32) → ¬ p1 = (2 : Int32) → ¬ p1 = (3 : Int32) → p1 = (4 : Int32) → Q (some (.int ((F 8) / (F 1)))) (16, F, G, A, B)) (h13 : ¬ p1 = (0 : Int32) → ¬ p1 = (1 : Int32) → ¬ p1 = (2 : Int32) → ¬ p1 = (3 : Int32) → ¬ p1 = (4 : Int32) → p1 = (5 : Int32) → Q (some (.int (F 13))) (16, F, G, A, B)) (h15 : ¬ p1 = (0 : Int32) → ¬ p1 = (1 : Int32) → ¬ p1 = (2 : Int32) → ¬ p1 = (3 : Int32) → ¬ p1 = (4 : Int32) → ¬ p1 = (5 : Int32) → p1 = (6 : Int32) → Q (some (.int (F 10))) (16, F, G, A, B)) (h17 : ¬ p1 = (0 : Int32) → ¬ p1 = (1 : Int32) → ¬ p1 = (2 : Int32) → ¬ p1 = (3 : Int32) → ¬ p1 = (4 : Int32) → ¬ p1 = (5 : Int32) → ¬ p1 = (6 : Int32) → p1 = (7 : Int32) → Q (some (.int (F 7))) (16, F, G, A, B)) (h19 : ¬ p1 = (0 : Int32) → ¬ p1 = (1 : Int32) → ¬ p1 = (2 : Int32) → ¬ p1 = (3 : Int32) → ¬ p1 = (4 : Int32) → ¬ p1 = (5 : Int32) → ¬ p1 = (6 : Int32) → ¬ p1 = (7 : Int32) → p1 = (8 : Int32) → Q (some (.int (F 5))) (16, F, G, A, B)) (h21 : ¬ p1 = (0 : Int32) → ¬ p1 = (1 : Int32) → ¬ p1 = (2 : Int32) → ¬ p1 = (3 : Int32) → ¬ p1 = (4 : Int32) → ¬ p1 = (5 : Int32) → ¬ p1 = (6 : Int32) → ¬ p1 = (7 : Int32) → ¬ p1 = (8 : Int32) → p1 = (9 : Int32) → Q (some (.int (F 6))) (16, F, G, A, B)) (s24 : ¬ p1 = (0 : Int32) → ¬ p1 = (1 : Int32) → ¬ p1 = (2 : Int32) → ¬ p1 = (3 : Int32) → ¬ p1 = (4 : Int32) → ¬ p1 = (5 : Int32) → ¬ p1 = (6 : Int32) → ¬ p1 = (7 : Int32) → ¬ p1 = (8 : Int32) → ¬ p1 = (9 : Int32) → p1 = (10 : Int32) → 0 < (F 6) → ¬ ((F 6) - (1 : Int32)) < 0) (s25 : ¬ p1 = (0 : Int32) → ¬ p1 = (1 : Int32) → ¬ p1 = (2 : Int32) → ¬ p1 = (3 : Int32) → ¬ p1 = (4 : Int32) → ¬ p1 = (5 : Int32) → ¬ p1 = (6 : Int32) → ¬ p1 = (7 : Int32) → ¬ p1 = (8 : Int32) → ¬ p1 = (9 : Int32) → p1 = (10 : Int32) → 0 < (F 6) → ((F 6) - (1 : Int32)) < (16 : Int32)) (h27 : ¬ p1 = (0 : Int32) → ¬ p1 = (1 : Int32) → ¬ p1 = (2 : Int32) → ¬ p1 = (3 : Int32) → ¬ p1 = (4 : Int32) → ¬ p1 = (5 : Int32) → ¬ p1 = (6 : Int32) → ¬ p1 = (7 : Int32) → ¬ p1 = (8 : Int32) → ¬ p1 = (9 : Int32) → p1 = (10 : Int32) → Q (some (.int (if 0 < (F 6) then ((A 3) ((F 6) - (1 : Int32))) else (0 : Int32)))) (16, F, G, A, B)) (h29 : ¬ p1 = (0 : Int32) → ¬ p1 = (1 : Int32) → ¬ p1 = (2 : Int32) → ¬ p1 = (3 : Int32) → ¬ p1 = (4 : Int32) → ¬ p1 = (5 : Int32) → ¬ p1 = (6 : Int32) → ¬ p1 = (7 : Int32) → ¬ p1 = (8 : Int32) → ¬ p1 = (9 : Int32) → ¬ p1 = (10 : Int32) → p1 = (11 : Int32) → Q (some (.int (F 4))) (16, F, G, A, B)) (h31 : ¬ p1 = (0 : Int32) → ¬ p1 = (1 : Int32) → ¬ p1 = (2 : Int32) → ¬ p1 = (3 : Int32) → ¬ p1 = (4 : Int32) → ¬ p1 = (5 : Int32) → ¬ p1 = (6 : Int32) → ¬ p1 = (7 : Int32) → ¬ p1 = (8 : Int32) → ¬ p1 = (9 : Int32) → ¬ p1 = (10 : Int32) → ¬ p1 = (11 : Int32) → p1 = (12 : Int32) → Q (some (.int (F 11))) (16, F, G, A, B)) (h32 : ¬ p1 = (0 : Int32) → ¬ p1 = (1 : Int32) → ¬ p1 = (2 : Int32) → ¬ p1 = (3 : Int32) → ¬ p1 = (4 : Int32) → ¬ p1 = (5 : Int32) → ¬ p1 = (6 : Int32) → ¬ p1 = (7 : Int32) → ¬ p1 = (8 : Int32) → ¬ p1 = (9 : Int32) → ¬ p1 = (10 : Int32) → ¬ p1 = (11 : Int32) → ¬ p1 = (12 : Int32) → Q (some (.int (0 : Int32))) (16, F, G, A, B)) :
    Wk l Z (MoC Z cdC) md_info 0 [.val (.ref 0), .val (.int p1)] [] (16, F, G, A, B) 0 0 Q := by
  refine Wk.iloadN o_info_0 rfl ?_
  by_cases q1 : p1 = (0 : Int32)
  · refine Wk.tswIn o_info_1_0 q1 (by decide) (by decide) ?_
    refine Wk.aloadN o_info_68 rfl ?_
    refine Wk.getI (mI_status) (wf_status H) o_info_69 (x := (F 3)) rfl ?_
    exact Wk.ireturn mrC rfl o_info_72 rfl (by decide) (by decide) (h2 q1)
  · by_cases q3 : p1 = (1 : Int32)
    · refine Wk.tswIn o_info_1_1 q3 (by decide) (by decide) ?_
      refine Wk.aloadN o_info_73 rfl ?_
      refine Wk.getI (mI_executed) (wf_executed H) o_info_74 (x := (F 8)) rfl ?_
      exact Wk.ireturn mrC rfl o_info_77 rfl (by decide) (by decide) (h4 q1 q3)
    · by_cases q5 : p1 = (2 : Int32)
      · refine Wk.tswIn o_info_1_2 q5 (by decide) (by decide) ?_
        refine Wk.aloadN o_info_78 rfl ?_
        refine Wk.getI (mI_iCount) (wf_iCount H) o_info_79 (x := (F 12)) rfl ?_
        exact Wk.ireturn mrC rfl o_info_82 rfl (by decide) (by decide) (h6 q1 q3 q5)
      · by_cases q7 : p1 = (3 : Int32)
        · refine Wk.tswIn o_info_1_3 q7 (by decide) (by decide) ?_
          refine Wk.aloadN o_info_83 rfl ?_
          refine Wk.getI (mI_overflow) (wf_overflow H) o_info_84 (x := (F 9)) rfl ?_
          exact Wk.ireturn mrC rfl o_info_87 rfl (by decide) (by decide) (h8 q1 q3 q5 q7)
        · by_cases q9 : p1 = (4 : Int32)
          · refine Wk.tswIn o_info_1_4 q9 (by decide) (by decide) ?_
            refine Wk.aloadN o_info_88 rfl ?_
            refine Wk.getI (mI_executed) (wf_executed H) o_info_89 (x := (F 8)) rfl ?_
            refine Wk.aloadN o_info_92 rfl ?_
            refine Wk.getI (mI_period) (wf_period H) o_info_93 (x := (F 1)) rfl ?_
            refine Wk.idiv o_info_96 (s10 q1 q3 q5 q7 q9) ?_
            exact Wk.ireturn mrC rfl o_info_97 rfl (by decide) (by decide) (h11 q1 q3 q5 q7 q9)
          · by_cases q12 : p1 = (5 : Int32)
            · refine Wk.tswIn o_info_1_5 q12 (by decide) (by decide) ?_
              refine Wk.aloadN o_info_98 rfl ?_
              refine Wk.getI (mI_sCount) (wf_sCount H) o_info_99 (x := (F 13)) rfl ?_
              exact Wk.ireturn mrC rfl o_info_102 rfl (by decide) (by decide) (h13 q1 q3 q5 q7 q9 q12)
            · by_cases q14 : p1 = (6 : Int32)
              · refine Wk.tswIn o_info_1_6 q14 (by decide) (by decide) ?_
                refine Wk.aloadN o_info_103 rfl ?_
                refine Wk.getI (mI_sampledOverflow) (wf_sampledOverflow H) o_info_104 (x := (F 10)) rfl ?_
                exact Wk.ireturn mrC rfl o_info_107 rfl (by decide) (by decide) (h15 q1 q3 q5 q7 q9 q12 q14)
              · by_cases q16 : p1 = (7 : Int32)
                · refine Wk.tswIn o_info_1_7 q16 (by decide) (by decide) ?_
                  refine Wk.aloadN o_info_108 rfl ?_
                  refine Wk.getI (mI_depth) (wf_depth H) o_info_109 (x := (F 7)) rfl ?_
                  exact Wk.ireturn mrC rfl o_info_112 rfl (by decide) (by decide) (h17 q1 q3 q5 q7 q9 q12 q14 q16)
                · by_cases q18 : p1 = (8 : Int32)
                  · refine Wk.tswIn o_info_1_8 q18 (by decide) (by decide) ?_
                    refine Wk.aloadN o_info_113 rfl ?_
                    refine Wk.getI (mI_pc) (wf_pc H) o_info_114 (x := (F 5)) rfl ?_
                    exact Wk.ireturn mrC rfl o_info_117 rfl (by decide) (by decide) (h19 q1 q3 q5 q7 q9 q12 q14 q16 q18)
                  · by_cases q20 : p1 = (9 : Int32)
                    · refine Wk.tswIn o_info_1_9 q20 (by decide) (by decide) ?_
                      refine Wk.aloadN o_info_118 rfl ?_
                      refine Wk.getI (mI_sp) (wf_sp H) o_info_119 (x := (F 6)) rfl ?_
                      exact Wk.ireturn mrC rfl o_info_122 rfl (by decide) (by decide) (h21 q1 q3 q5 q7 q9 q12 q14 q16 q18 q20)
                    · by_cases q22 : p1 = (10 : Int32)
                      · refine Wk.tswIn o_info_1_10 q22 (by decide) (by decide) ?_
                        refine Wk.aloadN o_info_123 rfl ?_
                        refine Wk.getI (mI_sp) (wf_sp H) o_info_124 (x := (F 6)) rfl ?_
                        have J26 : Wk l Z (MoC Z cdC) md_info 145 [.val (.ref 0), .val (.int p1)] [.int (if 0 < (F 6) then ((A 3) ((F 6) - (1 : Int32))) else (0 : Int32))] (16, F, G, A, B) 0 0 Q := by
                          exact Wk.ireturn mrC rfl o_info_145 rfl (by decide) (by decide) (h27 q1 q3 q5 q7 q9 q12 q14 q16 q18 q20 q22)
                        refine Wk.if_le o_info_127 (fun q23 => ?_) (fun q23 => ?_)
                        · refine Wk.iconst o_info_144 (z := (0 : Int32)) (by decide) ?_
                          first | (rw [show ((if 0 < (F 6) then ((A 3) ((F 6) - (1 : Int32))) else (0 : Int32)) : Int32) = (0 : Int32) from if_neg q23] at J26; exact J26) | exact J26 | (simp only [if_neg q23] at J26 ⊢; exact J26)
                        · refine Wk.aloadN o_info_130 rfl ?_
                          refine Wk.getA (mA_stack) (by decide) (i' := 4) rfl (wf_stack H) o_info_131 ?_
                          refine Wk.aloadN o_info_134 rfl ?_
                          refine Wk.getI (mI_sp) (wf_sp H) o_info_135 (x := (F 6)) rfl ?_
                          refine Wk.iconst o_info_138 (z := (1 : Int32)) (by decide) ?_
                          refine Wk.isub o_info_139 ?_
                          refine Wk.iaload (mA_stack) (by decide) (i' := 4) rfl (s24 q1 q3 q5 q7 q9 q12 q14 q16 q18 q20 q22 q23) (s25 q1 q3 q5 q7 q9 q12 q14 q16 q18 q20 q22 q23) o_info_140 (y := ((A 3) ((F 6) - (1 : Int32)))) rfl ?_
                          refine Wk.goto o_info_141 ?_
                          first | (rw [show ((if 0 < (F 6) then ((A 3) ((F 6) - (1 : Int32))) else (0 : Int32)) : Int32) = ((A 3) ((F 6) - (1 : Int32))) from if_pos q23] at J26; exact J26) | exact J26 | (simp only [if_pos q23] at J26 ⊢; exact J26)
                      · by_cases q28 : p1 = (11 : Int32)
                        · refine Wk.tswIn o_info_1_11 q28 (by decide) (by decide) ?_
                          refine Wk.aloadN o_info_146 rfl ?_
                          refine Wk.getI (mI_codeSize) (wf_codeSize H) o_info_147 (x := (F 4)) rfl ?_
                          exact Wk.ireturn mrC rfl o_info_150 rfl (by decide) (by decide) (h29 q1 q3 q5 q7 q9 q12 q14 q16 q18 q20 q22 q28)
                        · by_cases q30 : p1 = (12 : Int32)
                          · refine Wk.tswIn o_info_1_12 q30 (by decide) (by decide) ?_
                            refine Wk.aloadN o_info_151 rfl ?_
                            refine Wk.getI (mI_qLen) (wf_qLen H) o_info_152 (x := (F 11)) rfl ?_
                            exact Wk.ireturn mrC rfl o_info_155 rfl (by decide) (by decide) (h31 q1 q3 q5 q7 q9 q12 q14 q16 q18 q20 q22 q28 q30)
                          · refine Wk.tswOut o_info_1_d (by have a0 : Int32.toInt p1 ≠ 0 := ne_toInt q1; have a1 : Int32.toInt p1 ≠ 1 := ne_toInt q3; have a2 : Int32.toInt p1 ≠ 2 := ne_toInt q5; have a3 : Int32.toInt p1 ≠ 3 := ne_toInt q7; have a4 : Int32.toInt p1 ≠ 4 := ne_toInt q9; have a5 : Int32.toInt p1 ≠ 5 := ne_toInt q12; have a6 : Int32.toInt p1 ≠ 6 := ne_toInt q14; have a7 : Int32.toInt p1 ≠ 7 := ne_toInt q16; have a8 : Int32.toInt p1 ≠ 8 := ne_toInt q18; have a9 : Int32.toInt p1 ≠ 9 := ne_toInt q20; have a10 : Int32.toInt p1 ≠ 10 := ne_toInt q22; have a11 : Int32.toInt p1 ≠ 11 := ne_toInt q28; have a12 : Int32.toInt p1 ≠ 12 := ne_toInt q30; omega) ?_
                            refine Wk.iconst o_info_156 (z := (0 : Int32)) (by decide) ?_
                            exact Wk.ireturn mrC rfl o_info_157 rfl (by decide) (by decide) (h32 q1 q3 q5 q7 q9 q12 q14 q16 q18 q20 q22 q28 q30)

theorem rt_info (F : Nat → Int32) (G : Nat → Int64) (A : Nat → Int32 → Int32) (B : Nat → Int32 → Int64) (v0 : Int32) (r : Int32) (e : v0 = r) : some (Value.int v0) = some (.int r) ∧ (16, F, G, A, B) = (16, F, G, A, B) := by subst e; exact ⟨rfl, rfl⟩
def en_info (F : Nat → Int32) (A : Nat → Int32 → Int32) (p1 : Int32) : Option (Int32) := (if p1 = (0 : Int32) then some ((F 3)) else (if p1 = (1 : Int32) then some ((F 8)) else (if p1 = (2 : Int32) then some ((F 12)) else (if p1 = (3 : Int32) then some ((F 9)) else (if p1 = (4 : Int32) then (if (¬ (F 1) = (0 : Int32)) then some (((F 8) / (F 1))) else none) else (if p1 = (5 : Int32) then some ((F 13)) else (if p1 = (6 : Int32) then some ((F 10)) else (if p1 = (7 : Int32) then some ((F 7)) else (if p1 = (8 : Int32) then some ((F 5)) else (if p1 = (9 : Int32) then some ((F 6)) else (if p1 = (10 : Int32) then (if (0 < (F 6) → ¬ ((F 6) - (1 : Int32)) < 0) ∧ (0 < (F 6) → ((F 6) - (1 : Int32)) < (16 : Int32)) then some ((if 0 < (F 6) then ((A 3) ((F 6) - (1 : Int32))) else (0 : Int32))) else none) else (if p1 = (11 : Int32) then some ((F 4)) else (if p1 = (12 : Int32) then some ((F 11)) else some ((0 : Int32)))))))))))))))
theorem een_info (F : Nat → Int32) (A : Nat → Int32 → Int32) (p1 : Int32) : en_info F A p1 = (if p1 = (0 : Int32) then some ((F 3)) else (if p1 = (1 : Int32) then some ((F 8)) else (if p1 = (2 : Int32) then some ((F 12)) else (if p1 = (3 : Int32) then some ((F 9)) else (if p1 = (4 : Int32) then (if (¬ (F 1) = (0 : Int32)) then some (((F 8) / (F 1))) else none) else (if p1 = (5 : Int32) then some ((F 13)) else (if p1 = (6 : Int32) then some ((F 10)) else (if p1 = (7 : Int32) then some ((F 7)) else (if p1 = (8 : Int32) then some ((F 5)) else (if p1 = (9 : Int32) then some ((F 6)) else (if p1 = (10 : Int32) then (if (0 < (F 6) → ¬ ((F 6) - (1 : Int32)) < 0) ∧ (0 < (F 6) → ((F 6) - (1 : Int32)) < (16 : Int32)) then some ((if 0 < (F 6) then ((A 3) ((F 6) - (1 : Int32))) else (0 : Int32))) else none) else (if p1 = (11 : Int32) then some ((F 4)) else (if p1 = (12 : Int32) then some ((F 11)) else some ((0 : Int32))))))))))))))) := Eq.trans rfl rfl
def R_info (F : Nat → Int32) (A : Nat → Int32 → Int32) (p1 : Int32) : Int32 := (en_info F A p1).getD (0)
theorem eR_info (F : Nat → Int32) (A : Nat → Int32 → Int32) (p1 : Int32) : R_info F A p1 = (en_info F A p1).getD (0) := Eq.trans rfl rfl
set_option maxRecDepth 65536 in
set_option maxHeartbeats 4000000 in
theorem run_info {l : Launch} {Z : State} {a0 : Array Value} (H : OK Z a0) (F : Nat → Int32) (G : Nat → Int64) (A : Nat → Int32 → Int32) (B : Nat → Int32 → Int64) (p1 : Int32) (e1 : (en_info F A p1).isSome = true) :
    Wk l Z (MoC Z cdC) md_info 0 [.val (.ref 0), .val (.int p1)] [] (16, F, G, A, B) 0 0 (fun v w' => v = some (.int (R_info F A p1)) ∧ w' = (16, F, G, A, B)) := by
  obtain ⟨r, h⟩ := Option.isSome_iff_exists.mp e1
  have e : R_info F A p1 = r := (eR_info F A p1).trans (getD_some h)
  rw [e]
  rw [een_info] at h
  exact wp_info H F G A B p1 (fun q1 => (rt_info _ _ _ _ _ r (Option.some.inj (ifp q1 h)))) (fun q1 q3 => (rt_info _ _ _ _ _ r (Option.some.inj (ifp q3 (ifn q1 h))))) (fun q1 q3 q5 => (rt_info _ _ _ _ _ r (Option.some.inj (ifp q5 (ifn q3 (ifn q1 h)))))) (fun q1 q3 q5 q7 => (rt_info _ _ _ _ _ r (Option.some.inj (ifp q7 (ifn q5 (ifn q3 (ifn q1 h))))))) (fun q1 q3 q5 q7 q9 => (gd (ifp q9 (ifn q7 (ifn q5 (ifn q3 (ifn q1 h)))))).1) (fun q1 q3 q5 q7 q9 => (rt_info _ _ _ _ _ r (Option.some.inj (gd (ifp q9 (ifn q7 (ifn q5 (ifn q3 (ifn q1 h)))))).2))) (fun q1 q3 q5 q7 q9 q12 => (rt_info _ _ _ _ _ r (Option.some.inj (ifp q12 (ifn q9 (ifn q7 (ifn q5 (ifn q3 (ifn q1 h))))))))) (fun q1 q3 q5 q7 q9 q12 q14 => (rt_info _ _ _ _ _ r (Option.some.inj (ifp q14 (ifn q12 (ifn q9 (ifn q7 (ifn q5 (ifn q3 (ifn q1 h)))))))))) (fun q1 q3 q5 q7 q9 q12 q14 q16 => (rt_info _ _ _ _ _ r (Option.some.inj (ifp q16 (ifn q14 (ifn q12 (ifn q9 (ifn q7 (ifn q5 (ifn q3 (ifn q1 h))))))))))) (fun q1 q3 q5 q7 q9 q12 q14 q16 q18 => (rt_info _ _ _ _ _ r (Option.some.inj (ifp q18 (ifn q16 (ifn q14 (ifn q12 (ifn q9 (ifn q7 (ifn q5 (ifn q3 (ifn q1 h)))))))))))) (fun q1 q3 q5 q7 q9 q12 q14 q16 q18 q20 => (rt_info _ _ _ _ _ r (Option.some.inj (ifp q20 (ifn q18 (ifn q16 (ifn q14 (ifn q12 (ifn q9 (ifn q7 (ifn q5 (ifn q3 (ifn q1 h))))))))))))) (fun q1 q3 q5 q7 q9 q12 q14 q16 q18 q20 q22 q23 => ((gd (ifp q22 (ifn q20 (ifn q18 (ifn q16 (ifn q14 (ifn q12 (ifn q9 (ifn q7 (ifn q5 (ifn q3 (ifn q1 h)))))))))))).1.1) q23) (fun q1 q3 q5 q7 q9 q12 q14 q16 q18 q20 q22 q23 => ((gd (ifp q22 (ifn q20 (ifn q18 (ifn q16 (ifn q14 (ifn q12 (ifn q9 (ifn q7 (ifn q5 (ifn q3 (ifn q1 h)))))))))))).1.2) q23) (fun q1 q3 q5 q7 q9 q12 q14 q16 q18 q20 q22 => (rt_info _ _ _ _ _ r (Option.some.inj (gd (ifp q22 (ifn q20 (ifn q18 (ifn q16 (ifn q14 (ifn q12 (ifn q9 (ifn q7 (ifn q5 (ifn q3 (ifn q1 h)))))))))))).2))) (fun q1 q3 q5 q7 q9 q12 q14 q16 q18 q20 q22 q28 => (rt_info _ _ _ _ _ r (Option.some.inj (ifp q28 (ifn q22 (ifn q20 (ifn q18 (ifn q16 (ifn q14 (ifn q12 (ifn q9 (ifn q7 (ifn q5 (ifn q3 (ifn q1 h))))))))))))))) (fun q1 q3 q5 q7 q9 q12 q14 q16 q18 q20 q22 q28 q30 => (rt_info _ _ _ _ _ r (Option.some.inj (ifp q30 (ifn q28 (ifn q22 (ifn q20 (ifn q18 (ifn q16 (ifn q14 (ifn q12 (ifn q9 (ifn q7 (ifn q5 (ifn q3 (ifn q1 h)))))))))))))))) (fun q1 q3 q5 q7 q9 q12 q14 q16 q18 q20 q22 q28 q30 => (rt_info _ _ _ _ _ r (Option.some.inj (ifn q30 (ifn q28 (ifn q22 (ifn q20 (ifn q18 (ifn q16 (ifn q14 (ifn q12 (ifn q9 (ifn q7 (ifn q5 (ifn q3 (ifn q1 h))))))))))))))))
set_option maxRecDepth 65536 in
set_option maxHeartbeats 4000000 in
theorem wp_frameFunction {l : Launch} {Z : State} {a0 : Array Value} (H : OK Z a0) (F : Nat → Int32) (G : Nat → Int64) (A : Nat → Int32 → Int32) (B : Nat → Int32 → Int64) (p1 : Int32) {Q : Option Value → WO → Prop} (h2 : p1 < 0 → Q (some (.int (-1 : Int32))) (16, F, G, A, B)) (h4 : ¬ p1 < 0 → ¬ p1 < (F 7) → Q (some (.int (-1 : Int32))) (16, F, G, A, B)) (h6 : ¬ p1 < 0 → p1 < (F 7) → p1 < (16 : Int32) → Q (some (.int ((A 4) p1))) (16, F, G, A, B)) (h7 : ¬ p1 < 0 → p1 < (F 7) → ¬ p1 < (16 : Int32) → Q (some (.int (-1 : Int32))) (16, F, G, A, B)) :
    Wk l Z (MoC Z cdC) md_frameFunction 0 [.val (.ref 0), .val (.int p1)] [] (16, F, G, A, B) 0 0 Q := by
  refine Wk.iloadN o_frameFunction_0 rfl ?_
  refine Wk.if_lt o_frameFunction_1 (fun q1 => ?_) (fun q1 => ?_)
  · refine Wk.iconst o_frameFunction_18 (z := (-1 : Int32)) (by decide) ?_
    exact Wk.ireturn mrC rfl o_frameFunction_19 rfl (by decide) (by decide) (h2 q1)
  · refine Wk.iloadN o_frameFunction_4 rfl ?_
    refine Wk.aloadN o_frameFunction_5 rfl ?_
    refine Wk.getI (mI_depth) (wf_depth H) o_frameFunction_6 (x := (F 7)) rfl ?_
    refine Wk.icmp_ge o_frameFunction_9 (fun q3 => ?_) (fun q3 => ?_)
    · refine Wk.iconst o_frameFunction_18 (z := (-1 : Int32)) (by decide) ?_
      exact Wk.ireturn mrC rfl o_frameFunction_19 rfl (by decide) (by decide) (h4 q1 q3)
    · refine Wk.iloadN o_frameFunction_12 rfl ?_
      refine Wk.bipush o_frameFunction_13 (z := (16 : Int32)) (by decide) ?_
      refine Wk.icmp_lt o_frameFunction_15 (fun q5 => ?_) (fun q5 => ?_)
      · refine Wk.aloadN o_frameFunction_20 rfl ?_
        refine Wk.getA (mA_frameFunc) (by decide) (i' := 5) rfl (wf_frameFunc H) o_frameFunction_21 ?_
        refine Wk.iloadN o_frameFunction_24 rfl ?_
        refine Wk.iaload (mA_frameFunc) (by decide) (i' := 5) rfl q1 q5 o_frameFunction_25 (y := ((A 4) p1)) rfl ?_
        exact Wk.ireturn mrC rfl o_frameFunction_26 rfl (by decide) (by decide) (h6 q1 q3 q5)
      · refine Wk.iconst o_frameFunction_18 (z := (-1 : Int32)) (by decide) ?_
        exact Wk.ireturn mrC rfl o_frameFunction_19 rfl (by decide) (by decide) (h7 q1 q3 q5)

def f_frameFunction (F : Nat → Int32) (A : Nat → Int32 → Int32) (p1 : Int32) : Int32 := (if p1 < 0 then (-1 : Int32) else (if p1 < (F 7) then (if p1 < (16 : Int32) then ((A 4) p1) else (-1 : Int32)) else (-1 : Int32)))
theorem e_frameFunction (F : Nat → Int32) (A : Nat → Int32 → Int32) (p1 : Int32) : f_frameFunction F A p1 = (if p1 < 0 then (-1 : Int32) else (if p1 < (F 7) then (if p1 < (16 : Int32) then ((A 4) p1) else (-1 : Int32)) else (-1 : Int32))) := Eq.trans rfl rfl
theorem run_frameFunction {l : Launch} {Z : State} {a0 : Array Value} (H : OK Z a0) (F : Nat → Int32) (G : Nat → Int64) (A : Nat → Int32 → Int32) (B : Nat → Int32 → Int64) (p1 : Int32) :
    Wk l Z (MoC Z cdC) md_frameFunction 0 [.val (.ref 0), .val (.int p1)] [] (16, F, G, A, B) 0 0 (fun v w' => v = some (.int (f_frameFunction F A p1)) ∧ w' = (16, F, G, A, B)) :=
  wp_frameFunction H F G A B p1 (fun q1 => ⟨by simp only [e_frameFunction, if_pos q1], rfl⟩) (fun q1 q3 => ⟨by simp only [e_frameFunction, if_neg q1, if_neg q3], rfl⟩) (fun q1 q3 q5 => ⟨by simp only [e_frameFunction, if_neg q1, if_pos q3, if_pos q5], rfl⟩) (fun q1 q3 q5 => ⟨by simp only [e_frameFunction, if_neg q1, if_pos q3, if_neg q5], rfl⟩)
set_option maxRecDepth 65536 in
set_option maxHeartbeats 4000000 in
theorem wp_pushQuery {l : Launch} {Z : State} {a0 : Array Value} (H : OK Z a0) (F : Nat → Int32) (G : Nat → Int64) (A : Nat → Int32 → Int32) (B : Nat → Int32 → Int64) (p1 : Int32) {Q : Option Value → WO → Prop} (h2 : p1 < 0 → Q (some (.int (0 : Int32))) (16, F, G, A, B)) (h4 : ¬ p1 < 0 → (7 : Int32) < p1 → Q (some (.int (0 : Int32))) (16, F, G, A, B)) (s6 : ¬ p1 < 0 → ¬ (7 : Int32) < p1 → (F 11) < (16 : Int32) → ¬ (F 11) < 0) (h7 : ¬ p1 < 0 → ¬ (7 : Int32) < p1 → (F 11) < (16 : Int32) → Q (some (.int (1 : Int32))) (16, (ups F 11 ((F 11) + (1 : Int32))), G, (ups A 15 (ups (A 15) (F 11) p1)), B)) (h8 : ¬ p1 < 0 → ¬ (7 : Int32) < p1 → ¬ (F 11) < (16 : Int32) → Q (some (.int (0 : Int32))) (16, F, G, A, B)) :
    Wk l Z (MoC Z cdC) md_pushQuery 0 [.val (.ref 0), .val (.int p1)] [] (16, F, G, A, B) 0 0 Q := by
  refine Wk.iloadN o_pushQuery_0 rfl ?_
  refine Wk.if_lt o_pushQuery_1 (fun q1 => ?_) (fun q1 => ?_)
  · refine Wk.iconst o_pushQuery_19 (z := (0 : Int32)) (by decide) ?_
    exact Wk.zreturn mrC rfl o_pushQuery_20 rfl (by decide) (by decide) (y := (0 : Int32)) (by decide) (h2 q1)
  · refine Wk.iloadN o_pushQuery_4 rfl ?_
    refine Wk.bipush o_pushQuery_5 (z := (7 : Int32)) (by decide) ?_
    refine Wk.icmp_gt o_pushQuery_7 (fun q3 => ?_) (fun q3 => ?_)
    · refine Wk.iconst o_pushQuery_19 (z := (0 : Int32)) (by decide) ?_
      exact Wk.zreturn mrC rfl o_pushQuery_20 rfl (by decide) (by decide) (y := (0 : Int32)) (by decide) (h4 q1 q3)
    · refine Wk.aloadN o_pushQuery_10 rfl ?_
      refine Wk.getI (mI_qLen) (wf_qLen H) o_pushQuery_11 (x := (F 11)) rfl ?_
      refine Wk.bipush o_pushQuery_14 (z := (16 : Int32)) (by decide) ?_
      refine Wk.icmp_lt o_pushQuery_16 (fun q5 => ?_) (fun q5 => ?_)
      · refine Wk.aloadN o_pushQuery_21 rfl ?_
        refine Wk.getA (mA_query) (by decide) (i' := 16) rfl (wf_query H) o_pushQuery_22 ?_
        refine Wk.aloadN o_pushQuery_25 rfl ?_
        refine Wk.getI (mI_qLen) (wf_qLen H) o_pushQuery_26 (x := (F 11)) rfl ?_
        refine Wk.iloadN o_pushQuery_29 rfl ?_
        refine Wk.iastore (coC H) (f := (A 15)) (mA_query) rfl (by decide) (i' := 16) rfl (s6 q1 q3 q5) q5 o_pushQuery_30 ?_
        refine Wk.aloadN o_pushQuery_31 rfl ?_
        refine Wk.dup o_pushQuery_32 rfl ?_
        refine Wk.getI (mI_qLen) (wf_qLen H) o_pushQuery_33 (x := (F 11)) rfl ?_
        refine Wk.iconst o_pushQuery_36 (z := (1 : Int32)) (by decide) ?_
        refine Wk.iadd o_pushQuery_37 ?_
        refine Wk.putI (coC H) (mI_qLen) (wf_qLen H) (Or.inl (wy_qLen H)) o_pushQuery_38 ?_
        refine Wk.iconst o_pushQuery_41 (z := (1 : Int32)) (by decide) ?_
        exact Wk.zreturn mrC rfl o_pushQuery_42 rfl (by decide) (by decide) (y := (1 : Int32)) (by decide) (h7 q1 q3 q5)
      · refine Wk.iconst o_pushQuery_19 (z := (0 : Int32)) (by decide) ?_
        exact Wk.zreturn mrC rfl o_pushQuery_20 rfl (by decide) (by decide) (y := (0 : Int32)) (by decide) (h8 q1 q3 q5)

theorem rt_pushQuery (G : Nat → Int64) (B : Nat → Int32 → Int64) (v0 : Int32) (xF : Nat → Int32) (xA : Nat → Int32 → Int32) (r : Int32 × (Nat → Int32) × (Nat → Int32 → Int32)) (e : (v0, xF, xA) = r) : some (Value.int v0) = some (.int r.1) ∧ (16, xF, G, xA, B) = (16, r.2.1, G, r.2.2, B) := by subst e; exact ⟨rfl, rfl⟩
def en_pushQuery (F : Nat → Int32) (A : Nat → Int32 → Int32) (p1 : Int32) : Option (Int32 × (Nat → Int32) × (Nat → Int32 → Int32)) := (if p1 < 0 then some ((0 : Int32), F, A) else (if (7 : Int32) < p1 then some ((0 : Int32), F, A) else (if (F 11) < (16 : Int32) then (if (¬ (F 11) < 0) then some ((1 : Int32), (ups F 11 ((F 11) + (1 : Int32))), (ups A 15 (ups (A 15) (F 11) p1))) else none) else some ((0 : Int32), F, A))))
theorem een_pushQuery (F : Nat → Int32) (A : Nat → Int32 → Int32) (p1 : Int32) : en_pushQuery F A p1 = (if p1 < 0 then some ((0 : Int32), F, A) else (if (7 : Int32) < p1 then some ((0 : Int32), F, A) else (if (F 11) < (16 : Int32) then (if (¬ (F 11) < 0) then some ((1 : Int32), (ups F 11 ((F 11) + (1 : Int32))), (ups A 15 (ups (A 15) (F 11) p1))) else none) else some ((0 : Int32), F, A)))) := Eq.trans rfl rfl
def R_pushQuery (F : Nat → Int32) (A : Nat → Int32 → Int32) (p1 : Int32) : Int32 × (Nat → Int32) × (Nat → Int32 → Int32) := (en_pushQuery F A p1).getD (0, (fun _ => 0), (fun _ _ => 0))
theorem eR_pushQuery (F : Nat → Int32) (A : Nat → Int32 → Int32) (p1 : Int32) : R_pushQuery F A p1 = (en_pushQuery F A p1).getD (0, (fun _ => 0), (fun _ _ => 0)) := Eq.trans rfl rfl
set_option maxRecDepth 65536 in
set_option maxHeartbeats 4000000 in
theorem run_pushQuery {l : Launch} {Z : State} {a0 : Array Value} (H : OK Z a0) (F : Nat → Int32) (G : Nat → Int64) (A : Nat → Int32 → Int32) (B : Nat → Int32 → Int64) (p1 : Int32) (e1 : (en_pushQuery F A p1).isSome = true) :
    Wk l Z (MoC Z cdC) md_pushQuery 0 [.val (.ref 0), .val (.int p1)] [] (16, F, G, A, B) 0 0 (fun v w' => v = some (.int (R_pushQuery F A p1).1) ∧ w' = (16, (R_pushQuery F A p1).2.1, G, (R_pushQuery F A p1).2.2, B)) := by
  obtain ⟨r, h⟩ := Option.isSome_iff_exists.mp e1
  have e : R_pushQuery F A p1 = r := (eR_pushQuery F A p1).trans (getD_some h)
  rw [e]
  rw [een_pushQuery] at h
  exact wp_pushQuery H F G A B p1 (fun q1 => (rt_pushQuery _ _ _ _ _ r (Option.some.inj (ifp q1 h)))) (fun q1 q3 => (rt_pushQuery _ _ _ _ _ r (Option.some.inj (ifp q3 (ifn q1 h))))) (fun q1 q3 q5 => (gd (ifp q5 (ifn q3 (ifn q1 h)))).1) (fun q1 q3 q5 => (rt_pushQuery _ _ _ _ _ r (Option.some.inj (gd (ifp q5 (ifn q3 (ifn q1 h)))).2))) (fun q1 q3 q5 => (rt_pushQuery _ _ _ _ _ r (Option.some.inj (ifn q5 (ifn q3 (ifn q1 h))))))
set_option maxRecDepth 65536 in
set_option maxHeartbeats 4000000 in
theorem wp_queryInstrNode {l : Launch} {Z : State} {a0 : Array Value} (H : OK Z a0) (F : Nat → Int32) (G : Nat → Int64) (A : Nat → Int32 → Int32) (B : Nat → Int32 → Int64) {Q : Option Value → WO → Prop} (h2 : ¬ 0 < (F 11) → Q (some (.int (-1 : Int32))) (16, F, G, A, B)) (h4 : 0 < (F 11) → ((A 15) (0 : Int32)) = 0 → Wk l Z (MoC Z cdC) md_queryInstrNode 22 [.val (.ref 0), .val (.int (0 : Int32)), .val (.int (1 : Int32)), .unset] [] (16, F, G, A, B) 0 0 Q) (h5 : 0 < (F 11) → ¬ ((A 15) (0 : Int32)) = 0 → Q (some (.int (-1 : Int32))) (16, F, G, A, B)) :
    Wk l Z (MoC Z cdC) md_queryInstrNode 0 [.val (.ref 0), .unset, .unset, .unset] [] (16, F, G, A, B) 0 0 Q := by
  refine Wk.aloadN o_queryInstrNode_0 rfl ?_
  refine Wk.getI (mI_qLen) (wf_qLen H) o_queryInstrNode_1 (x := (F 11)) rfl ?_
  refine Wk.if_le o_queryInstrNode_4 (fun q1 => ?_) (fun q1 => ?_)
  · refine Wk.iconst o_queryInstrNode_16 (z := (-1 : Int32)) (by decide) ?_
    exact Wk.ireturn mrC rfl o_queryInstrNode_17 rfl (by decide) (by decide) (h2 q1)
  · refine Wk.aloadN o_queryInstrNode_7 rfl ?_
    refine Wk.getA (mA_query) (by decide) (i' := 16) rfl (wf_query H) o_queryInstrNode_8 ?_
    refine Wk.iconst o_queryInstrNode_11 (z := (0 : Int32)) (by decide) ?_
    refine Wk.iaload (mA_query) (by decide) (i' := 16) rfl (by decide) (by decide) o_queryInstrNode_12 (y := ((A 15) (0 : Int32))) rfl ?_
    refine Wk.if_eq o_queryInstrNode_13 (fun q3 => ?_) (fun q3 => ?_)
    · refine Wk.iconst o_queryInstrNode_18 (z := (0 : Int32)) (by decide) ?_
      refine Wk.istoreN o_queryInstrNode_19 (Or.inl rfl) (L' := [.val (.ref 0), .val (.int (0 : Int32)), .unset, .unset]) rfl ?_
      refine Wk.iconst o_queryInstrNode_20 (z := (1 : Int32)) (by decide) ?_
      refine Wk.istoreN o_queryInstrNode_21 (Or.inl rfl) (L' := [.val (.ref 0), .val (.int (0 : Int32)), .val (.int (1 : Int32)), .unset]) rfl ?_
      exact (h4 q1 q3)
    · refine Wk.iconst o_queryInstrNode_16 (z := (-1 : Int32)) (by decide) ?_
      exact Wk.ireturn mrC rfl o_queryInstrNode_17 rfl (by decide) (by decide) (h5 q1 q3)

set_option maxRecDepth 65536 in
set_option maxHeartbeats 4000000 in
theorem wp_queryInstrNode_22 {l : Launch} {Z : State} {a0 : Array Value} (H : OK Z a0) (F : Nat → Int32) (G : Nat → Int64) (A : Nat → Int32 → Int32) (B : Nat → Int32 → Int64) (v1 : Int32) (v2 : Int32) {Q : Option Value → WO → Prop} (h2 : ¬ v2 < (F 11) → Q (some (.int v1)) (16, F, G, A, B)) (s3 : v2 < (F 11) → ¬ v2 < 0) (s4 : v2 < (F 11) → v2 < (16 : Int32)) (s5 : v2 < (F 11) → (en_findInstrChild F A v1 ((A 15) v2)).isSome = true) (h7 : v2 < (F 11) → ¬ (R_findInstrChild F A v1 ((A 15) v2)) < 0 → Wk l Z (MoC Z cdC) md_queryInstrNode 22 [.val (.ref 0), .val (.int (R_findInstrChild F A v1 ((A 15) v2))), .val (.int (v2 + (1 : Int32))), .unset] [] (16, F, G, A, B) 0 0 Q) (h8 : v2 < (F 11) → (R_findInstrChild F A v1 ((A 15) v2)) < 0 → Q (some (.int (-1 : Int32))) (16, F, G, A, B)) :
    Wk l Z (MoC Z cdC) md_queryInstrNode 22 [.val (.ref 0), .val (.int v1), .val (.int v2), .unset] [] (16, F, G, A, B) 0 0 Q := by
  refine Wk.iloadN o_queryInstrNode_22 rfl ?_
  refine Wk.aloadN o_queryInstrNode_23 rfl ?_
  refine Wk.getI (mI_qLen) (wf_qLen H) o_queryInstrNode_24 (x := (F 11)) rfl ?_
  refine Wk.icmp_ge o_queryInstrNode_27 (fun q1 => ?_) (fun q1 => ?_)
  · refine Wk.iloadN o_queryInstrNode_56 rfl ?_
    exact Wk.ireturn mrC rfl o_queryInstrNode_57 rfl (by decide) (by decide) (h2 q1)
  · refine Wk.aloadN o_queryInstrNode_30 rfl ?_
    refine Wk.getA (mA_query) (by decide) (i' := 16) rfl (wf_query H) o_queryInstrNode_31 ?_
    refine Wk.iloadN o_queryInstrNode_34 rfl ?_
    refine Wk.iaload (mA_query) (by decide) (i' := 16) rfl (s3 q1) (s4 q1) o_queryInstrNode_35 (y := ((A 15) v2)) rfl ?_
    refine Wk.istoreN o_queryInstrNode_36 (Or.inl rfl) (L' := [.val (.ref 0), .val (.int v1), .val (.int v2), .val (.int ((A 15) v2))]) rfl ?_
    refine Wk.aloadN o_queryInstrNode_37 rfl ?_
    refine Wk.iloadN o_queryInstrNode_38 rfl ?_
    refine Wk.iloadN o_queryInstrNode_39 rfl ?_
    refine Wk.callF [.int v1, .int ((A 15) v2)] [] (H.w 130 rfl) (cv_findInstrChild H) o_queryInstrNode_40 (run_findInstrChild H F G A B v1 ((A 15) v2) (s5 q1)) (wt := 0) (cu' := 0) (su' := 0) (by decide) rfl rfl rfl rfl rfl rfl rfl ?_
    refine Wk.istoreN o_queryInstrNode_43 (Or.inr ⟨_, rfl, rfl⟩) (L' := [.val (.ref 0), .val (.int (R_findInstrChild F A v1 ((A 15) v2))), .val (.int v2), .val (.int ((A 15) v2))]) rfl ?_
    refine Wk.iloadN o_queryInstrNode_44 rfl ?_
    refine Wk.if_ge o_queryInstrNode_45 (fun q6 => ?_) (fun q6 => ?_)
    · refine Wk.iinc o_queryInstrNode_50 rfl (z := (v2 + (1 : Int32))) rfl (L' := [.val (.ref 0), .val (.int (R_findInstrChild F A v1 ((A 15) v2))), .val (.int (v2 + (1 : Int32))), .val (.int ((A 15) v2))]) rfl ?_
      refine Wk.goto o_queryInstrNode_53 ?_
      refine Wk.forget [false, false, false, true] (L' := [.val (.ref 0), .val (.int (R_findInstrChild F A v1 ((A 15) v2))), .val (.int (v2 + (1 : Int32))), .unset]) rfl rfl ?_
      exact (h7 q1 q6)
    · refine Wk.iconst o_queryInstrNode_48 (z := (-1 : Int32)) (by decide) ?_
      exact Wk.ireturn mrC rfl o_queryInstrNode_49 rfl (by decide) (by decide) (h8 q1 q6)

theorem rt_queryInstrNode (F : Nat → Int32) (G : Nat → Int64) (A : Nat → Int32 → Int32) (B : Nat → Int32 → Int64) (v0 : Int32) (r : Int32) (e : v0 = r) : some (Value.int v0) = some (.int r) ∧ (16, F, G, A, B) = (16, F, G, A, B) := by subst e; exact ⟨rfl, rfl⟩
def lp_queryInstrNode : Nat → Nat → Int32 → Int32 → (Nat → Int32) → (Nat → Int32 → Int32) → Option (Int32)
  | 0, _, _, _, _, _ => none
  | n + 1, tag, v1, v2, F, A => if tag = 22 then (if v2 < (F 11) then (if (¬ v2 < 0) ∧ (v2 < (16 : Int32)) ∧ ((en_findInstrChild F A v1 ((A 15) v2)).isSome = true) then (if (R_findInstrChild F A v1 ((A 15) v2)) < 0 then some ((-1 : Int32)) else lp_queryInstrNode n 22 (R_findInstrChild F A v1 ((A 15) v2)) (v2 + (1 : Int32)) F A) else none) else some (v1)) else none
theorem lp_queryInstrNode_z (tag : Nat) (v1 : Int32) (v2 : Int32) (F : Nat → Int32) (A : Nat → Int32 → Int32) : lp_queryInstrNode 0 tag v1 v2 F A = none := Eq.trans rfl rfl
theorem lp_queryInstrNode_22 (n : Nat) (v1 : Int32) (v2 : Int32) (F : Nat → Int32) (A : Nat → Int32 → Int32) : lp_queryInstrNode (n + 1) 22 v1 v2 F A = (if v2 < (F 11) then (if (¬ v2 < 0) ∧ (v2 < (16 : Int32)) ∧ ((en_findInstrChild F A v1 ((A 15) v2)).isSome = true) then (if (R_findInstrChild F A v1 ((A 15) v2)) < 0 then some ((-1 : Int32)) else lp_queryInstrNode n 22 (R_findInstrChild F A v1 ((A 15) v2)) (v2 + (1 : Int32)) F A) else none) else some (v1)) := by
  rw [lp_queryInstrNode, if_pos rfl]
set_option maxRecDepth 65536 in
set_option maxHeartbeats 4000000 in
theorem lpw_queryInstrNode {l : Launch} {Z : State} {a0 : Array Value} (H : OK Z a0) (F : Nat → Int32) (G : Nat → Int64) (A : Nat → Int32 → Int32) (B : Nat → Int32 → Int64) : ∀ (n : Nat) (v1 : Int32) (v2 : Int32) (r : Int32), (lp_queryInstrNode n 22 v1 v2 F A = some r → Wk l Z (MoC Z cdC) md_queryInstrNode 22 [.val (.ref 0), .val (.int v1), .val (.int v2), .unset] [] (16, F, G, A, B) 0 0 (fun v w' => v = some (.int r) ∧ w' = (16, F, G, A, B))) := by
  intro n
  induction n with
  | zero =>
    intro v1 v2  r
    exact (fun h => by rw [lp_queryInstrNode_z] at h; cases h)
  | succ n ih =>
    intro v1 v2  r
    refine fun h => ?_
    · rw [lp_queryInstrNode_22] at h
      exact wp_queryInstrNode_22 H F G A B v1 v2 (fun q1 => (rt_queryInstrNode _ _ _ _ _ r (Option.some.inj (ifn q1 h)))) (fun q1 => (gd (ifp q1 h)).1.1) (fun q1 => (gd (ifp q1 h)).1.2.1) (fun q1 => (gd (ifp q1 h)).1.2.2) (fun q1 q6 => (ih _ _ _) (ifn q6 (gd (ifp q1 h)).2)) (fun q1 q6 => (rt_queryInstrNode _ _ _ _ _ r (Option.some.inj (ifp q6 (gd (ifp q1 h)).2))))
def en_queryInstrNode (F : Nat → Int32) (A : Nat → Int32 → Int32) : Option (Int32) := (if 0 < (F 11) then (if ((A 15) (0 : Int32)) = 0 then lp_queryInstrNode 1000 22 (0 : Int32) (1 : Int32) F A else some ((-1 : Int32))) else some ((-1 : Int32)))
theorem een_queryInstrNode (F : Nat → Int32) (A : Nat → Int32 → Int32) : en_queryInstrNode F A  = (if 0 < (F 11) then (if ((A 15) (0 : Int32)) = 0 then lp_queryInstrNode 1000 22 (0 : Int32) (1 : Int32) F A else some ((-1 : Int32))) else some ((-1 : Int32))) := Eq.trans rfl rfl
def R_queryInstrNode (F : Nat → Int32) (A : Nat → Int32 → Int32) : Int32 := (en_queryInstrNode F A ).getD (0)
theorem eR_queryInstrNode (F : Nat → Int32) (A : Nat → Int32 → Int32) : R_queryInstrNode F A  = (en_queryInstrNode F A ).getD (0) := Eq.trans rfl rfl
set_option maxRecDepth 65536 in
set_option maxHeartbeats 4000000 in
theorem run_queryInstrNode {l : Launch} {Z : State} {a0 : Array Value} (H : OK Z a0) (F : Nat → Int32) (G : Nat → Int64) (A : Nat → Int32 → Int32) (B : Nat → Int32 → Int64) (e1 : (en_queryInstrNode F A ).isSome = true) :
    Wk l Z (MoC Z cdC) md_queryInstrNode 0 [.val (.ref 0), .unset, .unset, .unset] [] (16, F, G, A, B) 0 0 (fun v w' => v = some (.int (R_queryInstrNode F A )) ∧ w' = (16, F, G, A, B)) := by
  obtain ⟨r, h⟩ := Option.isSome_iff_exists.mp e1
  have e : R_queryInstrNode F A  = r := (eR_queryInstrNode F A ).trans (getD_some h)
  rw [e]
  rw [een_queryInstrNode] at h
  exact wp_queryInstrNode H F G A B  (fun q1 => (rt_queryInstrNode _ _ _ _ _ r (Option.some.inj (ifn q1 h)))) (fun q1 q3 => (lpw_queryInstrNode H F G A B _ _ _ _) (ifp q3 (ifp q1 h))) (fun q1 q3 => (rt_queryInstrNode _ _ _ _ _ r (Option.some.inj (ifn q3 (ifp q1 h)))))
set_option maxRecDepth 65536 in
set_option maxHeartbeats 4000000 in
theorem wp_self {l : Launch} {Z : State} {a0 : Array Value} (H : OK Z a0) (F : Nat → Int32) (G : Nat → Int64) (A : Nat → Int32 → Int32) (B : Nat → Int32 → Int64) {Q : Option Value → WO → Prop} (s1 : (en_queryInstrNode F A ).isSome = true) (s3 : ¬ (R_queryInstrNode F A ) < 0 → (R_queryInstrNode F A ) < (32 : Int32)) (h5 : Q (some (.int (if (R_queryInstrNode F A ) < 0 then (-1 : Int32) else ((A 9) (R_queryInstrNode F A ))))) (16, F, G, A, B)) :
    Wk l Z (MoC Z cdC) md_self 0 [.val (.ref 0), .unset] [] (16, F, G, A, B) 0 0 Q := by
  refine Wk.aloadN o_self_0 rfl ?_
  refine Wk.callF [] [] (H.w 178 rfl) (cv_queryInstrNode H) o_self_1 (run_queryInstrNode H F G A B s1) (wt := 0) (cu' := 0) (su' := 0) (by decide) rfl rfl rfl rfl rfl rfl rfl ?_
  refine Wk.istoreN o_self_4 (Or.inl rfl) (L' := [.val (.ref 0), .val (.int (R_queryInstrNode F A ))]) rfl ?_
  refine Wk.iloadN o_self_5 rfl ?_
  have J4 : Wk l Z (MoC Z cdC) md_self 19 [.val (.ref 0), .val (.int (R_queryInstrNode F A ))] [.int (if (R_queryInstrNode F A ) < 0 then (-1 : Int32) else ((A 9) (R_queryInstrNode F A )))] (16, F, G, A, B) 0 0 Q := by
    exact Wk.ireturn mrC rfl o_self_19 rfl (by decide) (by decide) h5
  refine Wk.if_ge o_self_6 (fun q2 => ?_) (fun q2 => ?_)
  · refine Wk.aloadN o_self_13 rfl ?_
    refine Wk.getA (mA_iSelf) (by decide) (i' := 10) rfl (wf_iSelf H) o_self_14 ?_
    refine Wk.iloadN o_self_17 rfl ?_
    refine Wk.iaload (mA_iSelf) (by decide) (i' := 10) rfl q2 (s3 q2) o_self_18 (y := ((A 9) (R_queryInstrNode F A ))) rfl ?_
    first | (rw [show ((if (R_queryInstrNode F A ) < 0 then (-1 : Int32) else ((A 9) (R_queryInstrNode F A ))) : Int32) = ((A 9) (R_queryInstrNode F A )) from if_neg q2] at J4; exact J4) | exact J4 | (simp only [if_neg q2] at J4 ⊢; exact J4)
  · refine Wk.iconst o_self_9 (z := (-1 : Int32)) (by decide) ?_
    refine Wk.goto o_self_10 ?_
    first | (rw [show ((if (R_queryInstrNode F A ) < 0 then (-1 : Int32) else ((A 9) (R_queryInstrNode F A ))) : Int32) = (-1 : Int32) from if_pos q2] at J4; exact J4) | exact J4 | (simp only [if_pos q2] at J4 ⊢; exact J4)

theorem rt_self (F : Nat → Int32) (G : Nat → Int64) (A : Nat → Int32 → Int32) (B : Nat → Int32 → Int64) (v0 : Int32) (r : Int32) (e : v0 = r) : some (Value.int v0) = some (.int r) ∧ (16, F, G, A, B) = (16, F, G, A, B) := by subst e; exact ⟨rfl, rfl⟩
def en_self (F : Nat → Int32) (A : Nat → Int32 → Int32) : Option (Int32) := (if ((en_queryInstrNode F A ).isSome = true) ∧ (¬ (R_queryInstrNode F A ) < 0 → (R_queryInstrNode F A ) < (32 : Int32)) then some ((if (R_queryInstrNode F A ) < 0 then (-1 : Int32) else ((A 9) (R_queryInstrNode F A )))) else none)
theorem een_self (F : Nat → Int32) (A : Nat → Int32 → Int32) : en_self F A  = (if ((en_queryInstrNode F A ).isSome = true) ∧ (¬ (R_queryInstrNode F A ) < 0 → (R_queryInstrNode F A ) < (32 : Int32)) then some ((if (R_queryInstrNode F A ) < 0 then (-1 : Int32) else ((A 9) (R_queryInstrNode F A )))) else none) := Eq.trans rfl rfl
def R_self (F : Nat → Int32) (A : Nat → Int32 → Int32) : Int32 := (en_self F A ).getD (0)
theorem eR_self (F : Nat → Int32) (A : Nat → Int32 → Int32) : R_self F A  = (en_self F A ).getD (0) := Eq.trans rfl rfl
set_option maxRecDepth 65536 in
set_option maxHeartbeats 4000000 in
theorem run_self {l : Launch} {Z : State} {a0 : Array Value} (H : OK Z a0) (F : Nat → Int32) (G : Nat → Int64) (A : Nat → Int32 → Int32) (B : Nat → Int32 → Int64) (e1 : (en_self F A ).isSome = true) :
    Wk l Z (MoC Z cdC) md_self 0 [.val (.ref 0), .unset] [] (16, F, G, A, B) 0 0 (fun v w' => v = some (.int (R_self F A )) ∧ w' = (16, F, G, A, B)) := by
  obtain ⟨r, h⟩ := Option.isSome_iff_exists.mp e1
  have e : R_self F A  = r := (eR_self F A ).trans (getD_some h)
  rw [e]
  rw [een_self] at h
  exact wp_self H F G A B  ((gd h).1.1) (fun q2 => ((gd h).1.2) q2) ((rt_self _ _ _ _ _ r (Option.some.inj (gd h).2)))
set_option maxRecDepth 65536 in
set_option maxHeartbeats 4000000 in
theorem wp_inclusive {l : Launch} {Z : State} {a0 : Array Value} (H : OK Z a0) (F : Nat → Int32) (G : Nat → Int64) (A : Nat → Int32 → Int32) (B : Nat → Int32 → Int64) {Q : Option Value → WO → Prop} (s1 : (en_queryInstrNode F A ).isSome = true) (s3 : ¬ (R_queryInstrNode F A ) < 0 → (R_queryInstrNode F A ) < (32 : Int32)) (h5 : Q (some (.int (if (R_queryInstrNode F A ) < 0 then (-1 : Int32) else ((A 10) (R_queryInstrNode F A ))))) (16, F, G, A, B)) :
    Wk l Z (MoC Z cdC) md_inclusive 0 [.val (.ref 0), .unset] [] (16, F, G, A, B) 0 0 Q := by
  refine Wk.aloadN o_inclusive_0 rfl ?_
  refine Wk.callF [] [] (H.w 178 rfl) (cv_queryInstrNode H) o_inclusive_1 (run_queryInstrNode H F G A B s1) (wt := 0) (cu' := 0) (su' := 0) (by decide) rfl rfl rfl rfl rfl rfl rfl ?_
  refine Wk.istoreN o_inclusive_4 (Or.inl rfl) (L' := [.val (.ref 0), .val (.int (R_queryInstrNode F A ))]) rfl ?_
  refine Wk.iloadN o_inclusive_5 rfl ?_
  have J4 : Wk l Z (MoC Z cdC) md_inclusive 19 [.val (.ref 0), .val (.int (R_queryInstrNode F A ))] [.int (if (R_queryInstrNode F A ) < 0 then (-1 : Int32) else ((A 10) (R_queryInstrNode F A )))] (16, F, G, A, B) 0 0 Q := by
    exact Wk.ireturn mrC rfl o_inclusive_19 rfl (by decide) (by decide) h5
  refine Wk.if_ge o_inclusive_6 (fun q2 => ?_) (fun q2 => ?_)
  · refine Wk.aloadN o_inclusive_13 rfl ?_
    refine Wk.getA (mA_iIncl) (by decide) (i' := 11) rfl (wf_iIncl H) o_inclusive_14 ?_
    refine Wk.iloadN o_inclusive_17 rfl ?_
    refine Wk.iaload (mA_iIncl) (by decide) (i' := 11) rfl q2 (s3 q2) o_inclusive_18 (y := ((A 10) (R_queryInstrNode F A ))) rfl ?_
    first | (rw [show ((if (R_queryInstrNode F A ) < 0 then (-1 : Int32) else ((A 10) (R_queryInstrNode F A ))) : Int32) = ((A 10) (R_queryInstrNode F A )) from if_neg q2] at J4; exact J4) | exact J4 | (simp only [if_neg q2] at J4 ⊢; exact J4)
  · refine Wk.iconst o_inclusive_9 (z := (-1 : Int32)) (by decide) ?_
    refine Wk.goto o_inclusive_10 ?_
    first | (rw [show ((if (R_queryInstrNode F A ) < 0 then (-1 : Int32) else ((A 10) (R_queryInstrNode F A ))) : Int32) = (-1 : Int32) from if_pos q2] at J4; exact J4) | exact J4 | (simp only [if_pos q2] at J4 ⊢; exact J4)

theorem rt_inclusive (F : Nat → Int32) (G : Nat → Int64) (A : Nat → Int32 → Int32) (B : Nat → Int32 → Int64) (v0 : Int32) (r : Int32) (e : v0 = r) : some (Value.int v0) = some (.int r) ∧ (16, F, G, A, B) = (16, F, G, A, B) := by subst e; exact ⟨rfl, rfl⟩
def en_inclusive (F : Nat → Int32) (A : Nat → Int32 → Int32) : Option (Int32) := (if ((en_queryInstrNode F A ).isSome = true) ∧ (¬ (R_queryInstrNode F A ) < 0 → (R_queryInstrNode F A ) < (32 : Int32)) then some ((if (R_queryInstrNode F A ) < 0 then (-1 : Int32) else ((A 10) (R_queryInstrNode F A )))) else none)
theorem een_inclusive (F : Nat → Int32) (A : Nat → Int32 → Int32) : en_inclusive F A  = (if ((en_queryInstrNode F A ).isSome = true) ∧ (¬ (R_queryInstrNode F A ) < 0 → (R_queryInstrNode F A ) < (32 : Int32)) then some ((if (R_queryInstrNode F A ) < 0 then (-1 : Int32) else ((A 10) (R_queryInstrNode F A )))) else none) := Eq.trans rfl rfl
def R_inclusive (F : Nat → Int32) (A : Nat → Int32 → Int32) : Int32 := (en_inclusive F A ).getD (0)
theorem eR_inclusive (F : Nat → Int32) (A : Nat → Int32 → Int32) : R_inclusive F A  = (en_inclusive F A ).getD (0) := Eq.trans rfl rfl
set_option maxRecDepth 65536 in
set_option maxHeartbeats 4000000 in
theorem run_inclusive {l : Launch} {Z : State} {a0 : Array Value} (H : OK Z a0) (F : Nat → Int32) (G : Nat → Int64) (A : Nat → Int32 → Int32) (B : Nat → Int32 → Int64) (e1 : (en_inclusive F A ).isSome = true) :
    Wk l Z (MoC Z cdC) md_inclusive 0 [.val (.ref 0), .unset] [] (16, F, G, A, B) 0 0 (fun v w' => v = some (.int (R_inclusive F A )) ∧ w' = (16, F, G, A, B)) := by
  obtain ⟨r, h⟩ := Option.isSome_iff_exists.mp e1
  have e : R_inclusive F A  = r := (eR_inclusive F A ).trans (getD_some h)
  rw [e]
  rw [een_inclusive] at h
  exact wp_inclusive H F G A B  ((gd h).1.1) (fun q2 => ((gd h).1.2) q2) ((rt_inclusive _ _ _ _ _ r (Option.some.inj (gd h).2)))
set_option maxRecDepth 65536 in
set_option maxHeartbeats 4000000 in
theorem wp_lost {l : Launch} {Z : State} {a0 : Array Value} (H : OK Z a0) (F : Nat → Int32) (G : Nat → Int64) (A : Nat → Int32 → Int32) (B : Nat → Int32 → Int64) {Q : Option Value → WO → Prop} (s1 : (en_queryInstrNode F A ).isSome = true) (s3 : ¬ (R_queryInstrNode F A ) < 0 → (R_queryInstrNode F A ) < (32 : Int32)) (h5 : Q (some (.int (if (R_queryInstrNode F A ) < 0 then (-1 : Int32) else ((A 11) (R_queryInstrNode F A ))))) (16, F, G, A, B)) :
    Wk l Z (MoC Z cdC) md_lost 0 [.val (.ref 0), .unset] [] (16, F, G, A, B) 0 0 Q := by
  refine Wk.aloadN o_lost_0 rfl ?_
  refine Wk.callF [] [] (H.w 178 rfl) (cv_queryInstrNode H) o_lost_1 (run_queryInstrNode H F G A B s1) (wt := 0) (cu' := 0) (su' := 0) (by decide) rfl rfl rfl rfl rfl rfl rfl ?_
  refine Wk.istoreN o_lost_4 (Or.inl rfl) (L' := [.val (.ref 0), .val (.int (R_queryInstrNode F A ))]) rfl ?_
  refine Wk.iloadN o_lost_5 rfl ?_
  have J4 : Wk l Z (MoC Z cdC) md_lost 19 [.val (.ref 0), .val (.int (R_queryInstrNode F A ))] [.int (if (R_queryInstrNode F A ) < 0 then (-1 : Int32) else ((A 11) (R_queryInstrNode F A )))] (16, F, G, A, B) 0 0 Q := by
    exact Wk.ireturn mrC rfl o_lost_19 rfl (by decide) (by decide) h5
  refine Wk.if_ge o_lost_6 (fun q2 => ?_) (fun q2 => ?_)
  · refine Wk.aloadN o_lost_13 rfl ?_
    refine Wk.getA (mA_iLost) (by decide) (i' := 12) rfl (wf_iLost H) o_lost_14 ?_
    refine Wk.iloadN o_lost_17 rfl ?_
    refine Wk.iaload (mA_iLost) (by decide) (i' := 12) rfl q2 (s3 q2) o_lost_18 (y := ((A 11) (R_queryInstrNode F A ))) rfl ?_
    first | (rw [show ((if (R_queryInstrNode F A ) < 0 then (-1 : Int32) else ((A 11) (R_queryInstrNode F A ))) : Int32) = ((A 11) (R_queryInstrNode F A )) from if_neg q2] at J4; exact J4) | exact J4 | (simp only [if_neg q2] at J4 ⊢; exact J4)
  · refine Wk.iconst o_lost_9 (z := (-1 : Int32)) (by decide) ?_
    refine Wk.goto o_lost_10 ?_
    first | (rw [show ((if (R_queryInstrNode F A ) < 0 then (-1 : Int32) else ((A 11) (R_queryInstrNode F A ))) : Int32) = (-1 : Int32) from if_pos q2] at J4; exact J4) | exact J4 | (simp only [if_pos q2] at J4 ⊢; exact J4)

theorem rt_lost (F : Nat → Int32) (G : Nat → Int64) (A : Nat → Int32 → Int32) (B : Nat → Int32 → Int64) (v0 : Int32) (r : Int32) (e : v0 = r) : some (Value.int v0) = some (.int r) ∧ (16, F, G, A, B) = (16, F, G, A, B) := by subst e; exact ⟨rfl, rfl⟩
def en_lost (F : Nat → Int32) (A : Nat → Int32 → Int32) : Option (Int32) := (if ((en_queryInstrNode F A ).isSome = true) ∧ (¬ (R_queryInstrNode F A ) < 0 → (R_queryInstrNode F A ) < (32 : Int32)) then some ((if (R_queryInstrNode F A ) < 0 then (-1 : Int32) else ((A 11) (R_queryInstrNode F A )))) else none)
theorem een_lost (F : Nat → Int32) (A : Nat → Int32 → Int32) : en_lost F A  = (if ((en_queryInstrNode F A ).isSome = true) ∧ (¬ (R_queryInstrNode F A ) < 0 → (R_queryInstrNode F A ) < (32 : Int32)) then some ((if (R_queryInstrNode F A ) < 0 then (-1 : Int32) else ((A 11) (R_queryInstrNode F A )))) else none) := Eq.trans rfl rfl
def R_lost (F : Nat → Int32) (A : Nat → Int32 → Int32) : Int32 := (en_lost F A ).getD (0)
theorem eR_lost (F : Nat → Int32) (A : Nat → Int32 → Int32) : R_lost F A  = (en_lost F A ).getD (0) := Eq.trans rfl rfl
set_option maxRecDepth 65536 in
set_option maxHeartbeats 4000000 in
theorem run_lost {l : Launch} {Z : State} {a0 : Array Value} (H : OK Z a0) (F : Nat → Int32) (G : Nat → Int64) (A : Nat → Int32 → Int32) (B : Nat → Int32 → Int64) (e1 : (en_lost F A ).isSome = true) :
    Wk l Z (MoC Z cdC) md_lost 0 [.val (.ref 0), .unset] [] (16, F, G, A, B) 0 0 (fun v w' => v = some (.int (R_lost F A )) ∧ w' = (16, F, G, A, B)) := by
  obtain ⟨r, h⟩ := Option.isSome_iff_exists.mp e1
  have e : R_lost F A  = r := (eR_lost F A ).trans (getD_some h)
  rw [e]
  rw [een_lost] at h
  exact wp_lost H F G A B  ((gd h).1.1) (fun q2 => ((gd h).1.2) q2) ((rt_lost _ _ _ _ _ r (Option.some.inj (gd h).2)))
set_option maxRecDepth 65536 in
set_option maxHeartbeats 4000000 in
theorem wp_querySampledNode {l : Launch} {Z : State} {a0 : Array Value} (H : OK Z a0) (F : Nat → Int32) (G : Nat → Int64) (A : Nat → Int32 → Int32) (B : Nat → Int32 → Int64) {Q : Option Value → WO → Prop} (h2 : ¬ 0 < (F 11) → Q (some (.int (-1 : Int32))) (16, F, G, A, B)) (h4 : 0 < (F 11) → ((A 15) (0 : Int32)) = 0 → Wk l Z (MoC Z cdC) md_querySampledNode 22 [.val (.ref 0), .val (.int (0 : Int32)), .val (.int (1 : Int32)), .unset] [] (16, F, G, A, B) 0 0 Q) (h5 : 0 < (F 11) → ¬ ((A 15) (0 : Int32)) = 0 → Q (some (.int (-1 : Int32))) (16, F, G, A, B)) :
    Wk l Z (MoC Z cdC) md_querySampledNode 0 [.val (.ref 0), .unset, .unset, .unset] [] (16, F, G, A, B) 0 0 Q := by
  refine Wk.aloadN o_querySampledNode_0 rfl ?_
  refine Wk.getI (mI_qLen) (wf_qLen H) o_querySampledNode_1 (x := (F 11)) rfl ?_
  refine Wk.if_le o_querySampledNode_4 (fun q1 => ?_) (fun q1 => ?_)
  · refine Wk.iconst o_querySampledNode_16 (z := (-1 : Int32)) (by decide) ?_
    exact Wk.ireturn mrC rfl o_querySampledNode_17 rfl (by decide) (by decide) (h2 q1)
  · refine Wk.aloadN o_querySampledNode_7 rfl ?_
    refine Wk.getA (mA_query) (by decide) (i' := 16) rfl (wf_query H) o_querySampledNode_8 ?_
    refine Wk.iconst o_querySampledNode_11 (z := (0 : Int32)) (by decide) ?_
    refine Wk.iaload (mA_query) (by decide) (i' := 16) rfl (by decide) (by decide) o_querySampledNode_12 (y := ((A 15) (0 : Int32))) rfl ?_
    refine Wk.if_eq o_querySampledNode_13 (fun q3 => ?_) (fun q3 => ?_)
    · refine Wk.iconst o_querySampledNode_18 (z := (0 : Int32)) (by decide) ?_
      refine Wk.istoreN o_querySampledNode_19 (Or.inl rfl) (L' := [.val (.ref 0), .val (.int (0 : Int32)), .unset, .unset]) rfl ?_
      refine Wk.iconst o_querySampledNode_20 (z := (1 : Int32)) (by decide) ?_
      refine Wk.istoreN o_querySampledNode_21 (Or.inl rfl) (L' := [.val (.ref 0), .val (.int (0 : Int32)), .val (.int (1 : Int32)), .unset]) rfl ?_
      exact (h4 q1 q3)
    · refine Wk.iconst o_querySampledNode_16 (z := (-1 : Int32)) (by decide) ?_
      exact Wk.ireturn mrC rfl o_querySampledNode_17 rfl (by decide) (by decide) (h5 q1 q3)

set_option maxRecDepth 65536 in
set_option maxHeartbeats 4000000 in
theorem wp_querySampledNode_22 {l : Launch} {Z : State} {a0 : Array Value} (H : OK Z a0) (F : Nat → Int32) (G : Nat → Int64) (A : Nat → Int32 → Int32) (B : Nat → Int32 → Int64) (v1 : Int32) (v2 : Int32) {Q : Option Value → WO → Prop} (h2 : ¬ v2 < (F 11) → Q (some (.int v1)) (16, F, G, A, B)) (s3 : v2 < (F 11) → ¬ v2 < 0) (s4 : v2 < (F 11) → v2 < (16 : Int32)) (s5 : v2 < (F 11) → (en_findSampledChild F A v1 ((A 15) v2)).isSome = true) (h7 : v2 < (F 11) → ¬ (R_findSampledChild F A v1 ((A 15) v2)) < 0 → Wk l Z (MoC Z cdC) md_querySampledNode 22 [.val (.ref 0), .val (.int (R_findSampledChild F A v1 ((A 15) v2))), .val (.int (v2 + (1 : Int32))), .unset] [] (16, F, G, A, B) 0 0 Q) (h8 : v2 < (F 11) → (R_findSampledChild F A v1 ((A 15) v2)) < 0 → Q (some (.int (-1 : Int32))) (16, F, G, A, B)) :
    Wk l Z (MoC Z cdC) md_querySampledNode 22 [.val (.ref 0), .val (.int v1), .val (.int v2), .unset] [] (16, F, G, A, B) 0 0 Q := by
  refine Wk.iloadN o_querySampledNode_22 rfl ?_
  refine Wk.aloadN o_querySampledNode_23 rfl ?_
  refine Wk.getI (mI_qLen) (wf_qLen H) o_querySampledNode_24 (x := (F 11)) rfl ?_
  refine Wk.icmp_ge o_querySampledNode_27 (fun q1 => ?_) (fun q1 => ?_)
  · refine Wk.iloadN o_querySampledNode_56 rfl ?_
    exact Wk.ireturn mrC rfl o_querySampledNode_57 rfl (by decide) (by decide) (h2 q1)
  · refine Wk.aloadN o_querySampledNode_30 rfl ?_
    refine Wk.getA (mA_query) (by decide) (i' := 16) rfl (wf_query H) o_querySampledNode_31 ?_
    refine Wk.iloadN o_querySampledNode_34 rfl ?_
    refine Wk.iaload (mA_query) (by decide) (i' := 16) rfl (s3 q1) (s4 q1) o_querySampledNode_35 (y := ((A 15) v2)) rfl ?_
    refine Wk.istoreN o_querySampledNode_36 (Or.inl rfl) (L' := [.val (.ref 0), .val (.int v1), .val (.int v2), .val (.int ((A 15) v2))]) rfl ?_
    refine Wk.aloadN o_querySampledNode_37 rfl ?_
    refine Wk.iloadN o_querySampledNode_38 rfl ?_
    refine Wk.iloadN o_querySampledNode_39 rfl ?_
    refine Wk.callF [.int v1, .int ((A 15) v2)] [] (H.w 142 rfl) (cv_findSampledChild H) o_querySampledNode_40 (run_findSampledChild H F G A B v1 ((A 15) v2) (s5 q1)) (wt := 0) (cu' := 0) (su' := 0) (by decide) rfl rfl rfl rfl rfl rfl rfl ?_
    refine Wk.istoreN o_querySampledNode_43 (Or.inr ⟨_, rfl, rfl⟩) (L' := [.val (.ref 0), .val (.int (R_findSampledChild F A v1 ((A 15) v2))), .val (.int v2), .val (.int ((A 15) v2))]) rfl ?_
    refine Wk.iloadN o_querySampledNode_44 rfl ?_
    refine Wk.if_ge o_querySampledNode_45 (fun q6 => ?_) (fun q6 => ?_)
    · refine Wk.iinc o_querySampledNode_50 rfl (z := (v2 + (1 : Int32))) rfl (L' := [.val (.ref 0), .val (.int (R_findSampledChild F A v1 ((A 15) v2))), .val (.int (v2 + (1 : Int32))), .val (.int ((A 15) v2))]) rfl ?_
      refine Wk.goto o_querySampledNode_53 ?_
      refine Wk.forget [false, false, false, true] (L' := [.val (.ref 0), .val (.int (R_findSampledChild F A v1 ((A 15) v2))), .val (.int (v2 + (1 : Int32))), .unset]) rfl rfl ?_
      exact (h7 q1 q6)
    · refine Wk.iconst o_querySampledNode_48 (z := (-1 : Int32)) (by decide) ?_
      exact Wk.ireturn mrC rfl o_querySampledNode_49 rfl (by decide) (by decide) (h8 q1 q6)

theorem rt_querySampledNode (F : Nat → Int32) (G : Nat → Int64) (A : Nat → Int32 → Int32) (B : Nat → Int32 → Int64) (v0 : Int32) (r : Int32) (e : v0 = r) : some (Value.int v0) = some (.int r) ∧ (16, F, G, A, B) = (16, F, G, A, B) := by subst e; exact ⟨rfl, rfl⟩
def lp_querySampledNode : Nat → Nat → Int32 → Int32 → (Nat → Int32) → (Nat → Int32 → Int32) → Option (Int32)
  | 0, _, _, _, _, _ => none
  | n + 1, tag, v1, v2, F, A => if tag = 22 then (if v2 < (F 11) then (if (¬ v2 < 0) ∧ (v2 < (16 : Int32)) ∧ ((en_findSampledChild F A v1 ((A 15) v2)).isSome = true) then (if (R_findSampledChild F A v1 ((A 15) v2)) < 0 then some ((-1 : Int32)) else lp_querySampledNode n 22 (R_findSampledChild F A v1 ((A 15) v2)) (v2 + (1 : Int32)) F A) else none) else some (v1)) else none
theorem lp_querySampledNode_z (tag : Nat) (v1 : Int32) (v2 : Int32) (F : Nat → Int32) (A : Nat → Int32 → Int32) : lp_querySampledNode 0 tag v1 v2 F A = none := Eq.trans rfl rfl
theorem lp_querySampledNode_22 (n : Nat) (v1 : Int32) (v2 : Int32) (F : Nat → Int32) (A : Nat → Int32 → Int32) : lp_querySampledNode (n + 1) 22 v1 v2 F A = (if v2 < (F 11) then (if (¬ v2 < 0) ∧ (v2 < (16 : Int32)) ∧ ((en_findSampledChild F A v1 ((A 15) v2)).isSome = true) then (if (R_findSampledChild F A v1 ((A 15) v2)) < 0 then some ((-1 : Int32)) else lp_querySampledNode n 22 (R_findSampledChild F A v1 ((A 15) v2)) (v2 + (1 : Int32)) F A) else none) else some (v1)) := by
  rw [lp_querySampledNode, if_pos rfl]
set_option maxRecDepth 65536 in
set_option maxHeartbeats 4000000 in
theorem lpw_querySampledNode {l : Launch} {Z : State} {a0 : Array Value} (H : OK Z a0) (F : Nat → Int32) (G : Nat → Int64) (A : Nat → Int32 → Int32) (B : Nat → Int32 → Int64) : ∀ (n : Nat) (v1 : Int32) (v2 : Int32) (r : Int32), (lp_querySampledNode n 22 v1 v2 F A = some r → Wk l Z (MoC Z cdC) md_querySampledNode 22 [.val (.ref 0), .val (.int v1), .val (.int v2), .unset] [] (16, F, G, A, B) 0 0 (fun v w' => v = some (.int r) ∧ w' = (16, F, G, A, B))) := by
  intro n
  induction n with
  | zero =>
    intro v1 v2  r
    exact (fun h => by rw [lp_querySampledNode_z] at h; cases h)
  | succ n ih =>
    intro v1 v2  r
    refine fun h => ?_
    · rw [lp_querySampledNode_22] at h
      exact wp_querySampledNode_22 H F G A B v1 v2 (fun q1 => (rt_querySampledNode _ _ _ _ _ r (Option.some.inj (ifn q1 h)))) (fun q1 => (gd (ifp q1 h)).1.1) (fun q1 => (gd (ifp q1 h)).1.2.1) (fun q1 => (gd (ifp q1 h)).1.2.2) (fun q1 q6 => (ih _ _ _) (ifn q6 (gd (ifp q1 h)).2)) (fun q1 q6 => (rt_querySampledNode _ _ _ _ _ r (Option.some.inj (ifp q6 (gd (ifp q1 h)).2))))
def en_querySampledNode (F : Nat → Int32) (A : Nat → Int32 → Int32) : Option (Int32) := (if 0 < (F 11) then (if ((A 15) (0 : Int32)) = 0 then lp_querySampledNode 1000 22 (0 : Int32) (1 : Int32) F A else some ((-1 : Int32))) else some ((-1 : Int32)))
theorem een_querySampledNode (F : Nat → Int32) (A : Nat → Int32 → Int32) : en_querySampledNode F A  = (if 0 < (F 11) then (if ((A 15) (0 : Int32)) = 0 then lp_querySampledNode 1000 22 (0 : Int32) (1 : Int32) F A else some ((-1 : Int32))) else some ((-1 : Int32))) := Eq.trans rfl rfl
def R_querySampledNode (F : Nat → Int32) (A : Nat → Int32 → Int32) : Int32 := (en_querySampledNode F A ).getD (0)
theorem eR_querySampledNode (F : Nat → Int32) (A : Nat → Int32 → Int32) : R_querySampledNode F A  = (en_querySampledNode F A ).getD (0) := Eq.trans rfl rfl
set_option maxRecDepth 65536 in
set_option maxHeartbeats 4000000 in
theorem run_querySampledNode {l : Launch} {Z : State} {a0 : Array Value} (H : OK Z a0) (F : Nat → Int32) (G : Nat → Int64) (A : Nat → Int32 → Int32) (B : Nat → Int32 → Int64) (e1 : (en_querySampledNode F A ).isSome = true) :
    Wk l Z (MoC Z cdC) md_querySampledNode 0 [.val (.ref 0), .unset, .unset, .unset] [] (16, F, G, A, B) 0 0 (fun v w' => v = some (.int (R_querySampledNode F A )) ∧ w' = (16, F, G, A, B)) := by
  obtain ⟨r, h⟩ := Option.isSome_iff_exists.mp e1
  have e : R_querySampledNode F A  = r := (eR_querySampledNode F A ).trans (getD_some h)
  rw [e]
  rw [een_querySampledNode] at h
  exact wp_querySampledNode H F G A B  (fun q1 => (rt_querySampledNode _ _ _ _ _ r (Option.some.inj (ifn q1 h)))) (fun q1 q3 => (lpw_querySampledNode H F G A B _ _ _ _) (ifp q3 (ifp q1 h))) (fun q1 q3 => (rt_querySampledNode _ _ _ _ _ r (Option.some.inj (ifn q3 (ifp q1 h)))))
set_option maxRecDepth 65536 in
set_option maxHeartbeats 4000000 in
theorem wp_sampledSelf {l : Launch} {Z : State} {a0 : Array Value} (H : OK Z a0) (F : Nat → Int32) (G : Nat → Int64) (A : Nat → Int32 → Int32) (B : Nat → Int32 → Int64) {Q : Option Value → WO → Prop} (s1 : (en_querySampledNode F A ).isSome = true) (s3 : ¬ (R_querySampledNode F A ) < 0 → (R_querySampledNode F A ) < (32 : Int32)) (h5 : Q (some (.int (if (R_querySampledNode F A ) < 0 then (-1 : Int32) else ((A 14) (R_querySampledNode F A ))))) (16, F, G, A, B)) :
    Wk l Z (MoC Z cdC) md_sampledSelf 0 [.val (.ref 0), .unset] [] (16, F, G, A, B) 0 0 Q := by
  refine Wk.aloadN o_sampledSelf_0 rfl ?_
  refine Wk.callF [] [] (H.w 197 rfl) (cv_querySampledNode H) o_sampledSelf_1 (run_querySampledNode H F G A B s1) (wt := 0) (cu' := 0) (su' := 0) (by decide) rfl rfl rfl rfl rfl rfl rfl ?_
  refine Wk.istoreN o_sampledSelf_4 (Or.inl rfl) (L' := [.val (.ref 0), .val (.int (R_querySampledNode F A ))]) rfl ?_
  refine Wk.iloadN o_sampledSelf_5 rfl ?_
  have J4 : Wk l Z (MoC Z cdC) md_sampledSelf 19 [.val (.ref 0), .val (.int (R_querySampledNode F A ))] [.int (if (R_querySampledNode F A ) < 0 then (-1 : Int32) else ((A 14) (R_querySampledNode F A )))] (16, F, G, A, B) 0 0 Q := by
    exact Wk.ireturn mrC rfl o_sampledSelf_19 rfl (by decide) (by decide) h5
  refine Wk.if_ge o_sampledSelf_6 (fun q2 => ?_) (fun q2 => ?_)
  · refine Wk.aloadN o_sampledSelf_13 rfl ?_
    refine Wk.getA (mA_sSelf) (by decide) (i' := 15) rfl (wf_sSelf H) o_sampledSelf_14 ?_
    refine Wk.iloadN o_sampledSelf_17 rfl ?_
    refine Wk.iaload (mA_sSelf) (by decide) (i' := 15) rfl q2 (s3 q2) o_sampledSelf_18 (y := ((A 14) (R_querySampledNode F A ))) rfl ?_
    first | (rw [show ((if (R_querySampledNode F A ) < 0 then (-1 : Int32) else ((A 14) (R_querySampledNode F A ))) : Int32) = ((A 14) (R_querySampledNode F A )) from if_neg q2] at J4; exact J4) | exact J4 | (simp only [if_neg q2] at J4 ⊢; exact J4)
  · refine Wk.iconst o_sampledSelf_9 (z := (-1 : Int32)) (by decide) ?_
    refine Wk.goto o_sampledSelf_10 ?_
    first | (rw [show ((if (R_querySampledNode F A ) < 0 then (-1 : Int32) else ((A 14) (R_querySampledNode F A ))) : Int32) = (-1 : Int32) from if_pos q2] at J4; exact J4) | exact J4 | (simp only [if_pos q2] at J4 ⊢; exact J4)

theorem rt_sampledSelf (F : Nat → Int32) (G : Nat → Int64) (A : Nat → Int32 → Int32) (B : Nat → Int32 → Int64) (v0 : Int32) (r : Int32) (e : v0 = r) : some (Value.int v0) = some (.int r) ∧ (16, F, G, A, B) = (16, F, G, A, B) := by subst e; exact ⟨rfl, rfl⟩
def en_sampledSelf (F : Nat → Int32) (A : Nat → Int32 → Int32) : Option (Int32) := (if ((en_querySampledNode F A ).isSome = true) ∧ (¬ (R_querySampledNode F A ) < 0 → (R_querySampledNode F A ) < (32 : Int32)) then some ((if (R_querySampledNode F A ) < 0 then (-1 : Int32) else ((A 14) (R_querySampledNode F A )))) else none)
theorem een_sampledSelf (F : Nat → Int32) (A : Nat → Int32 → Int32) : en_sampledSelf F A  = (if ((en_querySampledNode F A ).isSome = true) ∧ (¬ (R_querySampledNode F A ) < 0 → (R_querySampledNode F A ) < (32 : Int32)) then some ((if (R_querySampledNode F A ) < 0 then (-1 : Int32) else ((A 14) (R_querySampledNode F A )))) else none) := Eq.trans rfl rfl
def R_sampledSelf (F : Nat → Int32) (A : Nat → Int32 → Int32) : Int32 := (en_sampledSelf F A ).getD (0)
theorem eR_sampledSelf (F : Nat → Int32) (A : Nat → Int32 → Int32) : R_sampledSelf F A  = (en_sampledSelf F A ).getD (0) := Eq.trans rfl rfl
set_option maxRecDepth 65536 in
set_option maxHeartbeats 4000000 in
theorem run_sampledSelf {l : Launch} {Z : State} {a0 : Array Value} (H : OK Z a0) (F : Nat → Int32) (G : Nat → Int64) (A : Nat → Int32 → Int32) (B : Nat → Int32 → Int64) (e1 : (en_sampledSelf F A ).isSome = true) :
    Wk l Z (MoC Z cdC) md_sampledSelf 0 [.val (.ref 0), .unset] [] (16, F, G, A, B) 0 0 (fun v w' => v = some (.int (R_sampledSelf F A )) ∧ w' = (16, F, G, A, B)) := by
  obtain ⟨r, h⟩ := Option.isSome_iff_exists.mp e1
  have e : R_sampledSelf F A  = r := (eR_sampledSelf F A ).trans (getD_some h)
  rw [e]
  rw [een_sampledSelf] at h
  exact wp_sampledSelf H F G A B  ((gd h).1.1) (fun q2 => ((gd h).1.2) q2) ((rt_sampledSelf _ _ _ _ _ r (Option.some.inj (gd h).2)))
set_option maxRecDepth 65536 in
set_option maxHeartbeats 4000000 in
theorem wp_L_law {l : Launch} {Z : State} {a0 : Array Value} (H : OK Z a0) (sl : Int32) (sv : Int32 → Int32) (p1 : Int32) (p2 : Int32) (p3 : Int32) (p4 : Int32) (p5 : Int32) (p6 : Int32) {Q : Option Value → WL → Prop} (h5 : Wk l Z (MoL Z cdC "ContextProfilerL3" false) md_L_law 47 [.unset, .unset, .unset, .val (.int p4), .val (.int p5), .unset, .val (.int ((1 : Int32) + ((p6 &&& (7 : Int32)) % (7 : Int32)))), .val (.int (if p2 < (1 : Int32) then (1 : Int32) else (if (16 : Int32) < p2 then (16 : Int32) else p2))), .val (.ref 1), .unset, .unset, .unset] [] (sl, sv, [(16, (F_init p1 p2 p3), (fun _ => 0), (A_init p1 p2 p3), (fun _ _ => 0))]) 17 502 Q) :
    Wk l Z (MoL Z cdC "ContextProfilerL3" false) md_L_law 0 [.val (.int p1), .val (.int p2), .val (.int p3), .val (.int p4), .val (.int p5), .val (.int p6), .unset, .unset, .unset, .unset, .unset, .unset] [] (sl, sv, []) 0 0 Q := by
  refine Wk.iconst o_L_law_0 (z := (1 : Int32)) (by decide) ?_
  refine Wk.iload o_L_law_1 rfl ?_
  refine Wk.bipush o_L_law_3 (z := (7 : Int32)) (by decide) ?_
  refine Wk.iand o_L_law_5 ?_
  refine Wk.bipush o_L_law_6 (z := (7 : Int32)) (by decide) ?_
  refine Wk.irem o_L_law_8 (by decide) ?_
  refine Wk.iadd o_L_law_9 ?_
  refine Wk.istore o_L_law_10 (Or.inl rfl) (L' := [.val (.int p1), .val (.int p2), .val (.int p3), .val (.int p4), .val (.int p5), .val (.int p6), .val (.int ((1 : Int32) + ((p6 &&& (7 : Int32)) % (7 : Int32)))), .unset, .unset, .unset, .unset, .unset]) rfl ?_
  refine Wk.iloadN o_L_law_12 rfl ?_
  refine Wk.iconst o_L_law_13 (z := (1 : Int32)) (by decide) ?_
  have J4 : Wk l Z (MoL Z cdC "ContextProfilerL3" false) md_L_law 33 [.val (.int p1), .val (.int p2), .val (.int p3), .val (.int p4), .val (.int p5), .val (.int p6), .val (.int ((1 : Int32) + ((p6 &&& (7 : Int32)) % (7 : Int32)))), .unset, .unset, .unset, .unset, .unset] [.int (if p2 < (1 : Int32) then (1 : Int32) else (if (16 : Int32) < p2 then (16 : Int32) else p2))] (sl, sv, []) 0 0 Q := by
    refine Wk.istore o_L_law_33 (Or.inl rfl) (L' := [.val (.int p1), .val (.int p2), .val (.int p3), .val (.int p4), .val (.int p5), .val (.int p6), .val (.int ((1 : Int32) + ((p6 &&& (7 : Int32)) % (7 : Int32)))), .val (.int (if p2 < (1 : Int32) then (1 : Int32) else (if (16 : Int32) < p2 then (16 : Int32) else p2))), .unset, .unset, .unset, .unset]) rfl ?_
    refine Wk.newL (coC H) (kk := 30) (H.w 0 rfl) (H.w 1 rfl) (wz_C H) o_L_law_35 trivial (i' := 1) rfl (ws' := [(0, (fun _ => 0), (fun _ => 0), (fun _ _ => 0), (fun _ _ => 0))]) rfl (cu' := 1) rfl (su' := 30) rfl (by decide) (by decide) ?_
    refine Wk.dup o_L_law_38 rfl ?_
    refine Wk.iloadN o_L_law_39 rfl ?_
    refine Wk.iloadN o_L_law_40 rfl ?_
    refine Wk.iloadN o_L_law_41 rfl ?_
    refine Wk.ctorLU (coC H) [.int p1, .int p2, .int p3] 0 [.ref 1] (i' := 1) (H.w 3 rfl) (cv_init H) o_L_law_42 (run_init H p1 p2 p3) (wt := 1) (cu' := 17) (su' := 502) (by decide) trivial rfl rfl rfl rfl rfl rfl rfl rfl rfl rfl (ws' := [(16, (F_init p1 p2 p3), (fun _ => 0), (A_init p1 p2 p3), (fun _ _ => 0))]) rfl ?_
    refine Wk.astore o_L_law_45 (Or.inl rfl) (L' := [.val (.int p1), .val (.int p2), .val (.int p3), .val (.int p4), .val (.int p5), .val (.int p6), .val (.int ((1 : Int32) + ((p6 &&& (7 : Int32)) % (7 : Int32)))), .val (.int (if p2 < (1 : Int32) then (1 : Int32) else (if (16 : Int32) < p2 then (16 : Int32) else p2))), .val (.ref 1), .unset, .unset, .unset]) rfl ?_
    refine Wk.forget [true, true, true, false, false, true, false, false, false, false, false, false] (L' := [.unset, .unset, .unset, .val (.int p4), .val (.int p5), .unset, .val (.int ((1 : Int32) + ((p6 &&& (7 : Int32)) % (7 : Int32)))), .val (.int (if p2 < (1 : Int32) then (1 : Int32) else (if (16 : Int32) < p2 then (16 : Int32) else p2))), .val (.ref 1), .unset, .unset, .unset]) rfl rfl ?_
    exact h5
  refine Wk.icmp_ge o_L_law_14 (fun q1 => ?_) (fun q1 => ?_)
  · refine Wk.iloadN o_L_law_21 rfl ?_
    refine Wk.bipush o_L_law_22 (z := (16 : Int32)) (by decide) ?_
    refine Wk.icmp_le o_L_law_24 (fun q2 => ?_) (fun q2 => ?_)
    · refine Wk.iloadN o_L_law_32 rfl ?_
      first | (rw [show ((if p2 < (1 : Int32) then (1 : Int32) else (if (16 : Int32) < p2 then (16 : Int32) else p2)) : Int32) = p2 from Eq.trans (if_neg q1) <| if_neg q2] at J4; exact J4) | exact J4 | (simp only [if_neg q1, if_neg q2] at J4 ⊢; exact J4)
    · refine Wk.bipush o_L_law_27 (z := (16 : Int32)) (by decide) ?_
      refine Wk.goto o_L_law_29 ?_
      first | (rw [show ((if p2 < (1 : Int32) then (1 : Int32) else (if (16 : Int32) < p2 then (16 : Int32) else p2)) : Int32) = (16 : Int32) from Eq.trans (if_neg q1) <| if_pos q2] at J4; exact J4) | exact J4 | (simp only [if_neg q1, if_pos q2] at J4 ⊢; exact J4)
  · refine Wk.iconst o_L_law_17 (z := (1 : Int32)) (by decide) ?_
    refine Wk.goto o_L_law_18 ?_
    first | (rw [show ((if p2 < (1 : Int32) then (1 : Int32) else (if (16 : Int32) < p2 then (16 : Int32) else p2)) : Int32) = (1 : Int32) from if_pos q1] at J4; exact J4) | exact J4 | (simp only [if_pos q1] at J4 ⊢; exact J4)

set_option maxRecDepth 65536 in
set_option maxHeartbeats 4000000 in
theorem wp_L_law_47 {l : Launch} {Z : State} {a0 : Array Value} (H : OK Z a0) (sl : Int32) (sv : Int32 → Int32) (F1 : Nat → Int32) (G1 : Nat → Int64) (A1 : Nat → Int32 → Int32) (B1 : Nat → Int32 → Int64) (v3 : Int32) (v4 : Int32) (v6 : Int32) (v7 : Int32) {Q : Option Value → WL → Prop} (s1 : (en_emit F1 A1 (1 : Int32) v3).isSome = true) (h2 : Wk l Z (MoL Z cdC "ContextProfilerL3" false) md_L_law 55 [.unset, .unset, .unset, .val (.int v3), .val (.int v4), .unset, .val (.int v6), .val (.int v7), .val (.ref 1), .unset, .unset, .unset] [] (sl, sv, [(16, (R_emit F1 A1 (1 : Int32) v3).2.1, G1, (R_emit F1 A1 (1 : Int32) v3).2.2, B1)]) 17 502 Q) :
    Wk l Z (MoL Z cdC "ContextProfilerL3" false) md_L_law 47 [.unset, .unset, .unset, .val (.int v3), .val (.int v4), .unset, .val (.int v6), .val (.int v7), .val (.ref 1), .unset, .unset, .unset] [] (sl, sv, [(16, F1, G1, A1, B1)]) 17 502 Q := by
  refine Wk.aload o_L_law_47 rfl ?_
  refine Wk.iconst o_L_law_49 (z := (1 : Int32)) (by decide) ?_
  refine Wk.iloadN o_L_law_50 rfl ?_
  refine Wk.callLF (coC H) [.int (1 : Int32), .int v3] 0 [] (i' := 1) (H.w 83 rfl) (cv_emit H) o_L_law_51 (run_emit H F1 G1 A1 B1 (1 : Int32) v3 s1) (wt := 0) (cu' := 17) (su' := 502) (by decide) trivial rfl rfl rfl rfl rfl rfl rfl rfl rfl rfl (ws' := [(16, (R_emit F1 A1 (1 : Int32) v3).2.1, G1, (R_emit F1 A1 (1 : Int32) v3).2.2, B1)]) rfl ?_
  refine Wk.pop o_L_law_54 rfl ?_
  exact h2

set_option maxRecDepth 65536 in
set_option maxHeartbeats 4000000 in
theorem wp_L_law_55 {l : Launch} {Z : State} {a0 : Array Value} (H : OK Z a0) (sl : Int32) (sv : Int32 → Int32) (F1 : Nat → Int32) (G1 : Nat → Int64) (A1 : Nat → Int32 → Int32) (B1 : Nat → Int32 → Int64) (v3 : Int32) (v4 : Int32) (v6 : Int32) (v7 : Int32) {Q : Option Value → WL → Prop} (s1 : (en_emit F1 A1 (8 : Int32) v6).isSome = true) (h2 : Wk l Z (MoL Z cdC "ContextProfilerL3" false) md_L_law 65 [.unset, .unset, .unset, .val (.int v3), .val (.int v4), .unset, .val (.int v6), .val (.int v7), .val (.ref 1), .unset, .unset, .unset] [] (sl, sv, [(16, (R_emit F1 A1 (8 : Int32) v6).2.1, G1, (R_emit F1 A1 (8 : Int32) v6).2.2, B1)]) 17 502 Q) :
    Wk l Z (MoL Z cdC "ContextProfilerL3" false) md_L_law 55 [.unset, .unset, .unset, .val (.int v3), .val (.int v4), .unset, .val (.int v6), .val (.int v7), .val (.ref 1), .unset, .unset, .unset] [] (sl, sv, [(16, F1, G1, A1, B1)]) 17 502 Q := by
  refine Wk.aload o_L_law_55 rfl ?_
  refine Wk.bipush o_L_law_57 (z := (8 : Int32)) (by decide) ?_
  refine Wk.iload o_L_law_59 rfl ?_
  refine Wk.callLF (coC H) [.int (8 : Int32), .int v6] 0 [] (i' := 1) (H.w 83 rfl) (cv_emit H) o_L_law_61 (run_emit H F1 G1 A1 B1 (8 : Int32) v6 s1) (wt := 0) (cu' := 17) (su' := 502) (by decide) trivial rfl rfl rfl rfl rfl rfl rfl rfl rfl rfl (ws' := [(16, (R_emit F1 A1 (8 : Int32) v6).2.1, G1, (R_emit F1 A1 (8 : Int32) v6).2.2, B1)]) rfl ?_
  refine Wk.pop o_L_law_64 rfl ?_
  exact h2

set_option maxRecDepth 65536 in
set_option maxHeartbeats 4000000 in
theorem wp_L_law_65 {l : Launch} {Z : State} {a0 : Array Value} (H : OK Z a0) (sl : Int32) (sv : Int32 → Int32) (F1 : Nat → Int32) (G1 : Nat → Int64) (A1 : Nat → Int32 → Int32) (B1 : Nat → Int32 → Int64) (v3 : Int32) (v4 : Int32) (v6 : Int32) (v7 : Int32) {Q : Option Value → WL → Prop} (s1 : (en_emit F1 A1 (10 : Int32) (0 : Int32)).isSome = true) (h2 : Wk l Z (MoL Z cdC "ContextProfilerL3" false) md_L_law 74 [.unset, .unset, .unset, .val (.int v3), .val (.int v4), .unset, .val (.int v6), .val (.int v7), .val (.ref 1), .unset, .unset, .unset] [] (sl, sv, [(16, (R_emit F1 A1 (10 : Int32) (0 : Int32)).2.1, G1, (R_emit F1 A1 (10 : Int32) (0 : Int32)).2.2, B1)]) 17 502 Q) :
    Wk l Z (MoL Z cdC "ContextProfilerL3" false) md_L_law 65 [.unset, .unset, .unset, .val (.int v3), .val (.int v4), .unset, .val (.int v6), .val (.int v7), .val (.ref 1), .unset, .unset, .unset] [] (sl, sv, [(16, F1, G1, A1, B1)]) 17 502 Q := by
  refine Wk.aload o_L_law_65 rfl ?_
  refine Wk.bipush o_L_law_67 (z := (10 : Int32)) (by decide) ?_
  refine Wk.iconst o_L_law_69 (z := (0 : Int32)) (by decide) ?_
  refine Wk.callLF (coC H) [.int (10 : Int32), .int (0 : Int32)] 0 [] (i' := 1) (H.w 83 rfl) (cv_emit H) o_L_law_70 (run_emit H F1 G1 A1 B1 (10 : Int32) (0 : Int32) s1) (wt := 0) (cu' := 17) (su' := 502) (by decide) trivial rfl rfl rfl rfl rfl rfl rfl rfl rfl rfl (ws' := [(16, (R_emit F1 A1 (10 : Int32) (0 : Int32)).2.1, G1, (R_emit F1 A1 (10 : Int32) (0 : Int32)).2.2, B1)]) rfl ?_
  refine Wk.pop o_L_law_73 rfl ?_
  exact h2

set_option maxRecDepth 65536 in
set_option maxHeartbeats 4000000 in
theorem wp_L_law_74 {l : Launch} {Z : State} {a0 : Array Value} (H : OK Z a0) (sl : Int32) (sv : Int32 → Int32) (F1 : Nat → Int32) (G1 : Nat → Int64) (A1 : Nat → Int32 → Int32) (B1 : Nat → Int32 → Int64) (v3 : Int32) (v4 : Int32) (v6 : Int32) (v7 : Int32) {Q : Option Value → WL → Prop} (s1 : (en_emit F1 A1 (1 : Int32) v4).isSome = true) (h2 : Wk l Z (MoL Z cdC "ContextProfilerL3" false) md_L_law 83 [.unset, .unset, .unset, .val (.int v3), .val (.int v4), .unset, .val (.int v6), .val (.int v7), .val (.ref 1), .unset, .unset, .unset] [] (sl, sv, [(16, (R_emit F1 A1 (1 : Int32) v4).2.1, G1, (R_emit F1 A1 (1 : Int32) v4).2.2, B1)]) 17 502 Q) :
    Wk l Z (MoL Z cdC "ContextProfilerL3" false) md_L_law 74 [.unset, .unset, .unset, .val (.int v3), .val (.int v4), .unset, .val (.int v6), .val (.int v7), .val (.ref 1), .unset, .unset, .unset] [] (sl, sv, [(16, F1, G1, A1, B1)]) 17 502 Q := by
  refine Wk.aload o_L_law_74 rfl ?_
  refine Wk.iconst o_L_law_76 (z := (1 : Int32)) (by decide) ?_
  refine Wk.iload o_L_law_77 rfl ?_
  refine Wk.callLF (coC H) [.int (1 : Int32), .int v4] 0 [] (i' := 1) (H.w 83 rfl) (cv_emit H) o_L_law_79 (run_emit H F1 G1 A1 B1 (1 : Int32) v4 s1) (wt := 0) (cu' := 17) (su' := 502) (by decide) trivial rfl rfl rfl rfl rfl rfl rfl rfl rfl rfl (ws' := [(16, (R_emit F1 A1 (1 : Int32) v4).2.1, G1, (R_emit F1 A1 (1 : Int32) v4).2.2, B1)]) rfl ?_
  refine Wk.pop o_L_law_82 rfl ?_
  exact h2

set_option maxRecDepth 65536 in
set_option maxHeartbeats 4000000 in
theorem wp_L_law_83 {l : Launch} {Z : State} {a0 : Array Value} (H : OK Z a0) (sl : Int32) (sv : Int32 → Int32) (F1 : Nat → Int32) (G1 : Nat → Int64) (A1 : Nat → Int32 → Int32) (B1 : Nat → Int32 → Int64) (v3 : Int32) (v4 : Int32) (v6 : Int32) (v7 : Int32) {Q : Option Value → WL → Prop} (s1 : (en_emit F1 A1 (2 : Int32) (0 : Int32)).isSome = true) (h2 : Wk l Z (MoL Z cdC "ContextProfilerL3" false) md_L_law 91 [.unset, .unset, .unset, .val (.int v3), .val (.int v4), .unset, .val (.int v6), .val (.int v7), .val (.ref 1), .unset, .unset, .unset] [] (sl, sv, [(16, (R_emit F1 A1 (2 : Int32) (0 : Int32)).2.1, G1, (R_emit F1 A1 (2 : Int32) (0 : Int32)).2.2, B1)]) 17 502 Q) :
    Wk l Z (MoL Z cdC "ContextProfilerL3" false) md_L_law 83 [.unset, .unset, .unset, .val (.int v3), .val (.int v4), .unset, .val (.int v6), .val (.int v7), .val (.ref 1), .unset, .unset, .unset] [] (sl, sv, [(16, F1, G1, A1, B1)]) 17 502 Q := by
  refine Wk.aload o_L_law_83 rfl ?_
  refine Wk.iconst o_L_law_85 (z := (2 : Int32)) (by decide) ?_
  refine Wk.iconst o_L_law_86 (z := (0 : Int32)) (by decide) ?_
  refine Wk.callLF (coC H) [.int (2 : Int32), .int (0 : Int32)] 0 [] (i' := 1) (H.w 83 rfl) (cv_emit H) o_L_law_87 (run_emit H F1 G1 A1 B1 (2 : Int32) (0 : Int32) s1) (wt := 0) (cu' := 17) (su' := 502) (by decide) trivial rfl rfl rfl rfl rfl rfl rfl rfl rfl rfl (ws' := [(16, (R_emit F1 A1 (2 : Int32) (0 : Int32)).2.1, G1, (R_emit F1 A1 (2 : Int32) (0 : Int32)).2.2, B1)]) rfl ?_
  refine Wk.pop o_L_law_90 rfl ?_
  exact h2

set_option maxRecDepth 65536 in
set_option maxHeartbeats 4000000 in
theorem wp_L_law_91 {l : Launch} {Z : State} {a0 : Array Value} (H : OK Z a0) (sl : Int32) (sv : Int32 → Int32) (F1 : Nat → Int32) (G1 : Nat → Int64) (A1 : Nat → Int32 → Int32) (B1 : Nat → Int32 → Int64) (v3 : Int32) (v4 : Int32) (v6 : Int32) (v7 : Int32) {Q : Option Value → WL → Prop} (s1 : (en_emit F1 A1 (9 : Int32) (0 : Int32)).isSome = true) (h2 : Wk l Z (MoL Z cdC "ContextProfilerL3" false) md_L_law 100 [.unset, .unset, .unset, .val (.int v3), .val (.int v4), .unset, .val (.int v6), .val (.int v7), .val (.ref 1), .unset, .unset, .unset] [] (sl, sv, [(16, (R_emit F1 A1 (9 : Int32) (0 : Int32)).2.1, G1, (R_emit F1 A1 (9 : Int32) (0 : Int32)).2.2, B1)]) 17 502 Q) :
    Wk l Z (MoL Z cdC "ContextProfilerL3" false) md_L_law 91 [.unset, .unset, .unset, .val (.int v3), .val (.int v4), .unset, .val (.int v6), .val (.int v7), .val (.ref 1), .unset, .unset, .unset] [] (sl, sv, [(16, F1, G1, A1, B1)]) 17 502 Q := by
  refine Wk.aload o_L_law_91 rfl ?_
  refine Wk.bipush o_L_law_93 (z := (9 : Int32)) (by decide) ?_
  refine Wk.iconst o_L_law_95 (z := (0 : Int32)) (by decide) ?_
  refine Wk.callLF (coC H) [.int (9 : Int32), .int (0 : Int32)] 0 [] (i' := 1) (H.w 83 rfl) (cv_emit H) o_L_law_96 (run_emit H F1 G1 A1 B1 (9 : Int32) (0 : Int32) s1) (wt := 0) (cu' := 17) (su' := 502) (by decide) trivial rfl rfl rfl rfl rfl rfl rfl rfl rfl rfl (ws' := [(16, (R_emit F1 A1 (9 : Int32) (0 : Int32)).2.1, G1, (R_emit F1 A1 (9 : Int32) (0 : Int32)).2.2, B1)]) rfl ?_
  refine Wk.pop o_L_law_99 rfl ?_
  exact h2

set_option maxRecDepth 65536 in
set_option maxHeartbeats 4000000 in
theorem wp_L_law_100 {l : Launch} {Z : State} {a0 : Array Value} (H : OK Z a0) (sl : Int32) (sv : Int32 → Int32) (F1 : Nat → Int32) (G1 : Nat → Int64) (A1 : Nat → Int32 → Int32) (B1 : Nat → Int32 → Int64) (v3 : Int32) (v4 : Int32) (v6 : Int32) (v7 : Int32) {Q : Option Value → WL → Prop} (s1 : (en_setEntry F1 A1 (0 : Int32) (0 : Int32)).isSome = true) (h3 : ¬ (R_setEntry F1 A1 (0 : Int32) (0 : Int32)).1 = 0 → Wk l Z (MoL Z cdC "ContextProfilerL3" false) md_L_law 112 [.unset, .unset, .unset, .val (.int v3), .val (.int v4), .unset, .val (.int v6), .val (.int v7), .val (.ref 1), .unset, .unset, .unset] [] (sl, sv, [(16, F1, G1, (R_setEntry F1 A1 (0 : Int32) (0 : Int32)).2, B1)]) 17 502 Q) (h4 : (R_setEntry F1 A1 (0 : Int32) (0 : Int32)).1 = 0 → Q (some (.int (0 : Int32))) (sl, sv, [(16, F1, G1, (R_setEntry F1 A1 (0 : Int32) (0 : Int32)).2, B1)])) :
    Wk l Z (MoL Z cdC "ContextProfilerL3" false) md_L_law 100 [.unset, .unset, .unset, .val (.int v3), .val (.int v4), .unset, .val (.int v6), .val (.int v7), .val (.ref 1), .unset, .unset, .unset] [] (sl, sv, [(16, F1, G1, A1, B1)]) 17 502 Q := by
  refine Wk.aload o_L_law_100 rfl ?_
  refine Wk.iconst o_L_law_102 (z := (0 : Int32)) (by decide) ?_
  refine Wk.iconst o_L_law_103 (z := (0 : Int32)) (by decide) ?_
  refine Wk.callLF (coC H) [.int (0 : Int32), .int (0 : Int32)] 0 [] (i' := 1) (H.w 88 rfl) (cv_setEntry H) o_L_law_104 (run_setEntry H F1 G1 A1 B1 (0 : Int32) (0 : Int32) s1) (wt := 0) (cu' := 17) (su' := 502) (by decide) trivial rfl rfl rfl rfl rfl rfl rfl rfl rfl rfl (ws' := [(16, F1, G1, (R_setEntry F1 A1 (0 : Int32) (0 : Int32)).2, B1)]) rfl ?_
  refine Wk.if_ne o_L_law_107 (fun q2 => ?_) (fun q2 => ?_)
  · exact (h3 q2)
  · refine Wk.iconst o_L_law_110 (z := (0 : Int32)) (by decide) ?_
    exact Wk.zreturn mrL rfl o_L_law_111 rfl (by decide) (by decide) (y := (0 : Int32)) (by decide) (h4 q2)

set_option maxRecDepth 65536 in
set_option maxHeartbeats 4000000 in
theorem wp_L_law_112 {l : Launch} {Z : State} {a0 : Array Value} (H : OK Z a0) (sl : Int32) (sv : Int32 → Int32) (F1 : Nat → Int32) (G1 : Nat → Int64) (A1 : Nat → Int32 → Int32) (B1 : Nat → Int32 → Int64) (v3 : Int32) (v4 : Int32) (v6 : Int32) (v7 : Int32) {Q : Option Value → WL → Prop} (s1 : (en_setEntry F1 A1 v6 (3 : Int32)).isSome = true) (h3 : ¬ (R_setEntry F1 A1 v6 (3 : Int32)).1 = 0 → Wk l Z (MoL Z cdC "ContextProfilerL3" false) md_L_law 125 [.unset, .unset, .unset, .val (.int v3), .val (.int v4), .unset, .val (.int v6), .val (.int v7), .val (.ref 1), .unset, .unset, .unset] [] (sl, sv, [(16, F1, G1, (R_setEntry F1 A1 v6 (3 : Int32)).2, B1)]) 17 502 Q) (h4 : (R_setEntry F1 A1 v6 (3 : Int32)).1 = 0 → Q (some (.int (0 : Int32))) (sl, sv, [(16, F1, G1, (R_setEntry F1 A1 v6 (3 : Int32)).2, B1)])) :
    Wk l Z (MoL Z cdC "ContextProfilerL3" false) md_L_law 112 [.unset, .unset, .unset, .val (.int v3), .val (.int v4), .unset, .val (.int v6), .val (.int v7), .val (.ref 1), .unset, .unset, .unset] [] (sl, sv, [(16, F1, G1, A1, B1)]) 17 502 Q := by
  refine Wk.aload o_L_law_112 rfl ?_
  refine Wk.iload o_L_law_114 rfl ?_
  refine Wk.iconst o_L_law_116 (z := (3 : Int32)) (by decide) ?_
  refine Wk.callLF (coC H) [.int v6, .int (3 : Int32)] 0 [] (i' := 1) (H.w 88 rfl) (cv_setEntry H) o_L_law_117 (run_setEntry H F1 G1 A1 B1 v6 (3 : Int32) s1) (wt := 0) (cu' := 17) (su' := 502) (by decide) trivial rfl rfl rfl rfl rfl rfl rfl rfl rfl rfl (ws' := [(16, F1, G1, (R_setEntry F1 A1 v6 (3 : Int32)).2, B1)]) rfl ?_
  refine Wk.if_ne o_L_law_120 (fun q2 => ?_) (fun q2 => ?_)
  · exact (h3 q2)
  · refine Wk.iconst o_L_law_123 (z := (0 : Int32)) (by decide) ?_
    exact Wk.zreturn mrL rfl o_L_law_124 rfl (by decide) (by decide) (y := (0 : Int32)) (by decide) (h4 q2)

set_option maxRecDepth 65536 in
set_option maxHeartbeats 4000000 in
theorem wp_L_law_125 {l : Launch} {Z : State} {a0 : Array Value} (H : OK Z a0) (sl : Int32) (sv : Int32 → Int32) (F1 : Nat → Int32) (G1 : Nat → Int64) (A1 : Nat → Int32 → Int32) (B1 : Nat → Int32 → Int64) (v3 : Int32) (v4 : Int32) (v6 : Int32) (v7 : Int32) {Q : Option Value → WL → Prop} (s1 : (en_run F1 A1 (100 : Int32)).isSome = true) (h3 : (R_run F1 A1 (100 : Int32)).1 = (6 : Int32) → Wk l Z (MoL Z cdC "ContextProfilerL3" false) md_L_law 139 [.unset, .unset, .unset, .val (.int v3), .val (.int v4), .unset, .val (.int v6), .val (.int v7), .val (.ref 1), .unset, .unset, .unset] [] (sl, sv, [(16, (R_run F1 A1 (100 : Int32)).2.1, G1, (R_run F1 A1 (100 : Int32)).2.2, B1)]) 17 502 Q) (h4 : ¬ (R_run F1 A1 (100 : Int32)).1 = (6 : Int32) → Q (some (.int (0 : Int32))) (sl, sv, [(16, (R_run F1 A1 (100 : Int32)).2.1, G1, (R_run F1 A1 (100 : Int32)).2.2, B1)])) :
    Wk l Z (MoL Z cdC "ContextProfilerL3" false) md_L_law 125 [.unset, .unset, .unset, .val (.int v3), .val (.int v4), .unset, .val (.int v6), .val (.int v7), .val (.ref 1), .unset, .unset, .unset] [] (sl, sv, [(16, F1, G1, A1, B1)]) 17 502 Q := by
  refine Wk.aload o_L_law_125 rfl ?_
  refine Wk.bipush o_L_law_127 (z := (100 : Int32)) (by decide) ?_
  refine Wk.callLF (coC H) [.int (100 : Int32)] 0 [] (i' := 1) (H.w 93 rfl) (cv_run H) o_L_law_129 (run_run H F1 G1 A1 B1 (100 : Int32) s1) (wt := 0) (cu' := 17) (su' := 502) (by decide) trivial rfl rfl rfl rfl rfl rfl rfl rfl rfl rfl (ws' := [(16, (R_run F1 A1 (100 : Int32)).2.1, G1, (R_run F1 A1 (100 : Int32)).2.2, B1)]) rfl ?_
  refine Wk.bipush o_L_law_132 (z := (6 : Int32)) (by decide) ?_
  refine Wk.icmp_eq o_L_law_134 (fun q2 => ?_) (fun q2 => ?_)
  · exact (h3 q2)
  · refine Wk.iconst o_L_law_137 (z := (0 : Int32)) (by decide) ?_
    exact Wk.zreturn mrL rfl o_L_law_138 rfl (by decide) (by decide) (y := (0 : Int32)) (by decide) (h4 q2)

set_option maxRecDepth 65536 in
set_option maxHeartbeats 4000000 in
theorem wp_L_law_139 {l : Launch} {Z : State} {a0 : Array Value} (H : OK Z a0) (sl : Int32) (sv : Int32 → Int32) (F1 : Nat → Int32) (G1 : Nat → Int64) (A1 : Nat → Int32 → Int32) (B1 : Nat → Int32 → Int64) (v3 : Int32) (v4 : Int32) (v6 : Int32) (v7 : Int32) {Q : Option Value → WL → Prop} (h1 : Wk l Z (MoL Z cdC "ContextProfilerL3" false) md_L_law 148 [.unset, .unset, .unset, .val (.int v3), .val (.int v4), .unset, .val (.int v6), .val (.int v7), .val (.ref 1), .val (.int (0 : Int32)), .val (.int (0 : Int32)), .val (.int (1 : Int32))] [] (sl, sv, [(16, F1, G1, A1, B1)]) 17 502 Q) :
    Wk l Z (MoL Z cdC "ContextProfilerL3" false) md_L_law 139 [.unset, .unset, .unset, .val (.int v3), .val (.int v4), .unset, .val (.int v6), .val (.int v7), .val (.ref 1), .unset, .unset, .unset] [] (sl, sv, [(16, F1, G1, A1, B1)]) 17 502 Q := by
  refine Wk.iconst o_L_law_139 (z := (0 : Int32)) (by decide) ?_
  refine Wk.istore o_L_law_140 (Or.inl rfl) (L' := [.unset, .unset, .unset, .val (.int v3), .val (.int v4), .unset, .val (.int v6), .val (.int v7), .val (.ref 1), .val (.int (0 : Int32)), .unset, .unset]) rfl ?_
  refine Wk.iconst o_L_law_142 (z := (0 : Int32)) (by decide) ?_
  refine Wk.istore o_L_law_143 (Or.inl rfl) (L' := [.unset, .unset, .unset, .val (.int v3), .val (.int v4), .unset, .val (.int v6), .val (.int v7), .val (.ref 1), .val (.int (0 : Int32)), .val (.int (0 : Int32)), .unset]) rfl ?_
  refine Wk.iconst o_L_law_145 (z := (1 : Int32)) (by decide) ?_
  refine Wk.istore o_L_law_146 (Or.inl rfl) (L' := [.unset, .unset, .unset, .val (.int v3), .val (.int v4), .unset, .val (.int v6), .val (.int v7), .val (.ref 1), .val (.int (0 : Int32)), .val (.int (0 : Int32)), .val (.int (1 : Int32))]) rfl ?_
  exact h1

set_option maxRecDepth 65536 in
set_option maxHeartbeats 4000000 in
theorem wp_L_law_148 {l : Launch} {Z : State} {a0 : Array Value} (H : OK Z a0) (sl : Int32) (sv : Int32 → Int32) (F1 : Nat → Int32) (G1 : Nat → Int64) (A1 : Nat → Int32 → Int32) (B1 : Nat → Int32 → Int64) (v3 : Int32) (v4 : Int32) (v6 : Int32) (v7 : Int32) (v9 : Int32) (v10 : Int32) (v11 : Int32) {Q : Option Value → WL → Prop} (s2 : (6 : Int32) < v11 → (en_info F1 A1 (0 : Int32)).isSome = true) (s4 : (6 : Int32) < v11 → (R_info F1 A1 (0 : Int32)) = (2 : Int32) → (en_info F1 A1 (1 : Int32)).isSome = true) (s6 : (6 : Int32) < v11 → (R_info F1 A1 (0 : Int32)) = (2 : Int32) → (R_info F1 A1 (1 : Int32)) = (6 : Int32) → (en_info F1 A1 (2 : Int32)).isSome = true) (s8 : (6 : Int32) < v11 → (R_info F1 A1 (0 : Int32)) = (2 : Int32) → (R_info F1 A1 (1 : Int32)) = (6 : Int32) → (R_info F1 A1 (2 : Int32)) = (2 : Int32) → (en_info F1 A1 (3 : Int32)).isSome = true) (s10 : (6 : Int32) < v11 → (R_info F1 A1 (0 : Int32)) = (2 : Int32) → (R_info F1 A1 (1 : Int32)) = (6 : Int32) → (R_info F1 A1 (2 : Int32)) = (2 : Int32) → (R_info F1 A1 (3 : Int32)) = 0 → (en_info F1 A1 (4 : Int32)).isSome = true) (s11 : (6 : Int32) < v11 → (R_info F1 A1 (0 : Int32)) = (2 : Int32) → (R_info F1 A1 (1 : Int32)) = (6 : Int32) → (R_info F1 A1 (2 : Int32)) = (2 : Int32) → (R_info F1 A1 (3 : Int32)) = 0 → ¬ v7 = (0 : Int32)) (s13 : (6 : Int32) < v11 → (R_info F1 A1 (0 : Int32)) = (2 : Int32) → (R_info F1 A1 (1 : Int32)) = (6 : Int32) → (R_info F1 A1 (2 : Int32)) = (2 : Int32) → (R_info F1 A1 (3 : Int32)) = 0 → (R_info F1 A1 (4 : Int32)) = ((6 : Int32) / v7) → (en_info F1 A1 (5 : Int32)).isSome = true) (s17 : (6 : Int32) < v11 → (R_info F1 A1 (0 : Int32)) = (2 : Int32) → (R_info F1 A1 (1 : Int32)) = (6 : Int32) → (R_info F1 A1 (2 : Int32)) = (2 : Int32) → (R_info F1 A1 (3 : Int32)) = 0 → (R_info F1 A1 (4 : Int32)) = ((6 : Int32) / v7) → (R_info F1 A1 (5 : Int32)) = (if 0 < v10 then (2 : Int32) else (1 : Int32)) → (en_info F1 A1 (6 : Int32)).isSome = true) (s19 : (6 : Int32) < v11 → (R_info F1 A1 (0 : Int32)) = (2 : Int32) → (R_info F1 A1 (1 : Int32)) = (6 : Int32) → (R_info F1 A1 (2 : Int32)) = (2 : Int32) → (R_info F1 A1 (3 : Int32)) = 0 → (R_info F1 A1 (4 : Int32)) = ((6 : Int32) / v7) → (R_info F1 A1 (5 : Int32)) = (if 0 < v10 then (2 : Int32) else (1 : Int32)) → (R_info F1 A1 (6 : Int32)) = 0 → (en_info F1 A1 (7 : Int32)).isSome = true) (s21 : (6 : Int32) < v11 → (R_info F1 A1 (0 : Int32)) = (2 : Int32) → (R_info F1 A1 (1 : Int32)) = (6 : Int32) → (R_info F1 A1 (2 : Int32)) = (2 : Int32) → (R_info F1 A1 (3 : Int32)) = 0 → (R_info F1 A1 (4 : Int32)) = ((6 : Int32) / v7) → (R_info F1 A1 (5 : Int32)) = (if 0 < v10 then (2 : Int32) else (1 : Int32)) → (R_info F1 A1 (6 : Int32)) = 0 → (R_info F1 A1 (7 : Int32)) = (1 : Int32) → (en_info F1 A1 (8 : Int32)).isSome = true) (s23 : (6 : Int32) < v11 → (R_info F1 A1 (0 : Int32)) = (2 : Int32) → (R_info F1 A1 (1 : Int32)) = (6 : Int32) → (R_info F1 A1 (2 : Int32)) = (2 : Int32) → (R_info F1 A1 (3 : Int32)) = 0 → (R_info F1 A1 (4 : Int32)) = ((6 : Int32) / v7) → (R_info F1 A1 (5 : Int32)) = (if 0 < v10 then (2 : Int32) else (1 : Int32)) → (R_info F1 A1 (6 : Int32)) = 0 → (R_info F1 A1 (7 : Int32)) = (1 : Int32) → (R_info F1 A1 (8 : Int32)) = (2 : Int32) → (en_info F1 A1 (9 : Int32)).isSome = true) (s25 : (6 : Int32) < v11 → (R_info F1 A1 (0 : Int32)) = (2 : Int32) → (R_info F1 A1 (1 : Int32)) = (6 : Int32) → (R_info F1 A1 (2 : Int32)) = (2 : Int32) → (R_info F1 A1 (3 : Int32)) = 0 → (R_info F1 A1 (4 : Int32)) = ((6 : Int32) / v7) → (R_info F1 A1 (5 : Int32)) = (if 0 < v10 then (2 : Int32) else (1 : Int32)) → (R_info F1 A1 (6 : Int32)) = 0 → (R_info F1 A1 (7 : Int32)) = (1 : Int32) → (R_info F1 A1 (8 : Int32)) = (2 : Int32) → (R_info F1 A1 (9 : Int32)) = (1 : Int32) → (en_info F1 A1 (10 : Int32)).isSome = true) (s28 : (6 : Int32) < v11 → (R_info F1 A1 (0 : Int32)) = (2 : Int32) → (R_info F1 A1 (1 : Int32)) = (6 : Int32) → (R_info F1 A1 (2 : Int32)) = (2 : Int32) → (R_info F1 A1 (3 : Int32)) = 0 → (R_info F1 A1 (4 : Int32)) = ((6 : Int32) / v7) → (R_info F1 A1 (5 : Int32)) = (if 0 < v10 then (2 : Int32) else (1 : Int32)) → (R_info F1 A1 (6 : Int32)) = 0 → (R_info F1 A1 (7 : Int32)) = (1 : Int32) → (R_info F1 A1 (8 : Int32)) = (2 : Int32) → (R_info F1 A1 (9 : Int32)) = (1 : Int32) → (R_info F1 A1 (10 : Int32)) = (v3 + v4) → (f_frameFunction F1 A1 (0 : Int32)) = 0 → (en_pushQuery F1 A1 (0 : Int32)).isSome = true) (h29 : (6 : Int32) < v11 → (R_info F1 A1 (0 : Int32)) = (2 : Int32) → (R_info F1 A1 (1 : Int32)) = (6 : Int32) → (R_info F1 A1 (2 : Int32)) = (2 : Int32) → (R_info F1 A1 (3 : Int32)) = 0 → (R_info F1 A1 (4 : Int32)) = ((6 : Int32) / v7) → (R_info F1 A1 (5 : Int32)) = (if 0 < v10 then (2 : Int32) else (1 : Int32)) → (R_info F1 A1 (6 : Int32)) = 0 → (R_info F1 A1 (7 : Int32)) = (1 : Int32) → (R_info F1 A1 (8 : Int32)) = (2 : Int32) → (R_info F1 A1 (9 : Int32)) = (1 : Int32) → (R_info F1 A1 (10 : Int32)) = (v3 + v4) → (f_frameFunction F1 A1 (0 : Int32)) = 0 → Wk l Z (MoL Z cdC "ContextProfilerL3" false) md_L_law 360 [.unset, .unset, .unset, .unset, .unset, .unset, .val (.int v6), .unset, .val (.ref 1), .val (.int v9), .val (.int v10), .unset] [] (sl, sv, [(16, (R_pushQuery F1 A1 (0 : Int32)).2.1, G1, (R_pushQuery F1 A1 (0 : Int32)).2.2, B1)]) 17 502 Q) (h30 : (6 : Int32) < v11 → (R_info F1 A1 (0 : Int32)) = (2 : Int32) → (R_info F1 A1 (1 : Int32)) = (6 : Int32) → (R_info F1 A1 (2 : Int32)) = (2 : Int32) → (R_info F1 A1 (3 : Int32)) = 0 → (R_info F1 A1 (4 : Int32)) = ((6 : Int32) / v7) → (R_info F1 A1 (5 : Int32)) = (if 0 < v10 then (2 : Int32) else (1 : Int32)) → (R_info F1 A1 (6 : Int32)) = 0 → (R_info F1 A1 (7 : Int32)) = (1 : Int32) → (R_info F1 A1 (8 : Int32)) = (2 : Int32) → (R_info F1 A1 (9 : Int32)) = (1 : Int32) → (R_info F1 A1 (10 : Int32)) = (v3 + v4) → ¬ (f_frameFunction F1 A1 (0 : Int32)) = 0 → Q (some (.int (0 : Int32))) (sl, sv, [(16, F1, G1, A1, B1)])) (h31 : (6 : Int32) < v11 → (R_info F1 A1 (0 : Int32)) = (2 : Int32) → (R_info F1 A1 (1 : Int32)) = (6 : Int32) → (R_info F1 A1 (2 : Int32)) = (2 : Int32) → (R_info F1 A1 (3 : Int32)) = 0 → (R_info F1 A1 (4 : Int32)) = ((6 : Int32) / v7) → (R_info F1 A1 (5 : Int32)) = (if 0 < v10 then (2 : Int32) else (1 : Int32)) → (R_info F1 A1 (6 : Int32)) = 0 → (R_info F1 A1 (7 : Int32)) = (1 : Int32) → (R_info F1 A1 (8 : Int32)) = (2 : Int32) → (R_info F1 A1 (9 : Int32)) = (1 : Int32) → ¬ (R_info F1 A1 (10 : Int32)) = (v3 + v4) → Q (some (.int (0 : Int32))) (sl, sv, [(16, F1, G1, A1, B1)])) (h32 : (6 : Int32) < v11 → (R_info F1 A1 (0 : Int32)) = (2 : Int32) → (R_info F1 A1 (1 : Int32)) = (6 : Int32) → (R_info F1 A1 (2 : Int32)) = (2 : Int32) → (R_info F1 A1 (3 : Int32)) = 0 → (R_info F1 A1 (4 : Int32)) = ((6 : Int32) / v7) → (R_info F1 A1 (5 : Int32)) = (if 0 < v10 then (2 : Int32) else (1 : Int32)) → (R_info F1 A1 (6 : Int32)) = 0 → (R_info F1 A1 (7 : Int32)) = (1 : Int32) → (R_info F1 A1 (8 : Int32)) = (2 : Int32) → ¬ (R_info F1 A1 (9 : Int32)) = (1 : Int32) → Q (some (.int (0 : Int32))) (sl, sv, [(16, F1, G1, A1, B1)])) (h33 : (6 : Int32) < v11 → (R_info F1 A1 (0 : Int32)) = (2 : Int32) → (R_info F1 A1 (1 : Int32)) = (6 : Int32) → (R_info F1 A1 (2 : Int32)) = (2 : Int32) → (R_info F1 A1 (3 : Int32)) = 0 → (R_info F1 A1 (4 : Int32)) = ((6 : Int32) / v7) → (R_info F1 A1 (5 : Int32)) = (if 0 < v10 then (2 : Int32) else (1 : Int32)) → (R_info F1 A1 (6 : Int32)) = 0 → (R_info F1 A1 (7 : Int32)) = (1 : Int32) → ¬ (R_info F1 A1 (8 : Int32)) = (2 : Int32) → Q (some (.int (0 : Int32))) (sl, sv, [(16, F1, G1, A1, B1)])) (h34 : (6 : Int32) < v11 → (R_info F1 A1 (0 : Int32)) = (2 : Int32) → (R_info F1 A1 (1 : Int32)) = (6 : Int32) → (R_info F1 A1 (2 : Int32)) = (2 : Int32) → (R_info F1 A1 (3 : Int32)) = 0 → (R_info F1 A1 (4 : Int32)) = ((6 : Int32) / v7) → (R_info F1 A1 (5 : Int32)) = (if 0 < v10 then (2 : Int32) else (1 : Int32)) → (R_info F1 A1 (6 : Int32)) = 0 → ¬ (R_info F1 A1 (7 : Int32)) = (1 : Int32) → Q (some (.int (0 : Int32))) (sl, sv, [(16, F1, G1, A1, B1)])) (h35 : (6 : Int32) < v11 → (R_info F1 A1 (0 : Int32)) = (2 : Int32) → (R_info F1 A1 (1 : Int32)) = (6 : Int32) → (R_info F1 A1 (2 : Int32)) = (2 : Int32) → (R_info F1 A1 (3 : Int32)) = 0 → (R_info F1 A1 (4 : Int32)) = ((6 : Int32) / v7) → (R_info F1 A1 (5 : Int32)) = (if 0 < v10 then (2 : Int32) else (1 : Int32)) → ¬ (R_info F1 A1 (6 : Int32)) = 0 → Q (some (.int (0 : Int32))) (sl, sv, [(16, F1, G1, A1, B1)])) (h36 : (6 : Int32) < v11 → (R_info F1 A1 (0 : Int32)) = (2 : Int32) → (R_info F1 A1 (1 : Int32)) = (6 : Int32) → (R_info F1 A1 (2 : Int32)) = (2 : Int32) → (R_info F1 A1 (3 : Int32)) = 0 → (R_info F1 A1 (4 : Int32)) = ((6 : Int32) / v7) → ¬ (R_info F1 A1 (5 : Int32)) = (if 0 < v10 then (2 : Int32) else (1 : Int32)) → Q (some (.int (0 : Int32))) (sl, sv, [(16, F1, G1, A1, B1)])) (h37 : (6 : Int32) < v11 → (R_info F1 A1 (0 : Int32)) = (2 : Int32) → (R_info F1 A1 (1 : Int32)) = (6 : Int32) → (R_info F1 A1 (2 : Int32)) = (2 : Int32) → (R_info F1 A1 (3 : Int32)) = 0 → ¬ (R_info F1 A1 (4 : Int32)) = ((6 : Int32) / v7) → Q (some (.int (0 : Int32))) (sl, sv, [(16, F1, G1, A1, B1)])) (h38 : (6 : Int32) < v11 → (R_info F1 A1 (0 : Int32)) = (2 : Int32) → (R_info F1 A1 (1 : Int32)) = (6 : Int32) → (R_info F1 A1 (2 : Int32)) = (2 : Int32) → ¬ (R_info F1 A1 (3 : Int32)) = 0 → Q (some (.int (0 : Int32))) (sl, sv, [(16, F1, G1, A1, B1)])) (h39 : (6 : Int32) < v11 → (R_info F1 A1 (0 : Int32)) = (2 : Int32) → (R_info F1 A1 (1 : Int32)) = (6 : Int32) → ¬ (R_info F1 A1 (2 : Int32)) = (2 : Int32) → Q (some (.int (0 : Int32))) (sl, sv, [(16, F1, G1, A1, B1)])) (h40 : (6 : Int32) < v11 → (R_info F1 A1 (0 : Int32)) = (2 : Int32) → ¬ (R_info F1 A1 (1 : Int32)) = (6 : Int32) → Q (some (.int (0 : Int32))) (sl, sv, [(16, F1, G1, A1, B1)])) (h41 : (6 : Int32) < v11 → ¬ (R_info F1 A1 (0 : Int32)) = (2 : Int32) → Q (some (.int (0 : Int32))) (sl, sv, [(16, F1, G1, A1, B1)])) (s42 : ¬ (6 : Int32) < v11 → ¬ v7 = (0 : Int32)) (h49 : ¬ (6 : Int32) < v11 → Wk l Z (MoL Z cdC "ContextProfilerL3" false) md_L_law 148 [.unset, .unset, .unset, .val (.int v3), .val (.int v4), .unset, .val (.int v6), .val (.int v7), .val (.ref 1), .val (.int (if (v11 % v7) = 0 then (if v11 < (3 : Int32) then (v9 + (1 : Int32)) else (if (5 : Int32) < v11 then (v9 + (1 : Int32)) else v9)) else v9)), .val (.int (if (v11 % v7) = 0 then (if v11 < (3 : Int32) then v10 else (if (5 : Int32) < v11 then v10 else (v10 + (1 : Int32)))) else v10)), .val (.int (v11 + (1 : Int32)))] [] (sl, sv, [(16, F1, G1, A1, B1)]) 17 502 Q) :
    Wk l Z (MoL Z cdC "ContextProfilerL3" false) md_L_law 148 [.unset, .unset, .unset, .val (.int v3), .val (.int v4), .unset, .val (.int v6), .val (.int v7), .val (.ref 1), .val (.int v9), .val (.int v10), .val (.int v11)] [] (sl, sv, [(16, F1, G1, A1, B1)]) 17 502 Q := by
  refine Wk.iload o_L_law_148 rfl ?_
  refine Wk.bipush o_L_law_150 (z := (6 : Int32)) (by decide) ?_
  refine Wk.icmp_gt o_L_law_152 (fun q1 => ?_) (fun q1 => ?_)
  · refine Wk.aload o_L_law_190 rfl ?_
    refine Wk.iconst o_L_law_192 (z := (0 : Int32)) (by decide) ?_
    refine Wk.callLF (coC H) [.int (0 : Int32)] 0 [] (i' := 1) (H.w 158 rfl) (cv_info H) o_L_law_193 (run_info H F1 G1 A1 B1 (0 : Int32) (s2 q1)) (wt := 0) (cu' := 17) (su' := 502) (by decide) trivial rfl rfl rfl rfl rfl rfl rfl rfl rfl rfl (ws' := [(16, F1, G1, A1, B1)]) rfl ?_
    refine Wk.iconst o_L_law_196 (z := (2 : Int32)) (by decide) ?_
    refine Wk.icmp_eq o_L_law_197 (fun q3 => ?_) (fun q3 => ?_)
    · refine Wk.aload o_L_law_202 rfl ?_
      refine Wk.iconst o_L_law_204 (z := (1 : Int32)) (by decide) ?_
      refine Wk.callLF (coC H) [.int (1 : Int32)] 0 [] (i' := 1) (H.w 158 rfl) (cv_info H) o_L_law_205 (run_info H F1 G1 A1 B1 (1 : Int32) (s4 q1 q3)) (wt := 0) (cu' := 17) (su' := 502) (by decide) trivial rfl rfl rfl rfl rfl rfl rfl rfl rfl rfl (ws' := [(16, F1, G1, A1, B1)]) rfl ?_
      refine Wk.bipush o_L_law_208 (z := (6 : Int32)) (by decide) ?_
      refine Wk.icmp_eq o_L_law_210 (fun q5 => ?_) (fun q5 => ?_)
      · refine Wk.aload o_L_law_215 rfl ?_
        refine Wk.iconst o_L_law_217 (z := (2 : Int32)) (by decide) ?_
        refine Wk.callLF (coC H) [.int (2 : Int32)] 0 [] (i' := 1) (H.w 158 rfl) (cv_info H) o_L_law_218 (run_info H F1 G1 A1 B1 (2 : Int32) (s6 q1 q3 q5)) (wt := 0) (cu' := 17) (su' := 502) (by decide) trivial rfl rfl rfl rfl rfl rfl rfl rfl rfl rfl (ws' := [(16, F1, G1, A1, B1)]) rfl ?_
        refine Wk.iconst o_L_law_221 (z := (2 : Int32)) (by decide) ?_
        refine Wk.icmp_eq o_L_law_222 (fun q7 => ?_) (fun q7 => ?_)
        · refine Wk.aload o_L_law_227 rfl ?_
          refine Wk.iconst o_L_law_229 (z := (3 : Int32)) (by decide) ?_
          refine Wk.callLF (coC H) [.int (3 : Int32)] 0 [] (i' := 1) (H.w 158 rfl) (cv_info H) o_L_law_230 (run_info H F1 G1 A1 B1 (3 : Int32) (s8 q1 q3 q5 q7)) (wt := 0) (cu' := 17) (su' := 502) (by decide) trivial rfl rfl rfl rfl rfl rfl rfl rfl rfl rfl (ws' := [(16, F1, G1, A1, B1)]) rfl ?_
          refine Wk.if_eq o_L_law_233 (fun q9 => ?_) (fun q9 => ?_)
          · refine Wk.aload o_L_law_238 rfl ?_
            refine Wk.iconst o_L_law_240 (z := (4 : Int32)) (by decide) ?_
            refine Wk.callLF (coC H) [.int (4 : Int32)] 0 [] (i' := 1) (H.w 158 rfl) (cv_info H) o_L_law_241 (run_info H F1 G1 A1 B1 (4 : Int32) (s10 q1 q3 q5 q7 q9)) (wt := 0) (cu' := 17) (su' := 502) (by decide) trivial rfl rfl rfl rfl rfl rfl rfl rfl rfl rfl (ws' := [(16, F1, G1, A1, B1)]) rfl ?_
            refine Wk.bipush o_L_law_244 (z := (6 : Int32)) (by decide) ?_
            refine Wk.iload o_L_law_246 rfl ?_
            refine Wk.idiv o_L_law_248 (s11 q1 q3 q5 q7 q9) ?_
            refine Wk.icmp_eq o_L_law_249 (fun q12 => ?_) (fun q12 => ?_)
            · refine Wk.aload o_L_law_254 rfl ?_
              refine Wk.iconst o_L_law_256 (z := (5 : Int32)) (by decide) ?_
              refine Wk.callLF (coC H) [.int (5 : Int32)] 0 [] (i' := 1) (H.w 158 rfl) (cv_info H) o_L_law_257 (run_info H F1 G1 A1 B1 (5 : Int32) (s13 q1 q3 q5 q7 q9 q12)) (wt := 0) (cu' := 17) (su' := 502) (by decide) trivial rfl rfl rfl rfl rfl rfl rfl rfl rfl rfl (ws' := [(16, F1, G1, A1, B1)]) rfl ?_
              refine Wk.iload o_L_law_260 rfl ?_
              have J15 : Wk l Z (MoL Z cdC "ContextProfilerL3" false) md_L_law 270 [.unset, .unset, .unset, .val (.int v3), .val (.int v4), .unset, .val (.int v6), .val (.int v7), .val (.ref 1), .val (.int v9), .val (.int v10), .val (.int v11)] [.int (if 0 < v10 then (2 : Int32) else (1 : Int32)), .int (R_info F1 A1 (5 : Int32))] (sl, sv, [(16, F1, G1, A1, B1)]) 17 502 Q := by
                refine Wk.icmp_eq o_L_law_270 (fun q16 => ?_) (fun q16 => ?_)
                · refine Wk.aload o_L_law_275 rfl ?_
                  refine Wk.bipush o_L_law_277 (z := (6 : Int32)) (by decide) ?_
                  refine Wk.callLF (coC H) [.int (6 : Int32)] 0 [] (i' := 1) (H.w 158 rfl) (cv_info H) o_L_law_279 (run_info H F1 G1 A1 B1 (6 : Int32) (s17 q1 q3 q5 q7 q9 q12 q16)) (wt := 0) (cu' := 17) (su' := 502) (by decide) trivial rfl rfl rfl rfl rfl rfl rfl rfl rfl rfl (ws' := [(16, F1, G1, A1, B1)]) rfl ?_
                  refine Wk.if_eq o_L_law_282 (fun q18 => ?_) (fun q18 => ?_)
                  · refine Wk.aload o_L_law_287 rfl ?_
                    refine Wk.bipush o_L_law_289 (z := (7 : Int32)) (by decide) ?_
                    refine Wk.callLF (coC H) [.int (7 : Int32)] 0 [] (i' := 1) (H.w 158 rfl) (cv_info H) o_L_law_291 (run_info H F1 G1 A1 B1 (7 : Int32) (s19 q1 q3 q5 q7 q9 q12 q16 q18)) (wt := 0) (cu' := 17) (su' := 502) (by decide) trivial rfl rfl rfl rfl rfl rfl rfl rfl rfl rfl (ws' := [(16, F1, G1, A1, B1)]) rfl ?_
                    refine Wk.iconst o_L_law_294 (z := (1 : Int32)) (by decide) ?_
                    refine Wk.icmp_eq o_L_law_295 (fun q20 => ?_) (fun q20 => ?_)
                    · refine Wk.aload o_L_law_300 rfl ?_
                      refine Wk.bipush o_L_law_302 (z := (8 : Int32)) (by decide) ?_
                      refine Wk.callLF (coC H) [.int (8 : Int32)] 0 [] (i' := 1) (H.w 158 rfl) (cv_info H) o_L_law_304 (run_info H F1 G1 A1 B1 (8 : Int32) (s21 q1 q3 q5 q7 q9 q12 q16 q18 q20)) (wt := 0) (cu' := 17) (su' := 502) (by decide) trivial rfl rfl rfl rfl rfl rfl rfl rfl rfl rfl (ws' := [(16, F1, G1, A1, B1)]) rfl ?_
                      refine Wk.iconst o_L_law_307 (z := (2 : Int32)) (by decide) ?_
                      refine Wk.icmp_eq o_L_law_308 (fun q22 => ?_) (fun q22 => ?_)
                      · refine Wk.aload o_L_law_313 rfl ?_
                        refine Wk.bipush o_L_law_315 (z := (9 : Int32)) (by decide) ?_
                        refine Wk.callLF (coC H) [.int (9 : Int32)] 0 [] (i' := 1) (H.w 158 rfl) (cv_info H) o_L_law_317 (run_info H F1 G1 A1 B1 (9 : Int32) (s23 q1 q3 q5 q7 q9 q12 q16 q18 q20 q22)) (wt := 0) (cu' := 17) (su' := 502) (by decide) trivial rfl rfl rfl rfl rfl rfl rfl rfl rfl rfl (ws' := [(16, F1, G1, A1, B1)]) rfl ?_
                        refine Wk.iconst o_L_law_320 (z := (1 : Int32)) (by decide) ?_
                        refine Wk.icmp_eq o_L_law_321 (fun q24 => ?_) (fun q24 => ?_)
                        · refine Wk.aload o_L_law_326 rfl ?_
                          refine Wk.bipush o_L_law_328 (z := (10 : Int32)) (by decide) ?_
                          refine Wk.callLF (coC H) [.int (10 : Int32)] 0 [] (i' := 1) (H.w 158 rfl) (cv_info H) o_L_law_330 (run_info H F1 G1 A1 B1 (10 : Int32) (s25 q1 q3 q5 q7 q9 q12 q16 q18 q20 q22 q24)) (wt := 0) (cu' := 17) (su' := 502) (by decide) trivial rfl rfl rfl rfl rfl rfl rfl rfl rfl rfl (ws' := [(16, F1, G1, A1, B1)]) rfl ?_
                          refine Wk.iloadN o_L_law_333 rfl ?_
                          refine Wk.iload o_L_law_334 rfl ?_
                          refine Wk.iadd o_L_law_336 ?_
                          refine Wk.icmp_eq o_L_law_337 (fun q26 => ?_) (fun q26 => ?_)
                          · refine Wk.aload o_L_law_342 rfl ?_
                            refine Wk.iconst o_L_law_344 (z := (0 : Int32)) (by decide) ?_
                            refine Wk.callLF (coC H) [.int (0 : Int32)] 0 [] (i' := 1) (H.w 163 rfl) (cv_frameFunction H) o_L_law_345 (run_frameFunction H F1 G1 A1 B1 (0 : Int32)) (wt := 0) (cu' := 17) (su' := 502) (by decide) trivial rfl rfl rfl rfl rfl rfl rfl rfl rfl rfl (ws' := [(16, F1, G1, A1, B1)]) rfl ?_
                            refine Wk.if_eq o_L_law_348 (fun q27 => ?_) (fun q27 => ?_)
                            · refine Wk.aload o_L_law_353 rfl ?_
                              refine Wk.iconst o_L_law_355 (z := (0 : Int32)) (by decide) ?_
                              refine Wk.callLF (coC H) [.int (0 : Int32)] 0 [] (i' := 1) (H.w 168 rfl) (cv_pushQuery H) o_L_law_356 (run_pushQuery H F1 G1 A1 B1 (0 : Int32) (s28 q1 q3 q5 q7 q9 q12 q16 q18 q20 q22 q24 q26 q27)) (wt := 0) (cu' := 17) (su' := 502) (by decide) trivial rfl rfl rfl rfl rfl rfl rfl rfl rfl rfl (ws' := [(16, (R_pushQuery F1 A1 (0 : Int32)).2.1, G1, (R_pushQuery F1 A1 (0 : Int32)).2.2, B1)]) rfl ?_
                              refine Wk.pop o_L_law_359 rfl ?_
                              refine Wk.forget [false, false, false, true, true, false, false, true, false, false, false, true] (L' := [.unset, .unset, .unset, .unset, .unset, .unset, .val (.int v6), .unset, .val (.ref 1), .val (.int v9), .val (.int v10), .unset]) rfl rfl ?_
                              exact (h29 q1 q3 q5 q7 q9 q12 q16 q18 q20 q22 q24 q26 q27)
                            · refine Wk.iconst o_L_law_351 (z := (0 : Int32)) (by decide) ?_
                              exact Wk.zreturn mrL rfl o_L_law_352 rfl (by decide) (by decide) (y := (0 : Int32)) (by decide) (h30 q1 q3 q5 q7 q9 q12 q16 q18 q20 q22 q24 q26 q27)
                          · refine Wk.iconst o_L_law_340 (z := (0 : Int32)) (by decide) ?_
                            exact Wk.zreturn mrL rfl o_L_law_341 rfl (by decide) (by decide) (y := (0 : Int32)) (by decide) (h31 q1 q3 q5 q7 q9 q12 q16 q18 q20 q22 q24 q26)
                        · refine Wk.iconst o_L_law_324 (z := (0 : Int32)) (by decide) ?_
                          exact Wk.zreturn mrL rfl o_L_law_325 rfl (by decide) (by decide) (y := (0 : Int32)) (by decide) (h32 q1 q3 q5 q7 q9 q12 q16 q18 q20 q22 q24)
                      · refine Wk.iconst o_L_law_311 (z := (0 : Int32)) (by decide) ?_
                        exact Wk.zreturn mrL rfl o_L_law_312 rfl (by decide) (by decide) (y := (0 : Int32)) (by decide) (h33 q1 q3 q5 q7 q9 q12 q16 q18 q20 q22)
                    · refine Wk.iconst o_L_law_298 (z := (0 : Int32)) (by decide) ?_
                      exact Wk.zreturn mrL rfl o_L_law_299 rfl (by decide) (by decide) (y := (0 : Int32)) (by decide) (h34 q1 q3 q5 q7 q9 q12 q16 q18 q20)
                  · refine Wk.iconst o_L_law_285 (z := (0 : Int32)) (by decide) ?_
                    exact Wk.zreturn mrL rfl o_L_law_286 rfl (by decide) (by decide) (y := (0 : Int32)) (by decide) (h35 q1 q3 q5 q7 q9 q12 q16 q18)
                · refine Wk.iconst o_L_law_273 (z := (0 : Int32)) (by decide) ?_
                  exact Wk.zreturn mrL rfl o_L_law_274 rfl (by decide) (by decide) (y := (0 : Int32)) (by decide) (h36 q1 q3 q5 q7 q9 q12 q16)
              refine Wk.if_le o_L_law_262 (fun q14 => ?_) (fun q14 => ?_)
              · refine Wk.iconst o_L_law_269 (z := (1 : Int32)) (by decide) ?_
                first | (rw [show ((if 0 < v10 then (2 : Int32) else (1 : Int32)) : Int32) = (1 : Int32) from if_neg q14] at J15; exact J15) | exact J15 | (simp only [if_neg q14] at J15 ⊢; exact J15)
              · refine Wk.iconst o_L_law_265 (z := (2 : Int32)) (by decide) ?_
                refine Wk.goto o_L_law_266 ?_
                first | (rw [show ((if 0 < v10 then (2 : Int32) else (1 : Int32)) : Int32) = (2 : Int32) from if_pos q14] at J15; exact J15) | exact J15 | (simp only [if_pos q14] at J15 ⊢; exact J15)
            · refine Wk.iconst o_L_law_252 (z := (0 : Int32)) (by decide) ?_
              exact Wk.zreturn mrL rfl o_L_law_253 rfl (by decide) (by decide) (y := (0 : Int32)) (by decide) (h37 q1 q3 q5 q7 q9 q12)
          · refine Wk.iconst o_L_law_236 (z := (0 : Int32)) (by decide) ?_
            exact Wk.zreturn mrL rfl o_L_law_237 rfl (by decide) (by decide) (y := (0 : Int32)) (by decide) (h38 q1 q3 q5 q7 q9)
        · refine Wk.iconst o_L_law_225 (z := (0 : Int32)) (by decide) ?_
          exact Wk.zreturn mrL rfl o_L_law_226 rfl (by decide) (by decide) (y := (0 : Int32)) (by decide) (h39 q1 q3 q5 q7)
      · refine Wk.iconst o_L_law_213 (z := (0 : Int32)) (by decide) ?_
        exact Wk.zreturn mrL rfl o_L_law_214 rfl (by decide) (by decide) (y := (0 : Int32)) (by decide) (h40 q1 q3 q5)
    · refine Wk.iconst o_L_law_200 (z := (0 : Int32)) (by decide) ?_
      exact Wk.zreturn mrL rfl o_L_law_201 rfl (by decide) (by decide) (y := (0 : Int32)) (by decide) (h41 q1 q3)
  · refine Wk.iload o_L_law_155 rfl ?_
    refine Wk.iload o_L_law_157 rfl ?_
    refine Wk.irem o_L_law_159 (s42 q1) ?_
    have J48 : Wk l Z (MoL Z cdC "ContextProfilerL3" false) md_L_law 184 [.unset, .unset, .unset, .val (.int v3), .val (.int v4), .unset, .val (.int v6), .val (.int v7), .val (.ref 1), .val (.int (if (v11 % v7) = 0 then (if v11 < (3 : Int32) then (v9 + (1 : Int32)) else (if (5 : Int32) < v11 then (v9 + (1 : Int32)) else v9)) else v9)), .val (.int (if (v11 % v7) = 0 then (if v11 < (3 : Int32) then v10 else (if (5 : Int32) < v11 then v10 else (v10 + (1 : Int32)))) else v10)), .val (.int v11)] [] (sl, sv, [(16, F1, G1, A1, B1)]) 17 502 Q := by
      refine Wk.iinc o_L_law_184 rfl (z := (v11 + (1 : Int32))) rfl (L' := [.unset, .unset, .unset, .val (.int v3), .val (.int v4), .unset, .val (.int v6), .val (.int v7), .val (.ref 1), .val (.int (if (v11 % v7) = 0 then (if v11 < (3 : Int32) then (v9 + (1 : Int32)) else (if (5 : Int32) < v11 then (v9 + (1 : Int32)) else v9)) else v9)), .val (.int (if (v11 % v7) = 0 then (if v11 < (3 : Int32) then v10 else (if (5 : Int32) < v11 then v10 else (v10 + (1 : Int32)))) else v10)), .val (.int (v11 + (1 : Int32)))]) rfl ?_
      refine Wk.goto o_L_law_187 ?_
      exact (h49 q1)
    refine Wk.if_ne o_L_law_160 (fun q43 => ?_) (fun q43 => ?_)
    · first | (rw [show ((if (v11 % v7) = 0 then (if v11 < (3 : Int32) then (v9 + (1 : Int32)) else (if (5 : Int32) < v11 then (v9 + (1 : Int32)) else v9)) else v9) : Int32) = v9 from if_neg q43, show ((if (v11 % v7) = 0 then (if v11 < (3 : Int32) then v10 else (if (5 : Int32) < v11 then v10 else (v10 + (1 : Int32)))) else v10) : Int32) = v10 from if_neg q43] at J48; exact J48) | exact J48 | (simp only [if_neg q43] at J48 ⊢; exact J48)
    · refine Wk.iload o_L_law_163 rfl ?_
      refine Wk.iconst o_L_law_165 (z := (3 : Int32)) (by decide) ?_
      refine Wk.icmp_lt o_L_law_166 (fun q44 => ?_) (fun q44 => ?_)
      · refine Wk.iinc o_L_law_181 rfl (z := (v9 + (1 : Int32))) rfl (L' := [.unset, .unset, .unset, .val (.int v3), .val (.int v4), .unset, .val (.int v6), .val (.int v7), .val (.ref 1), .val (.int (v9 + (1 : Int32))), .val (.int v10), .val (.int v11)]) rfl ?_
        first | (rw [show ((if (v11 % v7) = 0 then (if v11 < (3 : Int32) then (v9 + (1 : Int32)) else (if (5 : Int32) < v11 then (v9 + (1 : Int32)) else v9)) else v9) : Int32) = (v9 + (1 : Int32)) from Eq.trans (if_pos q43) <| if_pos q44, show ((if (v11 % v7) = 0 then (if v11 < (3 : Int32) then v10 else (if (5 : Int32) < v11 then v10 else (v10 + (1 : Int32)))) else v10) : Int32) = v10 from Eq.trans (if_pos q43) <| if_pos q44] at J48; exact J48) | exact J48 | (simp only [if_pos q43, if_pos q44] at J48 ⊢; exact J48)
      · refine Wk.iload o_L_law_169 rfl ?_
        refine Wk.iconst o_L_law_171 (z := (5 : Int32)) (by decide) ?_
        refine Wk.icmp_gt o_L_law_172 (fun q45 => ?_) (fun q45 => ?_)
        · refine Wk.iinc o_L_law_181 rfl (z := (v9 + (1 : Int32))) rfl (L' := [.unset, .unset, .unset, .val (.int v3), .val (.int v4), .unset, .val (.int v6), .val (.int v7), .val (.ref 1), .val (.int (v9 + (1 : Int32))), .val (.int v10), .val (.int v11)]) rfl ?_
          first | (rw [show ((if (v11 % v7) = 0 then (if v11 < (3 : Int32) then (v9 + (1 : Int32)) else (if (5 : Int32) < v11 then (v9 + (1 : Int32)) else v9)) else v9) : Int32) = (v9 + (1 : Int32)) from Eq.trans (if_pos q43) <| Eq.trans (if_neg q44) <| if_pos q45, show ((if (v11 % v7) = 0 then (if v11 < (3 : Int32) then v10 else (if (5 : Int32) < v11 then v10 else (v10 + (1 : Int32)))) else v10) : Int32) = v10 from Eq.trans (if_pos q43) <| Eq.trans (if_neg q44) <| if_pos q45] at J48; exact J48) | exact J48 | (simp only [if_pos q43, if_neg q44, if_pos q45] at J48 ⊢; exact J48)
        · refine Wk.iinc o_L_law_175 rfl (z := (v10 + (1 : Int32))) rfl (L' := [.unset, .unset, .unset, .val (.int v3), .val (.int v4), .unset, .val (.int v6), .val (.int v7), .val (.ref 1), .val (.int v9), .val (.int (v10 + (1 : Int32))), .val (.int v11)]) rfl ?_
          refine Wk.goto o_L_law_178 ?_
          first | (rw [show ((if (v11 % v7) = 0 then (if v11 < (3 : Int32) then (v9 + (1 : Int32)) else (if (5 : Int32) < v11 then (v9 + (1 : Int32)) else v9)) else v9) : Int32) = v9 from Eq.trans (if_pos q43) <| Eq.trans (if_neg q44) <| if_neg q45, show ((if (v11 % v7) = 0 then (if v11 < (3 : Int32) then v10 else (if (5 : Int32) < v11 then v10 else (v10 + (1 : Int32)))) else v10) : Int32) = (v10 + (1 : Int32)) from Eq.trans (if_pos q43) <| Eq.trans (if_neg q44) <| if_neg q45] at J48; exact J48) | exact J48 | (simp only [if_pos q43, if_neg q44, if_neg q45] at J48 ⊢; exact J48)

set_option maxRecDepth 65536 in
set_option maxHeartbeats 4000000 in
theorem wp_L_law_360 {l : Launch} {Z : State} {a0 : Array Value} (H : OK Z a0) (sl : Int32) (sv : Int32 → Int32) (F1 : Nat → Int32) (G1 : Nat → Int64) (A1 : Nat → Int32 → Int32) (B1 : Nat → Int32 → Int64) (v6 : Int32) (v9 : Int32) (v10 : Int32) {Q : Option Value → WL → Prop} (s1 : (en_self F1 A1 ).isSome = true) (h3 : ¬ (R_self F1 A1 ) = (3 : Int32) → Q (some (.int (0 : Int32))) (sl, sv, [(16, F1, G1, A1, B1)])) (s4 : (R_self F1 A1 ) = (3 : Int32) → (en_inclusive F1 A1 ).isSome = true) (h6 : (R_self F1 A1 ) = (3 : Int32) → ¬ (R_inclusive F1 A1 ) = (6 : Int32) → Q (some (.int (0 : Int32))) (sl, sv, [(16, F1, G1, A1, B1)])) (s7 : (R_self F1 A1 ) = (3 : Int32) → (R_inclusive F1 A1 ) = (6 : Int32) → (en_lost F1 A1 ).isSome = true) (s9 : (R_self F1 A1 ) = (3 : Int32) → (R_inclusive F1 A1 ) = (6 : Int32) → (R_lost F1 A1 ) = 0 → (en_sampledSelf F1 A1 ).isSome = true) (s11 : (R_self F1 A1 ) = (3 : Int32) → (R_inclusive F1 A1 ) = (6 : Int32) → (R_lost F1 A1 ) = 0 → (R_sampledSelf F1 A1 ) = v9 → (en_pushQuery F1 A1 v6).isSome = true) (h12 : (R_self F1 A1 ) = (3 : Int32) → (R_inclusive F1 A1 ) = (6 : Int32) → (R_lost F1 A1 ) = 0 → (R_sampledSelf F1 A1 ) = v9 → Wk l Z (MoL Z cdC "ContextProfilerL3" false) md_L_law 409 [.unset, .unset, .unset, .unset, .unset, .unset, .unset, .unset, .val (.ref 1), .unset, .val (.int v10), .unset] [] (sl, sv, [(16, (R_pushQuery F1 A1 v6).2.1, G1, (R_pushQuery F1 A1 v6).2.2, B1)]) 17 502 Q) (h13 : (R_self F1 A1 ) = (3 : Int32) → (R_inclusive F1 A1 ) = (6 : Int32) → (R_lost F1 A1 ) = 0 → ¬ (R_sampledSelf F1 A1 ) = v9 → Q (some (.int (0 : Int32))) (sl, sv, [(16, F1, G1, A1, B1)])) (h14 : (R_self F1 A1 ) = (3 : Int32) → (R_inclusive F1 A1 ) = (6 : Int32) → ¬ (R_lost F1 A1 ) = 0 → Q (some (.int (0 : Int32))) (sl, sv, [(16, F1, G1, A1, B1)])) :
    Wk l Z (MoL Z cdC "ContextProfilerL3" false) md_L_law 360 [.unset, .unset, .unset, .unset, .unset, .unset, .val (.int v6), .unset, .val (.ref 1), .val (.int v9), .val (.int v10), .unset] [] (sl, sv, [(16, F1, G1, A1, B1)]) 17 502 Q := by
  refine Wk.aload o_L_law_360 rfl ?_
  refine Wk.callLF (coC H) [] 0 [] (i' := 1) (H.w 173 rfl) (cv_self H) o_L_law_362 (run_self H F1 G1 A1 B1 s1) (wt := 0) (cu' := 17) (su' := 502) (by decide) trivial rfl rfl rfl rfl rfl rfl rfl rfl rfl rfl (ws' := [(16, F1, G1, A1, B1)]) rfl ?_
  refine Wk.iconst o_L_law_365 (z := (3 : Int32)) (by decide) ?_
  refine Wk.icmp_ne o_L_law_366 (fun q2 => ?_) (fun q2 => ?_)
  · refine Wk.iconst o_L_law_387 (z := (0 : Int32)) (by decide) ?_
    exact Wk.zreturn mrL rfl o_L_law_388 rfl (by decide) (by decide) (y := (0 : Int32)) (by decide) (h3 q2)
  · refine Wk.aload o_L_law_369 rfl ?_
    refine Wk.callLF (coC H) [] 0 [] (i' := 1) (H.w 182 rfl) (cv_inclusive H) o_L_law_371 (run_inclusive H F1 G1 A1 B1 (s4 q2)) (wt := 0) (cu' := 17) (su' := 502) (by decide) trivial rfl rfl rfl rfl rfl rfl rfl rfl rfl rfl (ws' := [(16, F1, G1, A1, B1)]) rfl ?_
    refine Wk.bipush o_L_law_374 (z := (6 : Int32)) (by decide) ?_
    refine Wk.icmp_ne o_L_law_376 (fun q5 => ?_) (fun q5 => ?_)
    · refine Wk.iconst o_L_law_387 (z := (0 : Int32)) (by decide) ?_
      exact Wk.zreturn mrL rfl o_L_law_388 rfl (by decide) (by decide) (y := (0 : Int32)) (by decide) (h6 q2 q5)
    · refine Wk.aload o_L_law_379 rfl ?_
      refine Wk.callLF (coC H) [] 0 [] (i' := 1) (H.w 187 rfl) (cv_lost H) o_L_law_381 (run_lost H F1 G1 A1 B1 (s7 q2 q5)) (wt := 0) (cu' := 17) (su' := 502) (by decide) trivial rfl rfl rfl rfl rfl rfl rfl rfl rfl rfl (ws' := [(16, F1, G1, A1, B1)]) rfl ?_
      refine Wk.if_eq o_L_law_384 (fun q8 => ?_) (fun q8 => ?_)
      · refine Wk.aload o_L_law_389 rfl ?_
        refine Wk.callLF (coC H) [] 0 [] (i' := 1) (H.w 192 rfl) (cv_sampledSelf H) o_L_law_391 (run_sampledSelf H F1 G1 A1 B1 (s9 q2 q5 q8)) (wt := 0) (cu' := 17) (su' := 502) (by decide) trivial rfl rfl rfl rfl rfl rfl rfl rfl rfl rfl (ws' := [(16, F1, G1, A1, B1)]) rfl ?_
        refine Wk.iload o_L_law_394 rfl ?_
        refine Wk.icmp_eq o_L_law_396 (fun q10 => ?_) (fun q10 => ?_)
        · refine Wk.aload o_L_law_401 rfl ?_
          refine Wk.iload o_L_law_403 rfl ?_
          refine Wk.callLF (coC H) [.int v6] 0 [] (i' := 1) (H.w 168 rfl) (cv_pushQuery H) o_L_law_405 (run_pushQuery H F1 G1 A1 B1 v6 (s11 q2 q5 q8 q10)) (wt := 0) (cu' := 17) (su' := 502) (by decide) trivial rfl rfl rfl rfl rfl rfl rfl rfl rfl rfl (ws' := [(16, (R_pushQuery F1 A1 v6).2.1, G1, (R_pushQuery F1 A1 v6).2.2, B1)]) rfl ?_
          refine Wk.pop o_L_law_408 rfl ?_
          refine Wk.forget [false, false, false, false, false, false, true, false, false, true, false, false] (L' := [.unset, .unset, .unset, .unset, .unset, .unset, .unset, .unset, .val (.ref 1), .unset, .val (.int v10), .unset]) rfl rfl ?_
          exact (h12 q2 q5 q8 q10)
        · refine Wk.iconst o_L_law_399 (z := (0 : Int32)) (by decide) ?_
          exact Wk.zreturn mrL rfl o_L_law_400 rfl (by decide) (by decide) (y := (0 : Int32)) (by decide) (h13 q2 q5 q8 q10)
      · refine Wk.iconst o_L_law_387 (z := (0 : Int32)) (by decide) ?_
        exact Wk.zreturn mrL rfl o_L_law_388 rfl (by decide) (by decide) (y := (0 : Int32)) (by decide) (h14 q2 q5 q8)

set_option maxRecDepth 65536 in
set_option maxHeartbeats 4000000 in
theorem wp_L_law_409 {l : Launch} {Z : State} {a0 : Array Value} (H : OK Z a0) (sl : Int32) (sv : Int32 → Int32) (F1 : Nat → Int32) (G1 : Nat → Int64) (A1 : Nat → Int32 → Int32) (B1 : Nat → Int32 → Int64) (v10 : Int32) {Q : Option Value → WL → Prop} (s1 : (en_self F1 A1 ).isSome = true) (h3 : ¬ (R_self F1 A1 ) = (3 : Int32) → Q (some (.int (0 : Int32))) (sl, sv, [(16, F1, G1, A1, B1)])) (s4 : (R_self F1 A1 ) = (3 : Int32) → (en_inclusive F1 A1 ).isSome = true) (h6 : (R_self F1 A1 ) = (3 : Int32) → ¬ (R_inclusive F1 A1 ) = (3 : Int32) → Q (some (.int (0 : Int32))) (sl, sv, [(16, F1, G1, A1, B1)])) (s7 : (R_self F1 A1 ) = (3 : Int32) → (R_inclusive F1 A1 ) = (3 : Int32) → (en_lost F1 A1 ).isSome = true) (s9 : (R_self F1 A1 ) = (3 : Int32) → (R_inclusive F1 A1 ) = (3 : Int32) → (R_lost F1 A1 ) = 0 → (en_sampledSelf F1 A1 ).isSome = true) (h14 : (R_self F1 A1 ) = (3 : Int32) → (R_inclusive F1 A1 ) = (3 : Int32) → (R_lost F1 A1 ) = 0 → Q (some (.int (nar .boolean (if (R_sampledSelf F1 A1 ) = (if 0 < v10 then v10 else (-1 : Int32)) then (1 : Int32) else (0 : Int32))))) (sl, sv, [(16, F1, G1, A1, B1)])) (h15 : (R_self F1 A1 ) = (3 : Int32) → (R_inclusive F1 A1 ) = (3 : Int32) → ¬ (R_lost F1 A1 ) = 0 → Q (some (.int (0 : Int32))) (sl, sv, [(16, F1, G1, A1, B1)])) :
    Wk l Z (MoL Z cdC "ContextProfilerL3" false) md_L_law 409 [.unset, .unset, .unset, .unset, .unset, .unset, .unset, .unset, .val (.ref 1), .unset, .val (.int v10), .unset] [] (sl, sv, [(16, F1, G1, A1, B1)]) 17 502 Q := by
  refine Wk.aload o_L_law_409 rfl ?_
  refine Wk.callLF (coC H) [] 0 [] (i' := 1) (H.w 173 rfl) (cv_self H) o_L_law_411 (run_self H F1 G1 A1 B1 s1) (wt := 0) (cu' := 17) (su' := 502) (by decide) trivial rfl rfl rfl rfl rfl rfl rfl rfl rfl rfl (ws' := [(16, F1, G1, A1, B1)]) rfl ?_
  refine Wk.iconst o_L_law_414 (z := (3 : Int32)) (by decide) ?_
  refine Wk.icmp_ne o_L_law_415 (fun q2 => ?_) (fun q2 => ?_)
  · refine Wk.iconst o_L_law_435 (z := (0 : Int32)) (by decide) ?_
    exact Wk.zreturn mrL rfl o_L_law_436 rfl (by decide) (by decide) (y := (0 : Int32)) (by decide) (h3 q2)
  · refine Wk.aload o_L_law_418 rfl ?_
    refine Wk.callLF (coC H) [] 0 [] (i' := 1) (H.w 182 rfl) (cv_inclusive H) o_L_law_420 (run_inclusive H F1 G1 A1 B1 (s4 q2)) (wt := 0) (cu' := 17) (su' := 502) (by decide) trivial rfl rfl rfl rfl rfl rfl rfl rfl rfl rfl (ws' := [(16, F1, G1, A1, B1)]) rfl ?_
    refine Wk.iconst o_L_law_423 (z := (3 : Int32)) (by decide) ?_
    refine Wk.icmp_ne o_L_law_424 (fun q5 => ?_) (fun q5 => ?_)
    · refine Wk.iconst o_L_law_435 (z := (0 : Int32)) (by decide) ?_
      exact Wk.zreturn mrL rfl o_L_law_436 rfl (by decide) (by decide) (y := (0 : Int32)) (by decide) (h6 q2 q5)
    · refine Wk.aload o_L_law_427 rfl ?_
      refine Wk.callLF (coC H) [] 0 [] (i' := 1) (H.w 187 rfl) (cv_lost H) o_L_law_429 (run_lost H F1 G1 A1 B1 (s7 q2 q5)) (wt := 0) (cu' := 17) (su' := 502) (by decide) trivial rfl rfl rfl rfl rfl rfl rfl rfl rfl rfl (ws' := [(16, F1, G1, A1, B1)]) rfl ?_
      refine Wk.if_eq o_L_law_432 (fun q8 => ?_) (fun q8 => ?_)
      · refine Wk.aload o_L_law_437 rfl ?_
        refine Wk.callLF (coC H) [] 0 [] (i' := 1) (H.w 192 rfl) (cv_sampledSelf H) o_L_law_439 (run_sampledSelf H F1 G1 A1 B1 (s9 q2 q5 q8)) (wt := 0) (cu' := 17) (su' := 502) (by decide) trivial rfl rfl rfl rfl rfl rfl rfl rfl rfl rfl (ws' := [(16, F1, G1, A1, B1)]) rfl ?_
        refine Wk.iload o_L_law_442 rfl ?_
        have J11 : Wk l Z (MoL Z cdC "ContextProfilerL3" false) md_L_law 453 [.unset, .unset, .unset, .unset, .unset, .unset, .unset, .unset, .val (.ref 1), .unset, .val (.int v10), .unset] [.int (if 0 < v10 then v10 else (-1 : Int32)), .int (R_sampledSelf F1 A1 )] (sl, sv, [(16, F1, G1, A1, B1)]) 17 502 Q := by
          have J13 : Wk l Z (MoL Z cdC "ContextProfilerL3" false) md_L_law 461 [.unset, .unset, .unset, .unset, .unset, .unset, .unset, .unset, .val (.ref 1), .unset, .val (.int v10), .unset] [.int (if (R_sampledSelf F1 A1 ) = (if 0 < v10 then v10 else (-1 : Int32)) then (1 : Int32) else (0 : Int32))] (sl, sv, [(16, F1, G1, A1, B1)]) 17 502 Q := by
            exact Wk.zreturn mrL rfl o_L_law_461 rfl (by decide) (by decide) (y := (nar .boolean (if (R_sampledSelf F1 A1 ) = (if 0 < v10 then v10 else (-1 : Int32)) then (1 : Int32) else (0 : Int32)))) rfl (h14 q2 q5 q8)
          refine Wk.icmp_ne o_L_law_453 (fun q12 => ?_) (fun q12 => ?_)
          · refine Wk.iconst o_L_law_460 (z := (0 : Int32)) (by decide) ?_
            first | (rw [show ((if (R_sampledSelf F1 A1 ) = (if 0 < v10 then v10 else (-1 : Int32)) then (1 : Int32) else (0 : Int32)) : Int32) = (0 : Int32) from if_neg q12] at J13; exact J13) | exact J13 | (simp only [if_neg q12] at J13 ⊢; exact J13)
          · refine Wk.iconst o_L_law_456 (z := (1 : Int32)) (by decide) ?_
            refine Wk.goto o_L_law_457 ?_
            first | (rw [show ((if (R_sampledSelf F1 A1 ) = (if 0 < v10 then v10 else (-1 : Int32)) then (1 : Int32) else (0 : Int32)) : Int32) = (1 : Int32) from if_pos q12] at J13; exact J13) | exact J13 | (simp only [if_pos q12] at J13 ⊢; exact J13)
        refine Wk.if_le o_L_law_444 (fun q10 => ?_) (fun q10 => ?_)
        · refine Wk.iconst o_L_law_452 (z := (-1 : Int32)) (by decide) ?_
          first | (rw [show ((if 0 < v10 then v10 else (-1 : Int32)) : Int32) = (-1 : Int32) from if_neg q10] at J11; exact J11) | exact J11 | (simp only [if_neg q10] at J11 ⊢; exact J11)
        · refine Wk.iload o_L_law_447 rfl ?_
          refine Wk.goto o_L_law_449 ?_
          first | (rw [show ((if 0 < v10 then v10 else (-1 : Int32)) : Int32) = v10 from if_pos q10] at J11; exact J11) | exact J11 | (simp only [if_pos q10] at J11 ⊢; exact J11)
      · refine Wk.iconst o_L_law_435 (z := (0 : Int32)) (by decide) ?_
        exact Wk.zreturn mrL rfl o_L_law_436 rfl (by decide) (by decide) (y := (0 : Int32)) (by decide) (h15 q2 q5 q8)

theorem rt_law {v r : Int32} (e : v = r) : some (Value.int v) = some (Value.int r) := by rw [e]
def lp_L_law : Nat → Nat → Int32 → Int32 → Int32 → Int32 → Int32 → Int32 → Int32 → (Nat → Int32) → (Nat → Int32 → Int32) → Option (Int32)
  | 0, _, _, _, _, _, _, _, _, _, _ => none
  | n + 1, tag, v3, v4, v6, v7, v9, v10, v11, F1, A1 => if tag = 47 then (if ((en_emit F1 A1 (1 : Int32) v3).isSome = true) then lp_L_law n 55 v3 v4 v6 v7 0 0 0 (R_emit F1 A1 (1 : Int32) v3).2.1 (R_emit F1 A1 (1 : Int32) v3).2.2 else none) else if tag = 55 then (if ((en_emit F1 A1 (8 : Int32) v6).isSome = true) then lp_L_law n 65 v3 v4 v6 v7 0 0 0 (R_emit F1 A1 (8 : Int32) v6).2.1 (R_emit F1 A1 (8 : Int32) v6).2.2 else none) else if tag = 65 then (if ((en_emit F1 A1 (10 : Int32) (0 : Int32)).isSome = true) then lp_L_law n 74 v3 v4 v6 v7 0 0 0 (R_emit F1 A1 (10 : Int32) (0 : Int32)).2.1 (R_emit F1 A1 (10 : Int32) (0 : Int32)).2.2 else none) else if tag = 74 then (if ((en_emit F1 A1 (1 : Int32) v4).isSome = true) then lp_L_law n 83 v3 v4 v6 v7 0 0 0 (R_emit F1 A1 (1 : Int32) v4).2.1 (R_emit F1 A1 (1 : Int32) v4).2.2 else none) else if tag = 83 then (if ((en_emit F1 A1 (2 : Int32) (0 : Int32)).isSome = true) then lp_L_law n 91 v3 v4 v6 v7 0 0 0 (R_emit F1 A1 (2 : Int32) (0 : Int32)).2.1 (R_emit F1 A1 (2 : Int32) (0 : Int32)).2.2 else none) else if tag = 91 then (if ((en_emit F1 A1 (9 : Int32) (0 : Int32)).isSome = true) then lp_L_law n 100 v3 v4 v6 v7 0 0 0 (R_emit F1 A1 (9 : Int32) (0 : Int32)).2.1 (R_emit F1 A1 (9 : Int32) (0 : Int32)).2.2 else none) else if tag = 100 then (if ((en_setEntry F1 A1 (0 : Int32) (0 : Int32)).isSome = true) then (if (R_setEntry F1 A1 (0 : Int32) (0 : Int32)).1 = 0 then some ((0 : Int32)) else lp_L_law n 112 v3 v4 v6 v7 0 0 0 F1 (R_setEntry F1 A1 (0 : Int32) (0 : Int32)).2) else none) else if tag = 112 then (if ((en_setEntry F1 A1 v6 (3 : Int32)).isSome = true) then (if (R_setEntry F1 A1 v6 (3 : Int32)).1 = 0 then some ((0 : Int32)) else lp_L_law n 125 v3 v4 v6 v7 0 0 0 F1 (R_setEntry F1 A1 v6 (3 : Int32)).2) else none) else if tag = 125 then (if ((en_run F1 A1 (100 : Int32)).isSome = true) then (if (R_run F1 A1 (100 : Int32)).1 = (6 : Int32) then lp_L_law n 139 v3 v4 v6 v7 0 0 0 (R_run F1 A1 (100 : Int32)).2.1 (R_run F1 A1 (100 : Int32)).2.2 else some ((0 : Int32))) else none) else if tag = 139 then lp_L_law n 148 v3 v4 v6 v7 (0 : Int32) (0 : Int32) (1 : Int32) F1 A1 else if tag = 148 then (if (6 : Int32) < v11 then (if ((en_info F1 A1 (0 : Int32)).isSome = true) then (if (R_info F1 A1 (0 : Int32)) = (2 : Int32) then (if ((en_info F1 A1 (1 : Int32)).isSome = true) then (if (R_info F1 A1 (1 : Int32)) = (6 : Int32) then (if ((en_info F1 A1 (2 : Int32)).isSome = true) then (if (R_info F1 A1 (2 : Int32)) = (2 : Int32) then (if ((en_info F1 A1 (3 : Int32)).isSome = true) then (if (R_info F1 A1 (3 : Int32)) = 0 then (if ((en_info F1 A1 (4 : Int32)).isSome = true) ∧ (¬ v7 = (0 : Int32)) then (if (R_info F1 A1 (4 : Int32)) = ((6 : Int32) / v7) then (if ((en_info F1 A1 (5 : Int32)).isSome = true) then (if (R_info F1 A1 (5 : Int32)) = (if 0 < v10 then (2 : Int32) else (1 : Int32)) then (if ((en_info F1 A1 (6 : Int32)).isSome = true) then (if (R_info F1 A1 (6 : Int32)) = 0 then (if ((en_info F1 A1 (7 : Int32)).isSome = true) then (if (R_info F1 A1 (7 : Int32)) = (1 : Int32) then (if ((en_info F1 A1 (8 : Int32)).isSome = true) then (if (R_info F1 A1 (8 : Int32)) = (2 : Int32) then (if ((en_info F1 A1 (9 : Int32)).isSome = true) then (if (R_info F1 A1 (9 : Int32)) = (1 : Int32) then (if ((en_info F1 A1 (10 : Int32)).isSome = true) then (if (R_info F1 A1 (10 : Int32)) = (v3 + v4) then (if (f_frameFunction F1 A1 (0 : Int32)) = 0 then (if ((en_pushQuery F1 A1 (0 : Int32)).isSome = true) then lp_L_law n 360 0 0 v6 0 v9 v10 0 (R_pushQuery F1 A1 (0 : Int32)).2.1 (R_pushQuery F1 A1 (0 : Int32)).2.2 else none) else some ((0 : Int32))) else some ((0 : Int32))) else none) else some ((0 : Int32))) else none) else some ((0 : Int32))) else none) else some ((0 : Int32))) else none) else some ((0 : Int32))) else none) else some ((0 : Int32))) else none) else some ((0 : Int32))) else none) else some ((0 : Int32))) else none) else some ((0 : Int32))) else none) else some ((0 : Int32))) else none) else some ((0 : Int32))) else none) else (if (¬ v7 = (0 : Int32)) then lp_L_law n 148 v3 v4 v6 v7 (if (v11 % v7) = 0 then (if v11 < (3 : Int32) then (v9 + (1 : Int32)) else (if (5 : Int32) < v11 then (v9 + (1 : Int32)) else v9)) else v9) (if (v11 % v7) = 0 then (if v11 < (3 : Int32) then v10 else (if (5 : Int32) < v11 then v10 else (v10 + (1 : Int32)))) else v10) (v11 + (1 : Int32)) F1 A1 else none)) else if tag = 360 then (if ((en_self F1 A1 ).isSome = true) then (if (R_self F1 A1 ) = (3 : Int32) then (if ((en_inclusive F1 A1 ).isSome = true) then (if (R_inclusive F1 A1 ) = (6 : Int32) then (if ((en_lost F1 A1 ).isSome = true) then (if (R_lost F1 A1 ) = 0 then (if ((en_sampledSelf F1 A1 ).isSome = true) then (if (R_sampledSelf F1 A1 ) = v9 then (if ((en_pushQuery F1 A1 v6).isSome = true) then lp_L_law n 409 0 0 0 0 0 v10 0 (R_pushQuery F1 A1 v6).2.1 (R_pushQuery F1 A1 v6).2.2 else none) else some ((0 : Int32))) else none) else some ((0 : Int32))) else none) else some ((0 : Int32))) else none) else some ((0 : Int32))) else none) else if tag = 409 then (if ((en_self F1 A1 ).isSome = true) then (if (R_self F1 A1 ) = (3 : Int32) then (if ((en_inclusive F1 A1 ).isSome = true) then (if (R_inclusive F1 A1 ) = (3 : Int32) then (if ((en_lost F1 A1 ).isSome = true) then (if (R_lost F1 A1 ) = 0 then (if ((en_sampledSelf F1 A1 ).isSome = true) then some ((nar .boolean (if (R_sampledSelf F1 A1 ) = (if 0 < v10 then v10 else (-1 : Int32)) then (1 : Int32) else (0 : Int32)))) else none) else some ((0 : Int32))) else none) else some ((0 : Int32))) else none) else some ((0 : Int32))) else none) else none
theorem lp_L_law_z (tag : Nat) (v3 : Int32) (v4 : Int32) (v6 : Int32) (v7 : Int32) (v9 : Int32) (v10 : Int32) (v11 : Int32) (F1 : Nat → Int32) (A1 : Nat → Int32 → Int32) : lp_L_law 0 tag  v3 v4 v6 v7 v9 v10 v11 F1 A1 = none := Eq.trans rfl rfl
theorem lp_L_law_47 (n : Nat) (v3 : Int32) (v4 : Int32) (v6 : Int32) (v7 : Int32) (v9 : Int32) (v10 : Int32) (v11 : Int32) (F1 : Nat → Int32) (A1 : Nat → Int32 → Int32) : lp_L_law (n + 1) 47  v3 v4 v6 v7 v9 v10 v11 F1 A1 = (if ((en_emit F1 A1 (1 : Int32) v3).isSome = true) then lp_L_law n 55 v3 v4 v6 v7 0 0 0 (R_emit F1 A1 (1 : Int32) v3).2.1 (R_emit F1 A1 (1 : Int32) v3).2.2 else none) := by
  rw [lp_L_law, if_pos rfl]
theorem lp_L_law_55 (n : Nat) (v3 : Int32) (v4 : Int32) (v6 : Int32) (v7 : Int32) (v9 : Int32) (v10 : Int32) (v11 : Int32) (F1 : Nat → Int32) (A1 : Nat → Int32 → Int32) : lp_L_law (n + 1) 55  v3 v4 v6 v7 v9 v10 v11 F1 A1 = (if ((en_emit F1 A1 (8 : Int32) v6).isSome = true) then lp_L_law n 65 v3 v4 v6 v7 0 0 0 (R_emit F1 A1 (8 : Int32) v6).2.1 (R_emit F1 A1 (8 : Int32) v6).2.2 else none) := by
  rw [lp_L_law, if_neg (by decide), if_pos rfl]
theorem lp_L_law_65 (n : Nat) (v3 : Int32) (v4 : Int32) (v6 : Int32) (v7 : Int32) (v9 : Int32) (v10 : Int32) (v11 : Int32) (F1 : Nat → Int32) (A1 : Nat → Int32 → Int32) : lp_L_law (n + 1) 65  v3 v4 v6 v7 v9 v10 v11 F1 A1 = (if ((en_emit F1 A1 (10 : Int32) (0 : Int32)).isSome = true) then lp_L_law n 74 v3 v4 v6 v7 0 0 0 (R_emit F1 A1 (10 : Int32) (0 : Int32)).2.1 (R_emit F1 A1 (10 : Int32) (0 : Int32)).2.2 else none) := by
  rw [lp_L_law, if_neg (by decide), if_neg (by decide), if_pos rfl]
theorem lp_L_law_74 (n : Nat) (v3 : Int32) (v4 : Int32) (v6 : Int32) (v7 : Int32) (v9 : Int32) (v10 : Int32) (v11 : Int32) (F1 : Nat → Int32) (A1 : Nat → Int32 → Int32) : lp_L_law (n + 1) 74  v3 v4 v6 v7 v9 v10 v11 F1 A1 = (if ((en_emit F1 A1 (1 : Int32) v4).isSome = true) then lp_L_law n 83 v3 v4 v6 v7 0 0 0 (R_emit F1 A1 (1 : Int32) v4).2.1 (R_emit F1 A1 (1 : Int32) v4).2.2 else none) := by
  rw [lp_L_law, if_neg (by decide), if_neg (by decide), if_neg (by decide), if_pos rfl]
theorem lp_L_law_83 (n : Nat) (v3 : Int32) (v4 : Int32) (v6 : Int32) (v7 : Int32) (v9 : Int32) (v10 : Int32) (v11 : Int32) (F1 : Nat → Int32) (A1 : Nat → Int32 → Int32) : lp_L_law (n + 1) 83  v3 v4 v6 v7 v9 v10 v11 F1 A1 = (if ((en_emit F1 A1 (2 : Int32) (0 : Int32)).isSome = true) then lp_L_law n 91 v3 v4 v6 v7 0 0 0 (R_emit F1 A1 (2 : Int32) (0 : Int32)).2.1 (R_emit F1 A1 (2 : Int32) (0 : Int32)).2.2 else none) := by
  rw [lp_L_law, if_neg (by decide), if_neg (by decide), if_neg (by decide), if_neg (by decide), if_pos rfl]
theorem lp_L_law_91 (n : Nat) (v3 : Int32) (v4 : Int32) (v6 : Int32) (v7 : Int32) (v9 : Int32) (v10 : Int32) (v11 : Int32) (F1 : Nat → Int32) (A1 : Nat → Int32 → Int32) : lp_L_law (n + 1) 91  v3 v4 v6 v7 v9 v10 v11 F1 A1 = (if ((en_emit F1 A1 (9 : Int32) (0 : Int32)).isSome = true) then lp_L_law n 100 v3 v4 v6 v7 0 0 0 (R_emit F1 A1 (9 : Int32) (0 : Int32)).2.1 (R_emit F1 A1 (9 : Int32) (0 : Int32)).2.2 else none) := by
  rw [lp_L_law, if_neg (by decide), if_neg (by decide), if_neg (by decide), if_neg (by decide), if_neg (by decide), if_pos rfl]
theorem lp_L_law_100 (n : Nat) (v3 : Int32) (v4 : Int32) (v6 : Int32) (v7 : Int32) (v9 : Int32) (v10 : Int32) (v11 : Int32) (F1 : Nat → Int32) (A1 : Nat → Int32 → Int32) : lp_L_law (n + 1) 100  v3 v4 v6 v7 v9 v10 v11 F1 A1 = (if ((en_setEntry F1 A1 (0 : Int32) (0 : Int32)).isSome = true) then (if (R_setEntry F1 A1 (0 : Int32) (0 : Int32)).1 = 0 then some ((0 : Int32)) else lp_L_law n 112 v3 v4 v6 v7 0 0 0 F1 (R_setEntry F1 A1 (0 : Int32) (0 : Int32)).2) else none) := by
  rw [lp_L_law, if_neg (by decide), if_neg (by decide), if_neg (by decide), if_neg (by decide), if_neg (by decide), if_neg (by decide), if_pos rfl]
theorem lp_L_law_112 (n : Nat) (v3 : Int32) (v4 : Int32) (v6 : Int32) (v7 : Int32) (v9 : Int32) (v10 : Int32) (v11 : Int32) (F1 : Nat → Int32) (A1 : Nat → Int32 → Int32) : lp_L_law (n + 1) 112  v3 v4 v6 v7 v9 v10 v11 F1 A1 = (if ((en_setEntry F1 A1 v6 (3 : Int32)).isSome = true) then (if (R_setEntry F1 A1 v6 (3 : Int32)).1 = 0 then some ((0 : Int32)) else lp_L_law n 125 v3 v4 v6 v7 0 0 0 F1 (R_setEntry F1 A1 v6 (3 : Int32)).2) else none) := by
  rw [lp_L_law, if_neg (by decide), if_neg (by decide), if_neg (by decide), if_neg (by decide), if_neg (by decide), if_neg (by decide), if_neg (by decide), if_pos rfl]
theorem lp_L_law_125 (n : Nat) (v3 : Int32) (v4 : Int32) (v6 : Int32) (v7 : Int32) (v9 : Int32) (v10 : Int32) (v11 : Int32) (F1 : Nat → Int32) (A1 : Nat → Int32 → Int32) : lp_L_law (n + 1) 125  v3 v4 v6 v7 v9 v10 v11 F1 A1 = (if ((en_run F1 A1 (100 : Int32)).isSome = true) then (if (R_run F1 A1 (100 : Int32)).1 = (6 : Int32) then lp_L_law n 139 v3 v4 v6 v7 0 0 0 (R_run F1 A1 (100 : Int32)).2.1 (R_run F1 A1 (100 : Int32)).2.2 else some ((0 : Int32))) else none) := by
  rw [lp_L_law, if_neg (by decide), if_neg (by decide), if_neg (by decide), if_neg (by decide), if_neg (by decide), if_neg (by decide), if_neg (by decide), if_neg (by decide), if_pos rfl]
theorem lp_L_law_139 (n : Nat) (v3 : Int32) (v4 : Int32) (v6 : Int32) (v7 : Int32) (v9 : Int32) (v10 : Int32) (v11 : Int32) (F1 : Nat → Int32) (A1 : Nat → Int32 → Int32) : lp_L_law (n + 1) 139  v3 v4 v6 v7 v9 v10 v11 F1 A1 = lp_L_law n 148 v3 v4 v6 v7 (0 : Int32) (0 : Int32) (1 : Int32) F1 A1 := by
  rw [lp_L_law, if_neg (by decide), if_neg (by decide), if_neg (by decide), if_neg (by decide), if_neg (by decide), if_neg (by decide), if_neg (by decide), if_neg (by decide), if_neg (by decide), if_pos rfl]
theorem lp_L_law_148 (n : Nat) (v3 : Int32) (v4 : Int32) (v6 : Int32) (v7 : Int32) (v9 : Int32) (v10 : Int32) (v11 : Int32) (F1 : Nat → Int32) (A1 : Nat → Int32 → Int32) : lp_L_law (n + 1) 148  v3 v4 v6 v7 v9 v10 v11 F1 A1 = (if (6 : Int32) < v11 then (if ((en_info F1 A1 (0 : Int32)).isSome = true) then (if (R_info F1 A1 (0 : Int32)) = (2 : Int32) then (if ((en_info F1 A1 (1 : Int32)).isSome = true) then (if (R_info F1 A1 (1 : Int32)) = (6 : Int32) then (if ((en_info F1 A1 (2 : Int32)).isSome = true) then (if (R_info F1 A1 (2 : Int32)) = (2 : Int32) then (if ((en_info F1 A1 (3 : Int32)).isSome = true) then (if (R_info F1 A1 (3 : Int32)) = 0 then (if ((en_info F1 A1 (4 : Int32)).isSome = true) ∧ (¬ v7 = (0 : Int32)) then (if (R_info F1 A1 (4 : Int32)) = ((6 : Int32) / v7) then (if ((en_info F1 A1 (5 : Int32)).isSome = true) then (if (R_info F1 A1 (5 : Int32)) = (if 0 < v10 then (2 : Int32) else (1 : Int32)) then (if ((en_info F1 A1 (6 : Int32)).isSome = true) then (if (R_info F1 A1 (6 : Int32)) = 0 then (if ((en_info F1 A1 (7 : Int32)).isSome = true) then (if (R_info F1 A1 (7 : Int32)) = (1 : Int32) then (if ((en_info F1 A1 (8 : Int32)).isSome = true) then (if (R_info F1 A1 (8 : Int32)) = (2 : Int32) then (if ((en_info F1 A1 (9 : Int32)).isSome = true) then (if (R_info F1 A1 (9 : Int32)) = (1 : Int32) then (if ((en_info F1 A1 (10 : Int32)).isSome = true) then (if (R_info F1 A1 (10 : Int32)) = (v3 + v4) then (if (f_frameFunction F1 A1 (0 : Int32)) = 0 then (if ((en_pushQuery F1 A1 (0 : Int32)).isSome = true) then lp_L_law n 360 0 0 v6 0 v9 v10 0 (R_pushQuery F1 A1 (0 : Int32)).2.1 (R_pushQuery F1 A1 (0 : Int32)).2.2 else none) else some ((0 : Int32))) else some ((0 : Int32))) else none) else some ((0 : Int32))) else none) else some ((0 : Int32))) else none) else some ((0 : Int32))) else none) else some ((0 : Int32))) else none) else some ((0 : Int32))) else none) else some ((0 : Int32))) else none) else some ((0 : Int32))) else none) else some ((0 : Int32))) else none) else some ((0 : Int32))) else none) else some ((0 : Int32))) else none) else (if (¬ v7 = (0 : Int32)) then lp_L_law n 148 v3 v4 v6 v7 (if (v11 % v7) = 0 then (if v11 < (3 : Int32) then (v9 + (1 : Int32)) else (if (5 : Int32) < v11 then (v9 + (1 : Int32)) else v9)) else v9) (if (v11 % v7) = 0 then (if v11 < (3 : Int32) then v10 else (if (5 : Int32) < v11 then v10 else (v10 + (1 : Int32)))) else v10) (v11 + (1 : Int32)) F1 A1 else none)) := by
  rw [lp_L_law, if_neg (by decide), if_neg (by decide), if_neg (by decide), if_neg (by decide), if_neg (by decide), if_neg (by decide), if_neg (by decide), if_neg (by decide), if_neg (by decide), if_neg (by decide), if_pos rfl]
theorem lp_L_law_360 (n : Nat) (v3 : Int32) (v4 : Int32) (v6 : Int32) (v7 : Int32) (v9 : Int32) (v10 : Int32) (v11 : Int32) (F1 : Nat → Int32) (A1 : Nat → Int32 → Int32) : lp_L_law (n + 1) 360  v3 v4 v6 v7 v9 v10 v11 F1 A1 = (if ((en_self F1 A1 ).isSome = true) then (if (R_self F1 A1 ) = (3 : Int32) then (if ((en_inclusive F1 A1 ).isSome = true) then (if (R_inclusive F1 A1 ) = (6 : Int32) then (if ((en_lost F1 A1 ).isSome = true) then (if (R_lost F1 A1 ) = 0 then (if ((en_sampledSelf F1 A1 ).isSome = true) then (if (R_sampledSelf F1 A1 ) = v9 then (if ((en_pushQuery F1 A1 v6).isSome = true) then lp_L_law n 409 0 0 0 0 0 v10 0 (R_pushQuery F1 A1 v6).2.1 (R_pushQuery F1 A1 v6).2.2 else none) else some ((0 : Int32))) else none) else some ((0 : Int32))) else none) else some ((0 : Int32))) else none) else some ((0 : Int32))) else none) := by
  rw [lp_L_law, if_neg (by decide), if_neg (by decide), if_neg (by decide), if_neg (by decide), if_neg (by decide), if_neg (by decide), if_neg (by decide), if_neg (by decide), if_neg (by decide), if_neg (by decide), if_neg (by decide), if_pos rfl]
theorem lp_L_law_409 (n : Nat) (v3 : Int32) (v4 : Int32) (v6 : Int32) (v7 : Int32) (v9 : Int32) (v10 : Int32) (v11 : Int32) (F1 : Nat → Int32) (A1 : Nat → Int32 → Int32) : lp_L_law (n + 1) 409  v3 v4 v6 v7 v9 v10 v11 F1 A1 = (if ((en_self F1 A1 ).isSome = true) then (if (R_self F1 A1 ) = (3 : Int32) then (if ((en_inclusive F1 A1 ).isSome = true) then (if (R_inclusive F1 A1 ) = (3 : Int32) then (if ((en_lost F1 A1 ).isSome = true) then (if (R_lost F1 A1 ) = 0 then (if ((en_sampledSelf F1 A1 ).isSome = true) then some ((nar .boolean (if (R_sampledSelf F1 A1 ) = (if 0 < v10 then v10 else (-1 : Int32)) then (1 : Int32) else (0 : Int32)))) else none) else some ((0 : Int32))) else none) else some ((0 : Int32))) else none) else some ((0 : Int32))) else none) := by
  rw [lp_L_law, if_neg (by decide), if_neg (by decide), if_neg (by decide), if_neg (by decide), if_neg (by decide), if_neg (by decide), if_neg (by decide), if_neg (by decide), if_neg (by decide), if_neg (by decide), if_neg (by decide), if_neg (by decide), if_pos rfl]
set_option maxRecDepth 65536 in
set_option maxHeartbeats 4000000 in
theorem lpw_L_law {l : Launch} {Z : State} {a0 : Array Value} (H : OK Z a0) (sl : Int32) (sv : Int32 → Int32) (G1 : Nat → Int64) (B1 : Nat → Int32 → Int64) : ∀ (n : Nat) (v3 : Int32) (v4 : Int32) (v6 : Int32) (v7 : Int32) (v9 : Int32) (v10 : Int32) (v11 : Int32) (F1 : Nat → Int32) (A1 : Nat → Int32 → Int32) (r : Int32), (lp_L_law n 47  v3 v4 v6 v7 v9 v10 v11 F1 A1 = some r → Wk l Z (MoL Z cdC "ContextProfilerL3" false) md_L_law 47 [.unset, .unset, .unset, .val (.int v3), .val (.int v4), .unset, .val (.int v6), .val (.int v7), .val (.ref 1), .unset, .unset, .unset] [] (sl, sv, [(16, F1, G1, A1, B1)]) 17 502 (fun v _ => v = some (.int r))) ∧ (lp_L_law n 55  v3 v4 v6 v7 v9 v10 v11 F1 A1 = some r → Wk l Z (MoL Z cdC "ContextProfilerL3" false) md_L_law 55 [.unset, .unset, .unset, .val (.int v3), .val (.int v4), .unset, .val (.int v6), .val (.int v7), .val (.ref 1), .unset, .unset, .unset] [] (sl, sv, [(16, F1, G1, A1, B1)]) 17 502 (fun v _ => v = some (.int r))) ∧ (lp_L_law n 65  v3 v4 v6 v7 v9 v10 v11 F1 A1 = some r → Wk l Z (MoL Z cdC "ContextProfilerL3" false) md_L_law 65 [.unset, .unset, .unset, .val (.int v3), .val (.int v4), .unset, .val (.int v6), .val (.int v7), .val (.ref 1), .unset, .unset, .unset] [] (sl, sv, [(16, F1, G1, A1, B1)]) 17 502 (fun v _ => v = some (.int r))) ∧ (lp_L_law n 74  v3 v4 v6 v7 v9 v10 v11 F1 A1 = some r → Wk l Z (MoL Z cdC "ContextProfilerL3" false) md_L_law 74 [.unset, .unset, .unset, .val (.int v3), .val (.int v4), .unset, .val (.int v6), .val (.int v7), .val (.ref 1), .unset, .unset, .unset] [] (sl, sv, [(16, F1, G1, A1, B1)]) 17 502 (fun v _ => v = some (.int r))) ∧ (lp_L_law n 83  v3 v4 v6 v7 v9 v10 v11 F1 A1 = some r → Wk l Z (MoL Z cdC "ContextProfilerL3" false) md_L_law 83 [.unset, .unset, .unset, .val (.int v3), .val (.int v4), .unset, .val (.int v6), .val (.int v7), .val (.ref 1), .unset, .unset, .unset] [] (sl, sv, [(16, F1, G1, A1, B1)]) 17 502 (fun v _ => v = some (.int r))) ∧ (lp_L_law n 91  v3 v4 v6 v7 v9 v10 v11 F1 A1 = some r → Wk l Z (MoL Z cdC "ContextProfilerL3" false) md_L_law 91 [.unset, .unset, .unset, .val (.int v3), .val (.int v4), .unset, .val (.int v6), .val (.int v7), .val (.ref 1), .unset, .unset, .unset] [] (sl, sv, [(16, F1, G1, A1, B1)]) 17 502 (fun v _ => v = some (.int r))) ∧ (lp_L_law n 100  v3 v4 v6 v7 v9 v10 v11 F1 A1 = some r → Wk l Z (MoL Z cdC "ContextProfilerL3" false) md_L_law 100 [.unset, .unset, .unset, .val (.int v3), .val (.int v4), .unset, .val (.int v6), .val (.int v7), .val (.ref 1), .unset, .unset, .unset] [] (sl, sv, [(16, F1, G1, A1, B1)]) 17 502 (fun v _ => v = some (.int r))) ∧ (lp_L_law n 112  v3 v4 v6 v7 v9 v10 v11 F1 A1 = some r → Wk l Z (MoL Z cdC "ContextProfilerL3" false) md_L_law 112 [.unset, .unset, .unset, .val (.int v3), .val (.int v4), .unset, .val (.int v6), .val (.int v7), .val (.ref 1), .unset, .unset, .unset] [] (sl, sv, [(16, F1, G1, A1, B1)]) 17 502 (fun v _ => v = some (.int r))) ∧ (lp_L_law n 125  v3 v4 v6 v7 v9 v10 v11 F1 A1 = some r → Wk l Z (MoL Z cdC "ContextProfilerL3" false) md_L_law 125 [.unset, .unset, .unset, .val (.int v3), .val (.int v4), .unset, .val (.int v6), .val (.int v7), .val (.ref 1), .unset, .unset, .unset] [] (sl, sv, [(16, F1, G1, A1, B1)]) 17 502 (fun v _ => v = some (.int r))) ∧ (lp_L_law n 139  v3 v4 v6 v7 v9 v10 v11 F1 A1 = some r → Wk l Z (MoL Z cdC "ContextProfilerL3" false) md_L_law 139 [.unset, .unset, .unset, .val (.int v3), .val (.int v4), .unset, .val (.int v6), .val (.int v7), .val (.ref 1), .unset, .unset, .unset] [] (sl, sv, [(16, F1, G1, A1, B1)]) 17 502 (fun v _ => v = some (.int r))) ∧ (lp_L_law n 148  v3 v4 v6 v7 v9 v10 v11 F1 A1 = some r → Wk l Z (MoL Z cdC "ContextProfilerL3" false) md_L_law 148 [.unset, .unset, .unset, .val (.int v3), .val (.int v4), .unset, .val (.int v6), .val (.int v7), .val (.ref 1), .val (.int v9), .val (.int v10), .val (.int v11)] [] (sl, sv, [(16, F1, G1, A1, B1)]) 17 502 (fun v _ => v = some (.int r))) ∧ (lp_L_law n 360  v3 v4 v6 v7 v9 v10 v11 F1 A1 = some r → Wk l Z (MoL Z cdC "ContextProfilerL3" false) md_L_law 360 [.unset, .unset, .unset, .unset, .unset, .unset, .val (.int v6), .unset, .val (.ref 1), .val (.int v9), .val (.int v10), .unset] [] (sl, sv, [(16, F1, G1, A1, B1)]) 17 502 (fun v _ => v = some (.int r))) ∧ (lp_L_law n 409  v3 v4 v6 v7 v9 v10 v11 F1 A1 = some r → Wk l Z (MoL Z cdC "ContextProfilerL3" false) md_L_law 409 [.unset, .unset, .unset, .unset, .unset, .unset, .unset, .unset, .val (.ref 1), .unset, .val (.int v10), .unset] [] (sl, sv, [(16, F1, G1, A1, B1)]) 17 502 (fun v _ => v = some (.int r))) := by
  intro n
  induction n with
  | zero =>
    intro v3 v4 v6 v7 v9 v10 v11 F1 A1 r
    exact ⟨(fun h => by rw [lp_L_law_z] at h; cases h), (fun h => by rw [lp_L_law_z] at h; cases h), (fun h => by rw [lp_L_law_z] at h; cases h), (fun h => by rw [lp_L_law_z] at h; cases h), (fun h => by rw [lp_L_law_z] at h; cases h), (fun h => by rw [lp_L_law_z] at h; cases h), (fun h => by rw [lp_L_law_z] at h; cases h), (fun h => by rw [lp_L_law_z] at h; cases h), (fun h => by rw [lp_L_law_z] at h; cases h), (fun h => by rw [lp_L_law_z] at h; cases h), (fun h => by rw [lp_L_law_z] at h; cases h), (fun h => by rw [lp_L_law_z] at h; cases h), (fun h => by rw [lp_L_law_z] at h; cases h)⟩
  | succ n ih =>
    intro v3 v4 v6 v7 v9 v10 v11 F1 A1 r
    refine ⟨fun h => ?_, fun h => ?_, fun h => ?_, fun h => ?_, fun h => ?_, fun h => ?_, fun h => ?_, fun h => ?_, fun h => ?_, fun h => ?_, fun h => ?_, fun h => ?_, fun h => ?_⟩
    · rw [lp_L_law_47] at h
      exact wp_L_law_47 H sl sv F1 G1 A1 B1 v3 v4 v6 v7 ((gd h).1) ((ih _ _ _ _ _ _ _ _ _ _).2.1 (gd h).2)
    · rw [lp_L_law_55] at h
      exact wp_L_law_55 H sl sv F1 G1 A1 B1 v3 v4 v6 v7 ((gd h).1) ((ih _ _ _ _ _ _ _ _ _ _).2.2.1 (gd h).2)
    · rw [lp_L_law_65] at h
      exact wp_L_law_65 H sl sv F1 G1 A1 B1 v3 v4 v6 v7 ((gd h).1) ((ih _ _ _ _ _ _ _ _ _ _).2.2.2.1 (gd h).2)
    · rw [lp_L_law_74] at h
      exact wp_L_law_74 H sl sv F1 G1 A1 B1 v3 v4 v6 v7 ((gd h).1) ((ih _ _ _ _ _ _ _ _ _ _).2.2.2.2.1 (gd h).2)
    · rw [lp_L_law_83] at h
      exact wp_L_law_83 H sl sv F1 G1 A1 B1 v3 v4 v6 v7 ((gd h).1) ((ih _ _ _ _ _ _ _ _ _ _).2.2.2.2.2.1 (gd h).2)
    · rw [lp_L_law_91] at h
      exact wp_L_law_91 H sl sv F1 G1 A1 B1 v3 v4 v6 v7 ((gd h).1) ((ih _ _ _ _ _ _ _ _ _ _).2.2.2.2.2.2.1 (gd h).2)
    · rw [lp_L_law_100] at h
      exact wp_L_law_100 H sl sv F1 G1 A1 B1 v3 v4 v6 v7 ((gd h).1) (fun q2 => (ih _ _ _ _ _ _ _ _ _ _).2.2.2.2.2.2.2.1 (ifn q2 (gd h).2)) (fun q2 => (rt_law (Option.some.inj (ifp q2 (gd h).2))))
    · rw [lp_L_law_112] at h
      exact wp_L_law_112 H sl sv F1 G1 A1 B1 v3 v4 v6 v7 ((gd h).1) (fun q2 => (ih _ _ _ _ _ _ _ _ _ _).2.2.2.2.2.2.2.2.1 (ifn q2 (gd h).2)) (fun q2 => (rt_law (Option.some.inj (ifp q2 (gd h).2))))
    · rw [lp_L_law_125] at h
      exact wp_L_law_125 H sl sv F1 G1 A1 B1 v3 v4 v6 v7 ((gd h).1) (fun q2 => (ih _ _ _ _ _ _ _ _ _ _).2.2.2.2.2.2.2.2.2.1 (ifp q2 (gd h).2)) (fun q2 => (rt_law (Option.some.inj (ifn q2 (gd h).2))))
    · rw [lp_L_law_139] at h
      exact wp_L_law_139 H sl sv F1 G1 A1 B1 v3 v4 v6 v7 ((ih _ _ _ _ _ _ _ _ _ _).2.2.2.2.2.2.2.2.2.2.1 h)
    · rw [lp_L_law_148] at h
      exact wp_L_law_148 H sl sv F1 G1 A1 B1 v3 v4 v6 v7 v9 v10 v11 (fun q1 => (gd (ifp q1 h)).1) (fun q1 q3 => (gd (ifp q3 (gd (ifp q1 h)).2)).1) (fun q1 q3 q5 => (gd (ifp q5 (gd (ifp q3 (gd (ifp q1 h)).2)).2)).1) (fun q1 q3 q5 q7 => (gd (ifp q7 (gd (ifp q5 (gd (ifp q3 (gd (ifp q1 h)).2)).2)).2)).1) (fun q1 q3 q5 q7 q9 => (gd (ifp q9 (gd (ifp q7 (gd (ifp q5 (gd (ifp q3 (gd (ifp q1 h)).2)).2)).2)).2)).1.1) (fun q1 q3 q5 q7 q9 => (gd (ifp q9 (gd (ifp q7 (gd (ifp q5 (gd (ifp q3 (gd (ifp q1 h)).2)).2)).2)).2)).1.2) (fun q1 q3 q5 q7 q9 q12 => (gd (ifp q12 (gd (ifp q9 (gd (ifp q7 (gd (ifp q5 (gd (ifp q3 (gd (ifp q1 h)).2)).2)).2)).2)).2)).1) (fun q1 q3 q5 q7 q9 q12 q16 => (gd (ifp q16 (gd (ifp q12 (gd (ifp q9 (gd (ifp q7 (gd (ifp q5 (gd (ifp q3 (gd (ifp q1 h)).2)).2)).2)).2)).2)).2)).1) (fun q1 q3 q5 q7 q9 q12 q16 q18 => (gd (ifp q18 (gd (ifp q16 (gd (ifp q12 (gd (ifp q9 (gd (ifp q7 (gd (ifp q5 (gd (ifp q3 (gd (ifp q1 h)).2)).2)).2)).2)).2)).2)).2)).1) (fun q1 q3 q5 q7 q9 q12 q16 q18 q20 => (gd (ifp q20 (gd (ifp q18 (gd (ifp q16 (gd (ifp q12 (gd (ifp q9 (gd (ifp q7 (gd (ifp q5 (gd (ifp q3 (gd (ifp q1 h)).2)).2)).2)).2)).2)).2)).2)).2)).1) (fun q1 q3 q5 q7 q9 q12 q16 q18 q20 q22 => (gd (ifp q22 (gd (ifp q20 (gd (ifp q18 (gd (ifp q16 (gd (ifp q12 (gd (ifp q9 (gd (ifp q7 (gd (ifp q5 (gd (ifp q3 (gd (ifp q1 h)).2)).2)).2)).2)).2)).2)).2)).2)).2)).1) (fun q1 q3 q5 q7 q9 q12 q16 q18 q20 q22 q24 => (gd (ifp q24 (gd (ifp q22 (gd (ifp q20 (gd (ifp q18 (gd (ifp q16 (gd (ifp q12 (gd (ifp q9 (gd (ifp q7 (gd (ifp q5 (gd (ifp q3 (gd (ifp q1 h)).2)).2)).2)).2)).2)).2)).2)).2)).2)).2)).1) (fun q1 q3 q5 q7 q9 q12 q16 q18 q20 q22 q24 q26 q27 => (gd (ifp q27 (ifp q26 (gd (ifp q24 (gd (ifp q22 (gd (ifp q20 (gd (ifp q18 (gd (ifp q16 (gd (ifp q12 (gd (ifp q9 (gd (ifp q7 (gd (ifp q5 (gd (ifp q3 (gd (ifp q1 h)).2)).2)).2)).2)).2)).2)).2)).2)).2)).2)).2))).1) (fun q1 q3 q5 q7 q9 q12 q16 q18 q20 q22 q24 q26 q27 => (ih _ _ _ _ _ _ _ _ _ _).2.2.2.2.2.2.2.2.2.2.2.1 (gd (ifp q27 (ifp q26 (gd (ifp q24 (gd (ifp q22 (gd (ifp q20 (gd (ifp q18 (gd (ifp q16 (gd (ifp q12 (gd (ifp q9 (gd (ifp q7 (gd (ifp q5 (gd (ifp q3 (gd (ifp q1 h)).2)).2)).2)).2)).2)).2)).2)).2)).2)).2)).2))).2) (fun q1 q3 q5 q7 q9 q12 q16 q18 q20 q22 q24 q26 q27 => (rt_law (Option.some.inj (ifn q27 (ifp q26 (gd (ifp q24 (gd (ifp q22 (gd (ifp q20 (gd (ifp q18 (gd (ifp q16 (gd (ifp q12 (gd (ifp q9 (gd (ifp q7 (gd (ifp q5 (gd (ifp q3 (gd (ifp q1 h)).2)).2)).2)).2)).2)).2)).2)).2)).2)).2)).2))))) (fun q1 q3 q5 q7 q9 q12 q16 q18 q20 q22 q24 q26 => (rt_law (Option.some.inj (ifn q26 (gd (ifp q24 (gd (ifp q22 (gd (ifp q20 (gd (ifp q18 (gd (ifp q16 (gd (ifp q12 (gd (ifp q9 (gd (ifp q7 (gd (ifp q5 (gd (ifp q3 (gd (ifp q1 h)).2)).2)).2)).2)).2)).2)).2)).2)).2)).2)).2)))) (fun q1 q3 q5 q7 q9 q12 q16 q18 q20 q22 q24 => (rt_law (Option.some.inj (ifn q24 (gd (ifp q22 (gd (ifp q20 (gd (ifp q18 (gd (ifp q16 (gd (ifp q12 (gd (ifp q9 (gd (ifp q7 (gd (ifp q5 (gd (ifp q3 (gd (ifp q1 h)).2)).2)).2)).2)).2)).2)).2)).2)).2)).2)))) (fun q1 q3 q5 q7 q9 q12 q16 q18 q20 q22 => (rt_law (Option.some.inj (ifn q22 (gd (ifp q20 (gd (ifp q18 (gd (ifp q16 (gd (ifp q12 (gd (ifp q9 (gd (ifp q7 (gd (ifp q5 (gd (ifp q3 (gd (ifp q1 h)).2)).2)).2)).2)).2)).2)).2)).2)).2)))) (fun q1 q3 q5 q7 q9 q12 q16 q18 q20 => (rt_law (Option.some.inj (ifn q20 (gd (ifp q18 (gd (ifp q16 (gd (ifp q12 (gd (ifp q9 (gd (ifp q7 (gd (ifp q5 (gd (ifp q3 (gd (ifp q1 h)).2)).2)).2)).2)).2)).2)).2)).2)))) (fun q1 q3 q5 q7 q9 q12 q16 q18 => (rt_law (Option.some.inj (ifn q18 (gd (ifp q16 (gd (ifp q12 (gd (ifp q9 (gd (ifp q7 (gd (ifp q5 (gd (ifp q3 (gd (ifp q1 h)).2)).2)).2)).2)).2)).2)).2)))) (fun q1 q3 q5 q7 q9 q12 q16 => (rt_law (Option.some.inj (ifn q16 (gd (ifp q12 (gd (ifp q9 (gd (ifp q7 (gd (ifp q5 (gd (ifp q3 (gd (ifp q1 h)).2)).2)).2)).2)).2)).2)))) (fun q1 q3 q5 q7 q9 q12 => (rt_law (Option.some.inj (ifn q12 (gd (ifp q9 (gd (ifp q7 (gd (ifp q5 (gd (ifp q3 (gd (ifp q1 h)).2)).2)).2)).2)).2)))) (fun q1 q3 q5 q7 q9 => (rt_law (Option.some.inj (ifn q9 (gd (ifp q7 (gd (ifp q5 (gd (ifp q3 (gd (ifp q1 h)).2)).2)).2)).2)))) (fun q1 q3 q5 q7 => (rt_law (Option.some.inj (ifn q7 (gd (ifp q5 (gd (ifp q3 (gd (ifp q1 h)).2)).2)).2)))) (fun q1 q3 q5 => (rt_law (Option.some.inj (ifn q5 (gd (ifp q3 (gd (ifp q1 h)).2)).2)))) (fun q1 q3 => (rt_law (Option.some.inj (ifn q3 (gd (ifp q1 h)).2)))) (fun q1 => (gd (ifn q1 h)).1) (fun q1 => (ih _ _ _ _ _ _ _ _ _ _).2.2.2.2.2.2.2.2.2.2.1 (gd (ifn q1 h)).2)
    · rw [lp_L_law_360] at h
      exact wp_L_law_360 H sl sv F1 G1 A1 B1 v6 v9 v10 ((gd h).1) (fun q2 => (rt_law (Option.some.inj (ifn q2 (gd h).2)))) (fun q2 => (gd (ifp q2 (gd h).2)).1) (fun q2 q5 => (rt_law (Option.some.inj (ifn q5 (gd (ifp q2 (gd h).2)).2)))) (fun q2 q5 => (gd (ifp q5 (gd (ifp q2 (gd h).2)).2)).1) (fun q2 q5 q8 => (gd (ifp q8 (gd (ifp q5 (gd (ifp q2 (gd h).2)).2)).2)).1) (fun q2 q5 q8 q10 => (gd (ifp q10 (gd (ifp q8 (gd (ifp q5 (gd (ifp q2 (gd h).2)).2)).2)).2)).1) (fun q2 q5 q8 q10 => (ih _ _ _ _ _ _ _ _ _ _).2.2.2.2.2.2.2.2.2.2.2.2 (gd (ifp q10 (gd (ifp q8 (gd (ifp q5 (gd (ifp q2 (gd h).2)).2)).2)).2)).2) (fun q2 q5 q8 q10 => (rt_law (Option.some.inj (ifn q10 (gd (ifp q8 (gd (ifp q5 (gd (ifp q2 (gd h).2)).2)).2)).2)))) (fun q2 q5 q8 => (rt_law (Option.some.inj (ifn q8 (gd (ifp q5 (gd (ifp q2 (gd h).2)).2)).2))))
    · rw [lp_L_law_409] at h
      exact wp_L_law_409 H sl sv F1 G1 A1 B1 v10 ((gd h).1) (fun q2 => (rt_law (Option.some.inj (ifn q2 (gd h).2)))) (fun q2 => (gd (ifp q2 (gd h).2)).1) (fun q2 q5 => (rt_law (Option.some.inj (ifn q5 (gd (ifp q2 (gd h).2)).2)))) (fun q2 q5 => (gd (ifp q5 (gd (ifp q2 (gd h).2)).2)).1) (fun q2 q5 q8 => (gd (ifp q8 (gd (ifp q5 (gd (ifp q2 (gd h).2)).2)).2)).1) (fun q2 q5 q8 => (rt_law (Option.some.inj (gd (ifp q8 (gd (ifp q5 (gd (ifp q2 (gd h).2)).2)).2)).2))) (fun q2 q5 q8 => (rt_law (Option.some.inj (ifn q8 (gd (ifp q5 (gd (ifp q2 (gd h).2)).2)).2))))
def en_L_law (p1 : Int32) (p2 : Int32) (p3 : Int32) (p4 : Int32) (p5 : Int32) (p6 : Int32) : Option (Int32) := lp_L_law 1000 47 p4 p5 ((1 : Int32) + ((p6 &&& (7 : Int32)) % (7 : Int32))) (if p2 < (1 : Int32) then (1 : Int32) else (if (16 : Int32) < p2 then (16 : Int32) else p2)) 0 0 0 (F_init p1 p2 p3) (A_init p1 p2 p3)
theorem een_L_law (p1 : Int32) (p2 : Int32) (p3 : Int32) (p4 : Int32) (p5 : Int32) (p6 : Int32) : en_L_law   p1 p2 p3 p4 p5 p6 = lp_L_law 1000 47 p4 p5 ((1 : Int32) + ((p6 &&& (7 : Int32)) % (7 : Int32))) (if p2 < (1 : Int32) then (1 : Int32) else (if (16 : Int32) < p2 then (16 : Int32) else p2)) 0 0 0 (F_init p1 p2 p3) (A_init p1 p2 p3) := Eq.trans rfl rfl
set_option maxRecDepth 65536 in
set_option maxHeartbeats 4000000 in
theorem run_law {l : Launch} {Z : State} {a0 : Array Value} (H : OK Z a0) (sl : Int32) (sv : Int32 → Int32) (p1 : Int32) (p2 : Int32) (p3 : Int32) (p4 : Int32) (p5 : Int32) (p6 : Int32) (h : en_L_law  p1 p2 p3 p4 p5 p6 = some 1) : Wk l Z (MoL Z cdC "ContextProfilerL3" false) md_L_law 0 [.val (.int p1), .val (.int p2), .val (.int p3), .val (.int p4), .val (.int p5), .val (.int p6), .unset, .unset, .unset, .unset, .unset, .unset] [] (sl, sv, []) 0 0 (fun v _ => v = some (.int (1 : Int32))) := by
  rw [een_L_law] at h
  exact wp_L_law H sl sv p1 p2 p3 p4 p5 p6 ((lpw_L_law H sl sv _ _ _ _ _ _ _ _ _ _ _ _ _).1 h)
theorem toN (n : Nat) (h : n < 2147483648) : (Int32.ofNat n).toInt = n := Int32.toInt_ofNat_of_lt (by omega)
theorem mask_fin (p m : Int32) (k : Nat) (hk : k < 31) (hm : m.toBitVec.toNat = 2 ^ k - 1) : ∃ s : Fin (2 ^ k), p &&& m = Int32.ofNat s.1 := by
  have h := and_mask p m k hk hm
  have h3 : (2 ^ k : Nat) ≤ 2 ^ 30 := Nat.pow_le_pow_right (by decide) (by omega)
  have h4 : (2 ^ 30 : Nat) = 1073741824 := by decide
  have h5 : (0 : Int) < ((2 ^ k : Nat) : Int) := by have := Nat.two_pow_pos k; omega
  have h1 := Int.emod_nonneg p.toInt (Int.ne_of_gt h5)
  have h2 := Int.emod_lt_of_pos p.toInt h5
  refine ⟨⟨(p.toInt % ((2 ^ k : Nat) : Int)).toNat, by omega⟩, Int32.toInt_inj.mp ?_⟩
  show (p &&& m).toInt = (Int32.ofNat (p.toInt % ((2 ^ k : Nat) : Int)).toNat).toInt
  rw [h, toN _ (by omega)]; omega
theorem ifS {α β : Type} {x : α} {a b : β} : (if (some x).isSome = true then a else b) = a := if_pos rfl
theorem r_of {α : Type} {R : α} {o : Option α} {d r : α} (e : R = o.getD d) (h : o = some r) : R = r := e.trans (getD_some h)
/-- one more on the root's way -/
theorem incR (A : Nat → Int32 → Int32) (h7 : A 7 0 = -1) : en_addInclusive A 0 = some (0, ups A 10 (ups (A 10) 0 (A 10 0 + 1))) := by
  rw [een_addInclusive, lp_addInclusive_4, if_pos (by decide), if_neg (by decide), if_pos (by decide), h7, lp_addInclusive_4, if_pos (by decide), if_pos (by decide)]
theorem incI (A : Nat → Int32 → Int32) (h7 : A 7 0 = -1) (h71 : A 7 1 = 0) : ∃ A', en_addInclusive A 1 = some (0, A') ∧ A' 10 0 = A 10 0 + 1 ∧ A' 10 1 = A 10 1 + 1 ∧ ∀ j, j ≠ 10 → A' j = A j := by
  refine ⟨ups (ups A 10 (ups (A 10) 1 (A 10 1 + 1))) 10 (ups (ups (A 10) 1 (A 10 1 + 1)) 0 (A 10 0 + 1)), ?_, by simp [ups], by simp [ups], fun j hj => by simp [ups, hj]⟩
  rw [een_addInclusive, lp_addInclusive_4, if_pos (by decide), if_neg (by decide), if_pos (by decide), h71, lp_addInclusive_4, if_pos (by decide), if_neg (by decide), if_pos (by decide)]
  have e7 : ups A 10 (ups (A 10) 1 (A 10 1 + 1)) 7 0 = -1 := by simp [ups, h7]
  rw [e7, lp_addInclusive_4, if_pos (by decide), if_pos (by decide)]
  simp [ups]
theorem chargeR (F : Nat → Int32) (A : Nat → Int32 → Int32) (f7 : F 7 = 1) (f1 : ¬ F 1 = 0) (a6 : A 6 0 = 0) (a7 : A 7 0 = -1) :
    ∃ A', en_charge F A = some (0, ups F 8 (F 8 + 1), A') ∧ A' 9 0 = A 9 0 + 1 ∧ A' 10 0 = A 10 0 + 1 ∧ A' 14 0 = A 14 0 + (if (F 8 + 1) % F 1 = 0 then 1 else 0) ∧ (∀ x, x ≠ 0 → A' 9 x = A 9 x ∧ A' 10 x = A 10 x ∧ A' 14 x = A 14 x) ∧ ∀ j, j ≠ 9 → j ≠ 10 → j ≠ 14 → A' j = A j := by
  have ei := incR (ups A 9 (ups (A 9) 0 (A 9 0 + 1))) (by simp [ups, a7])
  have ri := r_of (eR_addInclusive _ _) ei
  generalize hA1 : ups (ups A 9 (ups (A 9) 0 (A 9 0 + 1))) 10 (ups (ups A 9 (ups (A 9) 0 (A 9 0 + 1)) 10) 0 (ups A 9 (ups (A 9) 0 (A 9 0 + 1)) 10 0 + 1)) = A1 at ei ri
  have b9 : A1 9 0 = A 9 0 + 1 := by rw [← hA1]; simp [ups]
  have b10 : A1 10 0 = A 10 0 + 1 := by rw [← hA1]; simp [ups]
  have bx : ∀ x, x ≠ 0 → A1 9 x = A 9 x ∧ A1 10 x = A 10 x ∧ A1 14 x = A 14 x := fun x hx => by rw [← hA1]; simp [ups, hx]
  have bj : ∀ j, j ≠ 9 → j ≠ 10 → A1 j = A j := fun j h9 h10 => by rw [← hA1]; simp [ups, h9, h10]
  have b14 : A1 14 0 = A 14 0 := by rw [bj 14 (by decide) (by decide)]
  have d1 : (1 : Int32) - 1 = 0 := by decide
  by_cases c : (F 8 + 1) % F 1 = 0
  · have es : en_sample (ups F 8 (F 8 + 1)) A1 = some (0, ups F 8 (F 8 + 1), ups A1 14 (ups (A1 14) 0 (A1 14 0 + 1))) := by
      rw [een_sample, lp_sample_4, if_neg (by rw [ups_ne _ _ (by decide), f7]; decide), if_pos (by decide)]
    have rs := r_of (eR_sample _ _) es
    refine ⟨ups A1 14 (ups (A1 14) 0 (A1 14 0 + 1)), ?_, by simp [ups, b9], by simp [ups, b10], by rw [if_pos c, ups_at, ups_at, b14], fun x hx => ?_, fun j h9 h10 h14 => by rw [ups_ne _ _ h14, bj j h9 h10]⟩
    · rw [een_charge, f7, d1, a6, if_pos (by decide), if_neg (by decide), ei, ri, if_pos ⟨by decide, rfl, f1⟩, if_pos c]
      dsimp only
      rw [es, rs, ifS]
    · obtain ⟨q1, q2, q3⟩ := bx x hx
      simp [ups, hx, q1, q2, q3]
  · refine ⟨A1, ?_, b9, b10, by rw [if_neg c, b14]; simp, bx, fun j h9 h10 h14 => bj j h9 h10⟩
    rw [een_charge, f7, d1, a6, if_pos (by decide), if_neg (by decide), ei, ri, if_pos ⟨by decide, rfl, f1⟩, if_neg c]
/-- the sampled child of the root: found, or made -/
theorem smpI (F : Nat → Int32) (A : Nat → Int32 → Int32) (fn : Int32) (f7 : F 7 = 2) (f0 : 1 < F 0) (a4 : A 4 1 = fn) (h : F 13 = 1 ∨ (F 13 = 2 ∧ A 12 1 = 0 ∧ A 13 1 = fn)) :
    ∃ F' A', en_sample F A = some (0, F', A') ∧ F' 13 = 2 ∧ (∀ i, i ≠ 13 → F' i = F i) ∧ A' 12 1 = 0 ∧ A' 13 1 = fn ∧ A' 14 1 = (if F 13 = 1 then 0 else A 14 1) + 1 ∧ A' 14 0 = A 14 0 ∧ ∀ j, j ≠ 12 → j ≠ 13 → j ≠ 14 → A' j = A j := by
  rcases h with h13 | ⟨h13, h12, hs⟩
  · have e1 : en_findSampledChild F A 0 fn = some (-1) := by
      rw [een_findSampledChild, lp_findSampledChild_2, h13, if_neg (by decide)]
    have r1 := r_of (eR_findSampledChild F A 0 fn) e1
    have e2 : en_newSampledNode F A 0 fn = some (1, ups F 13 2, ups (ups (ups A 12 (ups (A 12) 1 0)) 13 (ups (A 13) 1 fn)) 14 (ups (A 14) 1 0)) := by
      rw [een_newSampledNode, h13, if_pos (by decide)]; rfl
    have r2 := r_of (eR_newSampledNode F A 0 fn) e2
    generalize hA2 : ups (ups (ups A 12 (ups (A 12) 1 0)) 13 (ups (A 13) 1 fn)) 14 (ups (A 14) 1 0) = A2 at e2 r2
    refine ⟨ups F 13 2, ups A2 14 (ups (A2 14) 1 (A2 14 1 + 1)), ?_, by simp [ups], fun i hi => by simp [ups, hi], ?_, ?_, ?_, ?_, fun j h1 h2 h3 => ?_⟩
    · rw [een_sample, lp_sample_4, f7, if_pos (by decide), a4, e1, r1, if_pos ⟨by decide, by decide, rfl⟩, if_pos (by decide), h13, if_pos f0, e2, r2, ifS]
      dsimp only
      rw [lp_sample_4, ups_ne _ _ (by decide), f7, if_neg (by decide), if_pos (by decide)]
    · rw [← hA2]; simp [ups]
    · rw [← hA2]; simp [ups]
    · rw [← hA2, if_pos h13]; simp [ups]
    · rw [← hA2]; simp [ups]
    · rw [← hA2]; simp [ups, h1, h2, h3]
  · have e1 : en_findSampledChild F A 0 fn = some 1 := by
      rw [een_findSampledChild, lp_findSampledChild_2, h13, if_pos (by decide), if_pos (by decide), h12, if_pos rfl, if_pos (by decide), hs, if_pos rfl]
    have r1 := r_of (eR_findSampledChild F A 0 fn) e1
    refine ⟨F, ups A 14 (ups (A 14) 1 (A 14 1 + 1)), ?_, h13, fun _ _ => rfl, by simp [ups, h12], by simp [ups, hs], by rw [h13, if_neg (by decide)]; simp [ups], by simp [ups], fun j h1 h2 h3 => by simp [ups, h3]⟩
    rw [een_sample, lp_sample_4, f7, if_pos (by decide), a4, e1, r1, if_pos ⟨by decide, by decide, rfl⟩, if_neg (by decide), lp_sample_4, f7, if_neg (by decide), if_pos (by decide)]
theorem chargeI (F : Nat → Int32) (A : Nat → Int32 → Int32) (fn : Int32) (f7 : F 7 = 2) (f1 : ¬ F 1 = 0) (f0 : 1 < F 0) (a6 : A 6 1 = 1) (a7 : A 7 0 = -1) (a71 : A 7 1 = 0) (a4 : A 4 1 = fn) (h : F 13 = 1 ∧ A 14 1 = 0 ∨ (F 13 = 2 ∧ A 12 1 = 0 ∧ A 13 1 = fn)) :
    ∃ F' A', en_charge F A = some (0, F', A') ∧ F' 8 = F 8 + 1 ∧ (∀ i, i ≠ 13 → i ≠ 8 → F' i = F i) ∧ (F' 13 = if (F 8 + 1) % F 1 = 0 then 2 else F 13) ∧ (F' 13 = 1 ∧ A' 14 1 = 0 ∨ (F' 13 = 2 ∧ A' 12 1 = 0 ∧ A' 13 1 = fn)) ∧
      A' 14 1 = A 14 1 + (if (F 8 + 1) % F 1 = 0 then 1 else 0) ∧ A' 14 0 = A 14 0 ∧ A' 9 0 = A 9 0 ∧ A' 9 1 = A 9 1 + 1 ∧ A' 10 0 = A 10 0 + 1 ∧ A' 10 1 = A 10 1 + 1 ∧ ∀ j, j ≠ 9 → j ≠ 10 → j ≠ 12 → j ≠ 13 → j ≠ 14 → A' j = A j := by
  obtain ⟨A1, ei, b0, b1, bj⟩ := incI (ups A 9 (ups (A 9) 1 (A 9 1 + 1))) (by simp [ups, a7]) (by simp [ups, a71])
  have ri := r_of (eR_addInclusive _ _) ei
  have k9 : ∀ x, A1 9 x = ups (A 9) 1 (A 9 1 + 1) x := fun x => by rw [bj 9 (by decide), ups_at]
  have kj : ∀ j, j ≠ 9 → j ≠ 10 → A1 j = A j := fun j h9 h10 => by rw [bj j h10, ups_ne _ _ h9]
  have k10 : A1 10 0 = A 10 0 + 1 ∧ A1 10 1 = A 10 1 + 1 := ⟨by rw [b0, ups_ne _ _ (by decide)], by rw [b1, ups_ne _ _ (by decide)]⟩
  have d1 : (2 : Int32) - 1 = 1 := by decide
  by_cases c : (F 8 + 1) % F 1 = 0
  · obtain ⟨F2, A2, es, s13, si, s12, s13', s14, s140, sj⟩ := smpI (ups F 8 (F 8 + 1)) A1 fn (by simp [ups, f7]) (by simp [ups]; exact f0) (by rw [kj 4 (by decide) (by decide), a4]) (by
      rcases h with ⟨h, _⟩ | ⟨h, h2, h3⟩
      · exact Or.inl (by simp [ups, h])
      · exact Or.inr ⟨by simp [ups, h], by rw [kj 12 (by decide) (by decide), h2], by rw [kj 13 (by decide) (by decide), h3]⟩)
    have rs := r_of (eR_sample _ _) es
    have e14 : A2 14 1 = A 14 1 + 1 := by
      rw [s14, ups_ne _ _ (by decide)]
      rcases h with ⟨h, h'⟩ | ⟨h, _⟩
      · rw [if_pos h, h']
      · rw [if_neg (by rw [h]; decide), kj 14 (by decide) (by decide)]
    refine ⟨F2, A2, ?_, by rw [si 8 (by decide)]; simp [ups], fun i h13 h8 => by rw [si i h13]; simp [ups, h8], by rw [if_pos c, s13], Or.inr ⟨s13, s12, s13'⟩, by rw [if_pos c, e14], by rw [s140, kj 14 (by decide) (by decide)], ?_, ?_, ?_, ?_, fun j h9 h10 h12 h13 h14 => by rw [sj j h12 h13 h14, kj j h9 h10]⟩
    · rw [een_charge, f7, d1, a6, if_pos (by decide), if_neg (by decide), ei, ri, if_pos ⟨by decide, rfl, f1⟩, if_pos c]
      dsimp only
      rw [es, rs, ifS]
    · rw [sj 9 (by decide) (by decide) (by decide), k9]; simp [ups]
    · rw [sj 9 (by decide) (by decide) (by decide), k9]; simp [ups]
    · rw [sj 10 (by decide) (by decide) (by decide), k10.1]
    · rw [sj 10 (by decide) (by decide) (by decide), k10.2]
  · refine ⟨ups F 8 (F 8 + 1), A1, ?_, by simp [ups], fun i h13 h8 => by simp [ups, h8], by rw [if_neg c]; simp [ups], ?_, by rw [if_neg c, kj 14 (by decide) (by decide)]; simp, by rw [kj 14 (by decide) (by decide)], by rw [k9]; simp [ups], by rw [k9]; simp [ups], k10.1, k10.2, fun j h9 h10 _ _ _ => kj j h9 h10⟩
    · rw [een_charge, f7, d1, a6, if_pos (by decide), if_neg (by decide), ei, ri, if_pos ⟨by decide, rfl, f1⟩, if_neg c]
    · rcases h with ⟨h, h'⟩ | ⟨h, h2, h3⟩
      · exact Or.inl ⟨by simp [ups, h], by rw [kj 14 (by decide) (by decide), h']⟩
      · exact Or.inr ⟨by simp [ups, h], by rw [kj 12 (by decide) (by decide), h2], by rw [kj 13 (by decide) (by decide), h3]⟩
theorem stepOf (F F1 F2 : Nat → Int32) (A A1 A2 : Nat → Int32 → Int32) (op arg : Int32) (h5 : ¬ F 5 < 0) (h54 : F 5 < F 4) (h56 : F 5 < 64) (ho : A 0 (F 5) = op) (ha : A 1 (F 5) = arg) (ef : en_faults F A op arg = some 0) (ec : en_charge F A = some (0, F1, A1)) (ea : en_apply F1 A1 op arg = some (0, F2, A2)) : en_stepOnce F A = some (1, F2, A2) := by
  have rf := r_of (eR_faults _ _ _ _) ef
  have rc := r_of (eR_charge _ _) ec
  have ra := r_of (eR_apply _ _ _ _) ea
  rw [een_stepOnce, if_neg h5, if_pos h54, ho, ha, ef, rf, if_pos ⟨h56, rfl⟩, if_pos rfl, ec, rc]
  dsimp only
  rw [ea, ra, if_pos ⟨rfl, rfl⟩]
theorem pushR (F : Nat → Int32) (A : Nat → Int32 → Int32) (v : Int32) (p1 : ¬ F 1 = 0) (h5 : ¬ F 5 < 0) (h54 : F 5 < F 4) (h56 : F 5 < 64) (h6 : ¬ F 6 < 0) (h616 : F 6 < 16) (f7 : F 7 = 1) (ho : A 0 (F 5) = 1) (ha : A 1 (F 5) = v) (a6 : A 6 0 = 0) (a7 : A 7 0 = -1) :
    ∃ F' A', en_stepOnce F A = some (1, F', A') ∧ F' 5 = F 5 + 1 ∧ F' 6 = F 6 + 1 ∧ F' 8 = F 8 + 1 ∧ (∀ i, i ≠ 5 → i ≠ 6 → i ≠ 8 → F' i = F i) ∧ A' 3 (F 6) = v ∧ (∀ x, x ≠ F 6 → A' 3 x = A 3 x) ∧
      A' 9 0 = A 9 0 + 1 ∧ A' 10 0 = A 10 0 + 1 ∧ A' 14 0 = A 14 0 + (if (F 8 + 1) % F 1 = 0 then 1 else 0) ∧ (∀ x, x ≠ 0 → A' 9 x = A 9 x ∧ A' 10 x = A 10 x ∧ A' 14 x = A 14 x) ∧ ∀ j, j ≠ 3 → j ≠ 9 → j ≠ 10 → j ≠ 14 → A' j = A j := by
  obtain ⟨A1, ec, c9, c10, c14, cx, cj⟩ := chargeR F A f7 p1 a6 a7
  have ef : en_faults F A 1 v = some 0 := by rw [een_faults, if_pos rfl, if_pos h616]; exact congrArg some nar0
  have e6 : ups F 8 (F 8 + 1) 6 = F 6 := by simp [ups]
  have ea : en_apply (ups F 8 (F 8 + 1)) A1 1 v = some (0, ups (ups (ups F 8 (F 8 + 1)) 6 (F 6 + 1)) 5 (F 5 + 1), ups A1 3 (ups (A1 3) (F 6) v)) := by
    rw [een_apply, if_pos rfl, e6, if_pos ⟨h6, h616⟩]; simp [ups]
  refine ⟨_, _, stepOf F _ _ A A1 _ 1 v h5 h54 h56 ho ha ef ec ea, by simp [ups], by simp [ups], by simp [ups], fun i h5 h6 h8 => by simp [ups, h5, h6, h8], by simp [ups], fun x hx => ?_, by simp [ups, c9], by simp [ups, c10], ?_, fun x hx => ?_, fun j h3 h9 h10 h14 => ?_⟩
  · rw [ups_at, ups_ne _ _ hx, cj 3 (by decide) (by decide) (by decide)]
  · rw [ups_ne _ _ (by decide), c14]
  · obtain ⟨q1, q2, q3⟩ := cx x hx
    simp [ups, q1, q2, q3]
  · rw [ups_ne _ _ h3, cj j h9 h10 h14]
theorem callR (F : Nat → Int32) (A : Nat → Int32 → Int32) (fn : Int32) (p0 : 1 < F 0) (p1 : ¬ F 1 = 0) (p2 : 1 < F 2) (h5 : ¬ F 5 < 0) (h54 : F 5 < F 4) (h56 : F 5 < 64) (f7 : F 7 = 1) (f12 : F 12 = 1) (ho : A 0 (F 5) = 8) (ha : A 1 (F 5) = fn) (fn0 : ¬ fn < 0) (fn7 : ¬ 7 < fn) (a2 : A 2 fn = 3) (a6 : A 6 0 = 0) (a7 : A 7 0 = -1) :
    ∃ F' A', en_stepOnce F A = some (1, F', A') ∧ F' 5 = 3 ∧ F' 7 = 2 ∧ F' 8 = F 8 + 1 ∧ F' 12 = 2 ∧ (∀ i, i ≠ 5 → i ≠ 7 → i ≠ 8 → i ≠ 12 → F' i = F i) ∧
      A' 9 0 = A 9 0 + 1 ∧ A' 10 0 = A 10 0 + 1 ∧ A' 14 0 = A 14 0 + (if (F 8 + 1) % F 1 = 0 then 1 else 0) ∧ A' 14 1 = A 14 1 ∧ A' 4 1 = fn ∧ A' 5 1 = F 5 + 1 ∧ A' 6 1 = 1 ∧ A' 7 1 = 0 ∧ A' 8 1 = fn ∧ A' 9 1 = 0 ∧ A' 10 1 = 0 ∧ A' 11 1 = 0 ∧
      (∀ j, j ≠ 9 → j ≠ 10 → j ≠ 14 → A' j 0 = A j 0) ∧ ∀ j, j ≠ 4 → j ≠ 5 → j ≠ 6 → j ≠ 7 → j ≠ 8 → j ≠ 9 → j ≠ 10 → j ≠ 11 → j ≠ 14 → A' j = A j := by
  obtain ⟨A1, ec, c9, c10, c14, cx, cj⟩ := chargeR F A f7 p1 a6 a7
  have fn8 : fn < 8 := by grind
  have n3 : ¬ (3 : Int32) < 0 := by decide
  have e0 : en_callFaults F A fn = some 0 := by
    rw [een_callFaults, if_neg fn0, if_neg fn7, if_pos fn8, a2, if_neg n3, f7, if_pos p2, if_pos (by decide)]; exact congrArg some nar0
  have r0 := r_of (eR_callFaults F A fn) e0
  have ef : en_faults F A 8 fn = some 0 := by
    rw [een_faults, if_neg (by decide), if_neg (by decide), if_neg (by decide), if_neg (by decide), if_neg (by decide), if_neg (by decide), if_neg (by decide), if_pos rfl, e0, r0, ifS]; exact congrArg some nar0
  generalize hF1 : ups F 8 (F 8 + 1) = F1 at ec
  have g0 : F1 0 = F 0 := by rw [← hF1]; simp [ups]
  have g7 : F1 7 = 1 := by rw [← hF1]; simp [ups, f7]
  have g12 : F1 12 = 1 := by rw [← hF1]; simp [ups, f12]
  have b6 : A1 6 0 = 0 := by rw [cj 6 (by decide) (by decide) (by decide), a6]
  have b2 : A1 2 fn = 3 := by rw [cj 2 (by decide) (by decide) (by decide), a2]
  have e1 : en_findInstrChild F1 A1 0 fn = some (-1) := by
    rw [een_findInstrChild, lp_findInstrChild_2, g12, if_neg (by decide)]
  have r1 := r_of (eR_findInstrChild F1 A1 0 fn) e1
  have e2 : en_newInstrNode F1 A1 0 fn = some (1, ups F1 12 2, ups (ups (ups (ups (ups A1 7 (ups (A1 7) 1 0)) 8 (ups (A1 8) 1 fn)) 9 (ups (A1 9) 1 0)) 10 (ups (A1 10) 1 0)) 11 (ups (A1 11) 1 0)) := by
    rw [een_newInstrNode, g12, if_pos (by decide)]; rfl
  have r2 := r_of (eR_newInstrNode F1 A1 0 fn) e2
  generalize hA2 : ups (ups (ups (ups (ups A1 7 (ups (A1 7) 1 0)) 8 (ups (A1 8) 1 fn)) 9 (ups (A1 9) 1 0)) 10 (ups (A1 10) 1 0)) 11 (ups (A1 11) 1 0) = A2 at e2 r2
  have k7 : ups F1 12 2 7 = 1 := by simp [ups, g7]
  have k5 : ups F1 12 2 5 = F 5 := by rw [← hF1]; simp [ups]
  have k2 : A2 2 fn = 3 := by rw [← hA2]; simp [ups, b2]
  have ed : en_doCall F1 A1 fn = some (0, ups (ups (ups F1 12 2) 7 (1 + 1)) 5 3, ups (ups (ups A2 4 (ups (A2 4) 1 fn)) 5 (ups (A2 5) 1 (F 5 + 1))) 6 (ups (A2 6) 1 1)) := by
    rw [een_doCall, g7, show (1 : Int32) - 1 = 0 by decide, b6, if_pos (by decide), if_neg (by decide), e1, r1, ifS, if_pos (by decide), g12, g0, if_pos p0, e2, r2]
    dsimp only
    rw [if_pos ⟨rfl, by rw [k7]; decide, by rw [k7]; decide, fn0, fn8⟩, k7, k5, k2]
  have rd := r_of (eR_doCall F1 A1 fn) ed
  have ea : en_apply F1 A1 8 fn = some (0, ups (ups (ups F1 12 2) 7 (1 + 1)) 5 3, ups (ups (ups A2 4 (ups (A2 4) 1 fn)) 5 (ups (A2 5) 1 (F 5 + 1))) 6 (ups (A2 6) 1 1)) := by
    rw [een_apply, if_neg (by decide), if_neg (by decide), if_neg (by decide), if_neg (by decide), if_neg (by decide), if_neg (by decide), if_neg (by decide), if_pos rfl, ed, rd, ifS]
  refine ⟨_, _, stepOf F F1 _ A A1 _ 8 fn h5 h54 h56 ho ha ef ec ea, by simp [ups], by simp [ups], by rw [← hF1]; simp [ups], by simp [ups], fun i h5 h7 h8 h12 => by rw [← hF1]; simp [ups, h5, h7, h8, h12], ?_, ?_, ?_, ?_, by simp [ups], by simp [ups], by simp [ups], ?_, ?_, ?_, ?_, ?_, fun j h9 h10 h14 => ?_, fun j h4 h5 h6 h7 h8 h9 h10 h11 h14 => ?_⟩
  · rw [← hA2]; simp [ups, c9]
  · rw [← hA2]; simp [ups, c10]
  · rw [← hA2, ← c14]; simp [ups]
  · rw [← hA2]; simp [ups]; exact (cx 1 (by decide)).2.2
  · rw [← hA2]; simp [ups]
  · rw [← hA2]; simp [ups]
  · rw [← hA2]; simp [ups]
  · rw [← hA2]; simp [ups]
  · rw [← hA2]; simp [ups]
  · have q := cj j h9 h10 h14
    rw [← hA2, ← q]
    by_cases z4 : j = 4 <;> by_cases z5 : j = 5 <;> by_cases z6 : j = 6 <;> by_cases z7 : j = 7 <;> by_cases z8 : j = 8 <;> by_cases z11 : j = 11 <;> simp [ups, z4, z5, z6, z7, z8, z11, h9, h10] <;> subst_vars <;> simp_all [ups]
  · rw [← hA2, ← cj j h9 h10 h14]; simp [ups, h4, h5, h6, h7, h8, h9, h10, h11]
theorem pushI (F : Nat → Int32) (A : Nat → Int32 → Int32) (v fn : Int32) (p0 : 1 < F 0) (p1 : ¬ F 1 = 0) (h5 : ¬ F 5 < 0) (h54 : F 5 < F 4) (h56 : F 5 < 64) (h6 : ¬ F 6 < 0) (h616 : F 6 < 16) (f7 : F 7 = 2) (ho : A 0 (F 5) = 1) (ha : A 1 (F 5) = v) (a6 : A 6 1 = 1) (a7 : A 7 0 = -1) (a71 : A 7 1 = 0) (a4 : A 4 1 = fn) (h : F 13 = 1 ∧ A 14 1 = 0 ∨ (F 13 = 2 ∧ A 12 1 = 0 ∧ A 13 1 = fn)) :
    ∃ F' A', en_stepOnce F A = some (1, F', A') ∧ F' 5 = F 5 + 1 ∧ F' 6 = F 6 + 1 ∧ F' 8 = F 8 + 1 ∧ (∀ i, i ≠ 5 → i ≠ 6 → i ≠ 8 → i ≠ 13 → F' i = F i) ∧ A' 3 (F 6) = v ∧ (∀ x, x ≠ F 6 → A' 3 x = A 3 x) ∧
      (F' 13 = if (F 8 + 1) % F 1 = 0 then 2 else F 13) ∧ (F' 13 = 1 ∧ A' 14 1 = 0 ∨ (F' 13 = 2 ∧ A' 12 1 = 0 ∧ A' 13 1 = fn)) ∧ A' 14 1 = A 14 1 + (if (F 8 + 1) % F 1 = 0 then 1 else 0) ∧ A' 14 0 = A 14 0 ∧ A' 9 0 = A 9 0 ∧ A' 9 1 = A 9 1 + 1 ∧ A' 10 0 = A 10 0 + 1 ∧ A' 10 1 = A 10 1 + 1 ∧
      ∀ j, j ≠ 3 → j ≠ 9 → j ≠ 10 → j ≠ 12 → j ≠ 13 → j ≠ 14 → A' j = A j := by
  obtain ⟨F1, A1, ec, c8, ci, c13, cs, c141, c140, c90, c91, c100, c101, cj⟩ := chargeI F A fn f7 p1 p0 a6 a7 a71 a4 h
  have ef : en_faults F A 1 v = some 0 := by rw [een_faults, if_pos rfl, if_pos h616]; exact congrArg some nar0
  have e6 : F1 6 = F 6 := ci 6 (by decide) (by decide)
  have e5 : F1 5 = F 5 := ci 5 (by decide) (by decide)
  have ea : en_apply F1 A1 1 v = some (0, ups (ups F1 6 (F 6 + 1)) 5 (F 5 + 1), ups A1 3 (ups (A1 3) (F 6) v)) := by
    rw [een_apply, if_pos rfl, e6, if_pos ⟨h6, h616⟩, e5]
  refine ⟨_, _, stepOf F F1 _ A A1 _ 1 v h5 h54 h56 ho ha ef ec ea, by simp [ups], by simp [ups], by simp [ups, c8], fun i h5 h6 h8 h13 => by simp [ups, h5, h6]; exact ci i h13 h8, by simp [ups], fun x hx => ?_, ?_, ?_, ?_, by simp [ups, c140], by simp [ups, c90], by simp [ups, c91], by simp [ups, c100], by simp [ups, c101], fun j h3 h9 h10 h12 h13 h14 => ?_⟩
  · rw [ups_at, ups_ne _ _ hx, cj 3 (by decide) (by decide) (by decide) (by decide) (by decide)]
  · rw [← c13]; simp [ups]
  · simpa [ups] using cs
  · rw [← c141]; simp [ups]
  · rw [ups_ne _ _ h3, cj j h9 h10 h12 h13 h14]
theorem addI (F : Nat → Int32) (A : Nat → Int32 → Int32) (v fn : Int32) (p0 : 1 < F 0) (p1 : ¬ F 1 = 0) (h5 : ¬ F 5 < 0) (h54 : F 5 < F 4) (h56 : F 5 < 64) (h6 : F 6 = 2) (f7 : F 7 = 2) (ho : A 0 (F 5) = 2) (ha : A 1 (F 5) = v) (a6 : A 6 1 = 1) (a7 : A 7 0 = -1) (a71 : A 7 1 = 0) (a4 : A 4 1 = fn) (h : F 13 = 1 ∧ A 14 1 = 0 ∨ (F 13 = 2 ∧ A 12 1 = 0 ∧ A 13 1 = fn)) :
    ∃ F' A', en_stepOnce F A = some (1, F', A') ∧ F' 5 = F 5 + 1 ∧ F' 6 = 1 ∧ F' 8 = F 8 + 1 ∧ (∀ i, i ≠ 5 → i ≠ 6 → i ≠ 8 → i ≠ 13 → F' i = F i) ∧ A' 3 0 = A 3 0 + A 3 1 ∧
      (F' 13 = if (F 8 + 1) % F 1 = 0 then 2 else F 13) ∧ (F' 13 = 1 ∧ A' 14 1 = 0 ∨ (F' 13 = 2 ∧ A' 12 1 = 0 ∧ A' 13 1 = fn)) ∧ A' 14 1 = A 14 1 + (if (F 8 + 1) % F 1 = 0 then 1 else 0) ∧ A' 14 0 = A 14 0 ∧ A' 9 0 = A 9 0 ∧ A' 9 1 = A 9 1 + 1 ∧ A' 10 0 = A 10 0 + 1 ∧ A' 10 1 = A 10 1 + 1 ∧
      ∀ j, j ≠ 3 → j ≠ 9 → j ≠ 10 → j ≠ 12 → j ≠ 13 → j ≠ 14 → A' j = A j := by
  obtain ⟨F1, A1, ec, c8, ci, c13, cs, c141, c140, c90, c91, c100, c101, cj⟩ := chargeI F A fn f7 p1 p0 a6 a7 a71 a4 h
  have ef : en_faults F A 2 v = some 0 := by rw [een_faults, if_neg (by decide), if_pos rfl, h6, if_neg (by decide)]; exact congrArg some nar0
  have e6 : F1 6 = 2 := (ci 6 (by decide) (by decide)).trans h6
  have e5 : F1 5 = F 5 := ci 5 (by decide) (by decide)
  have s3 : A1 3 = A 3 := cj 3 (by decide) (by decide) (by decide) (by decide) (by decide)
  have er : en_arith F1 A1 1 = some (0, ups F1 6 1, ups A1 3 (ups (A1 3) 0 (A 3 0 + A 3 1))) := by
    rw [een_arith, e6, if_pos (by decide), s3]; rfl
  have rr := r_of (eR_arith F1 A1 1) er
  have ea : en_apply F1 A1 2 v = some (0, ups (ups F1 6 1) 5 (F 5 + 1), ups A1 3 (ups (A1 3) 0 (A 3 0 + A 3 1))) := by
    rw [een_apply, if_neg (by decide), if_pos rfl, if_pos rfl, er, rr, ifS]
    dsimp only
    rw [show ups F1 6 1 5 = F 5 by simp [ups, e5]]
  refine ⟨_, _, stepOf F F1 _ A A1 _ 2 v h5 h54 h56 ho ha ef ec ea, by simp [ups], by simp [ups], by simp [ups, c8], fun i h5 h6 h8 h13 => by simp [ups, h5, h6]; exact ci i h13 h8, by simp [ups], ?_, ?_, ?_, by simp [ups, c140], by simp [ups, c90], by simp [ups, c91], by simp [ups, c100], by simp [ups, c101], fun j h3 h9 h10 h12 h13 h14 => ?_⟩
  · rw [← c13]; simp [ups]
  · simpa [ups] using cs
  · rw [← c141]; simp [ups]
  · rw [ups_ne _ _ h3, cj j h9 h10 h12 h13 h14]
theorem retI (F : Nat → Int32) (A : Nat → Int32 → Int32) (v fn : Int32) (p0 : 1 < F 0) (p1 : ¬ F 1 = 0) (h5 : ¬ F 5 < 0) (h54 : F 5 < F 4) (h56 : F 5 < 64) (f7 : F 7 = 2) (ho : A 0 (F 5) = 9) (ha : A 1 (F 5) = v) (a5 : A 5 1 = 2) (a6 : A 6 1 = 1) (a7 : A 7 0 = -1) (a71 : A 7 1 = 0) (a4 : A 4 1 = fn) (h : F 13 = 1 ∧ A 14 1 = 0 ∨ (F 13 = 2 ∧ A 12 1 = 0 ∧ A 13 1 = fn)) :
    ∃ F' A', en_stepOnce F A = some (1, F', A') ∧ F' 5 = 2 ∧ F' 7 = 1 ∧ F' 8 = F 8 + 1 ∧ (∀ i, i ≠ 5 → i ≠ 7 → i ≠ 8 → i ≠ 13 → F' i = F i) ∧
      (F' 13 = if (F 8 + 1) % F 1 = 0 then 2 else F 13) ∧ (F' 13 = 1 ∧ A' 14 1 = 0 ∨ (F' 13 = 2 ∧ A' 12 1 = 0 ∧ A' 13 1 = fn)) ∧ A' 14 1 = A 14 1 + (if (F 8 + 1) % F 1 = 0 then 1 else 0) ∧ A' 14 0 = A 14 0 ∧ A' 9 0 = A 9 0 ∧ A' 9 1 = A 9 1 + 1 ∧ A' 10 0 = A 10 0 + 1 ∧ A' 10 1 = A 10 1 + 1 ∧
      ∀ j, j ≠ 9 → j ≠ 10 → j ≠ 12 → j ≠ 13 → j ≠ 14 → A' j = A j := by
  obtain ⟨F1, A1, ec, c8, ci, c13, cs, c141, c140, c90, c91, c100, c101, cj⟩ := chargeI F A fn f7 p1 p0 a6 a7 a71 a4 h
  have ef : en_faults F A 9 v = some 0 := by
    rw [een_faults, if_neg (by decide), if_neg (by decide), if_neg (by decide), if_neg (by decide), if_neg (by decide), if_neg (by decide), if_neg (by decide), if_neg (by decide)]
  have e7 : F1 7 = 2 := (ci 7 (by decide) (by decide)).trans f7
  have b5 : A1 5 1 = 2 := by rw [cj 5 (by decide) (by decide) (by decide) (by decide) (by decide), a5]
  have er : en_doRet F1 A1 = some (0, ups (ups F1 7 1) 5 2) := by
    rw [een_doRet, e7, if_pos (by decide), if_pos (by decide), show (2 : Int32) - 1 = 1 by decide, b5]
  have rr := r_of (eR_doRet F1 A1) er
  have ea : en_apply F1 A1 9 v = some (0, ups (ups F1 7 1) 5 2, A1) := by
    rw [een_apply, if_neg (by decide), if_neg (by decide), if_neg (by decide), if_neg (by decide), if_neg (by decide), if_neg (by decide), if_neg (by decide), if_neg (by decide), if_pos rfl, er, rr, ifS]
  refine ⟨_, _, stepOf F F1 _ A A1 _ 9 v h5 h54 h56 ho ha ef ec ea, by simp [ups], by simp [ups], by simp [ups, c8], fun i h5 h7 h8 h13 => by simp [ups, h5, h7]; exact ci i h13 h8, ?_, ?_, c141, c140, c90, c91, c100, c101, cj⟩
  · rw [← c13]; simp [ups]
  · simpa [ups] using cs
theorem haltR (F : Nat → Int32) (A : Nat → Int32 → Int32) (v : Int32) (p1 : ¬ F 1 = 0) (h5 : ¬ F 5 < 0) (h54 : F 5 < F 4) (h56 : F 5 < 64) (f7 : F 7 = 1) (ho : A 0 (F 5) = 10) (ha : A 1 (F 5) = v) (a6 : A 6 0 = 0) (a7 : A 7 0 = -1) :
    ∃ F' A', en_stepOnce F A = some (1, F', A') ∧ F' 3 = 2 ∧ F' 8 = F 8 + 1 ∧ (∀ i, i ≠ 3 → i ≠ 8 → F' i = F i) ∧
      A' 9 0 = A 9 0 + 1 ∧ A' 10 0 = A 10 0 + 1 ∧ A' 14 0 = A 14 0 + (if (F 8 + 1) % F 1 = 0 then 1 else 0) ∧ (∀ x, x ≠ 0 → A' 9 x = A 9 x ∧ A' 10 x = A 10 x ∧ A' 14 x = A 14 x) ∧ ∀ j, j ≠ 9 → j ≠ 10 → j ≠ 14 → A' j = A j := by
  obtain ⟨A1, ec, c9, c10, c14, cx, cj⟩ := chargeR F A f7 p1 a6 a7
  have ef : en_faults F A 10 v = some 0 := by
    rw [een_faults, if_neg (by decide), if_neg (by decide), if_neg (by decide), if_neg (by decide), if_neg (by decide), if_neg (by decide), if_neg (by decide), if_neg (by decide)]
  have ea : en_apply (ups F 8 (F 8 + 1)) A1 10 v = some (0, ups (ups F 8 (F 8 + 1)) 3 2, A1) := by
    rw [een_apply, if_neg (by decide), if_neg (by decide), if_neg (by decide), if_neg (by decide), if_neg (by decide), if_neg (by decide), if_neg (by decide), if_neg (by decide), if_neg (by decide), if_pos rfl]
  exact ⟨_, _, stepOf F _ _ A A1 _ 10 v h5 h54 h56 ho ha ef ec ea, by simp [ups], by simp [ups], fun i h3 h8 => by simp [ups, h3, h8], c9, c10, c14, cx, cj⟩
theorem rstep (F F' : Nat → Int32) (A A' : Nat → Int32 → Int32) (n : Nat) (v2 v3 v4 : Int32) (es : en_stepOnce F A = some (1, F', A')) (h : v4 < v2) (h3 : F' 3 = 1) : lp_run (n + 1) 69 v2 v3 v4 F A = lp_run n 69 v2 (v3 + 1) (v4 + 1) F' A' := by
  have rs := r_of (eR_stepOnce F A) es
  rw [lp_run_69, if_pos h, es, rs, ifS]
  dsimp only
  rw [if_neg (by decide), if_pos h3]
theorem rlast (F F' : Nat → Int32) (A A' : Nat → Int32 → Int32) (n : Nat) (v2 v3 v4 : Int32) (es : en_stepOnce F A = some (1, F', A')) (h : v4 < v2) (h3 : F' 3 = 2) : lp_run (n + 1) 69 v2 v3 v4 F A = some (v3 + 1, F', A') := by
  have rs := r_of (eR_stepOnce F A) es
  rw [lp_run_69, if_pos h, es, rs, ifS]
  dsimp only
  rw [if_neg (by decide), if_neg (by rw [h3]; decide)]
def ik (per k : Int32) : Int32 := if k % per = 0 then 1 else 0
theorem run6 (F : Nat → Int32) (A : Nat → Int32 → Int32) (a b fn per : Int32) (p0 : 1 < F 0) (p1 : F 1 = per) (pn : ¬ per = 0) (p2 : 1 < F 2) (p3 : F 3 = 1) (p4 : F 4 = 6) (p5 : F 5 = 0) (p6 : F 6 = 0) (p7 : F 7 = 1) (p8 : F 8 = 0) (p12 : F 12 = 1) (p13 : F 13 = 1)
    (o0 : A 0 0 = 1) (o1 : A 0 1 = 8) (o2 : A 0 2 = 10) (o3 : A 0 3 = 1) (o4 : A 0 4 = 2) (o5 : A 0 5 = 9) (r0 : A 1 0 = a) (r1 : A 1 1 = fn) (r3 : A 1 3 = b) (e2 : A 2 fn = 3) (fn0 : ¬ fn < 0) (fn7 : ¬ 7 < fn)
    (q6 : A 6 0 = 0) (q7 : A 7 0 = -1) (q9 : A 9 0 = 0) (q10 : A 10 0 = 0) (q140 : A 14 0 = 0) (q141 : A 14 1 = 0) :
    ∃ F' A', lp_run 1000 69 100 0 0 F A = some (6, F', A') ∧ F' 3 = 2 ∧ F' 8 = 6 ∧ F' 12 = 2 ∧ F' 7 = 1 ∧ F' 5 = 2 ∧ F' 6 = 1 ∧ (∀ i, i ≠ 3 → i ≠ 5 → i ≠ 6 → i ≠ 7 → i ≠ 8 → i ≠ 12 → i ≠ 13 → F' i = F i) ∧
      F' 13 = (if (5 : Int32) % per = 0 then 2 else if (4 : Int32) % per = 0 then 2 else if (3 : Int32) % per = 0 then 2 else 1) ∧ (F' 13 = 1 ∧ A' 14 1 = 0 ∨ (F' 13 = 2 ∧ A' 12 1 = 0 ∧ A' 13 1 = fn)) ∧
      A' 3 0 = a + b ∧ A' 4 0 = A 4 0 ∧ A' 7 1 = 0 ∧ A' 8 1 = fn ∧ A' 9 0 = 3 ∧ A' 9 1 = 3 ∧ A' 10 0 = 6 ∧ A' 10 1 = 3 ∧ A' 11 0 = A 11 0 ∧ A' 11 1 = 0 ∧ A' 14 0 = ik per 1 + ik per 2 + ik per 6 ∧ A' 14 1 = ik per 3 + ik per 4 + ik per 5 := by
  have pn1 : ¬ F 1 = 0 := by rw [p1]; exact pn
  obtain ⟨F1, A1, s1, x5, x6, x8, xi, x3, -, x9, x10, x14, xx, xj⟩ := pushR F A a pn1 (by rw [p5]; decide) (by rw [p5, p4]; decide) (by rw [p5]; decide) (by rw [p6]; decide) (by rw [p6]; decide) p7 (by rw [p5, o0]) (by rw [p5, r0]) q6 q7
  rw [p5] at x5; rw [p6] at x6 x3; rw [p8, p1] at x14; rw [p8] at x8
  have y5 : F1 5 = 1 := x5.trans (by decide)
  have y6 : F1 6 = 1 := x6.trans (by decide)
  have y8 : F1 8 = 1 := x8.trans (by decide)
  have i0 := xi 0 (by decide) (by decide) (by decide)
  have i1 := xi 1 (by decide) (by decide) (by decide)
  have i2 := xi 2 (by decide) (by decide) (by decide)
  have i4 := xi 4 (by decide) (by decide) (by decide)
  have j0 := xj 0 (by decide) (by decide) (by decide) (by decide)
  have j1 := xj 1 (by decide) (by decide) (by decide) (by decide)
  have j2 := xj 2 (by decide) (by decide) (by decide) (by decide)
  have j6 := xj 6 (by decide) (by decide) (by decide) (by decide)
  have j7 := xj 7 (by decide) (by decide) (by decide) (by decide)
  obtain ⟨F2, A2, s2, y25, y27, y28, y212, zi, z9, z10, z14, z141, z4, z5, z6, z7, z8, z91, z101, z111, z0, zj⟩ := callR F1 A1 fn (by rw [i0]; exact p0) (by rw [i1]; exact pn1) (by rw [i2]; exact p2) (by rw [y5]; decide) (by rw [y5, i4, p4]; decide) (by rw [y5]; decide) ((xi 7 (by decide) (by decide) (by decide)).trans p7) ((xi 12 (by decide) (by decide) (by decide)).trans p12) (by rw [y5, j0, o1]) (by rw [y5, j1, r1]) fn0 fn7 (by rw [j2, e2]) (by rw [j6, q6]) (by rw [j7, q7])
  rw [y8] at y28; rw [y8, i1, p1] at z14; rw [y5] at z5
  have w28 : F2 8 = 2 := y28.trans (by decide)
  have w26 : F2 6 = 1 := (zi 6 (by decide) (by decide) (by decide) (by decide)).trans y6
  have k0 := (zi 0 (by decide) (by decide) (by decide) (by decide)).trans i0
  have k1 := (zi 1 (by decide) (by decide) (by decide) (by decide)).trans i1
  have k4 := (zi 4 (by decide) (by decide) (by decide) (by decide)).trans i4
  have k13 : F2 13 = 1 := ((zi 13 (by decide) (by decide) (by decide) (by decide)).trans (xi 13 (by decide) (by decide) (by decide))).trans p13
  have l0 : A2 0 = A 0 := (zj 0 (by decide) (by decide) (by decide) (by decide) (by decide) (by decide) (by decide) (by decide) (by decide)).trans j0
  have l1 : A2 1 = A 1 := (zj 1 (by decide) (by decide) (by decide) (by decide) (by decide) (by decide) (by decide) (by decide) (by decide)).trans j1
  have l3 : A2 3 = A1 3 := zj 3 (by decide) (by decide) (by decide) (by decide) (by decide) (by decide) (by decide) (by decide) (by decide)
  have l70 : A2 7 0 = -1 := (z0 7 (by decide) (by decide) (by decide)).trans (by rw [j7, q7])
  have l60 : A2 6 0 = 0 := (z0 6 (by decide) (by decide) (by decide)).trans (by rw [j6, q6])
  have l141 : A2 14 1 = 0 := z141.trans ((xx 1 (by decide)).2.2.trans q141)
  obtain ⟨F3, A3, s3, u5, u6, u8, ui, u3, u3x, u13, us, u141, u140, u90, u91, u100, u101, uj⟩ := pushI F2 A2 b fn (by rw [k0]; exact p0) (by rw [k1]; exact pn1) (by rw [y25]; decide) (by rw [y25, k4, p4]; decide) (by rw [y25]; decide) (by rw [w26]; decide) (by rw [w26]; decide) y27 (by rw [y25, l0, o3]) (by rw [y25, l1, r3]) z6 l70 z7 z4 (Or.inl ⟨k13, l141⟩)
  rw [y25] at u5; rw [w26] at u6 u3 u3x; rw [w28] at u8; rw [w28, k1, p1] at u13 u141
  have v5 : F3 5 = 4 := u5.trans (by decide)
  have v6 : F3 6 = 2 := u6.trans (by decide)
  have v8 : F3 8 = 3 := u8.trans (by decide)
  have m0 := (ui 0 (by decide) (by decide) (by decide) (by decide)).trans k0
  have m1 := (ui 1 (by decide) (by decide) (by decide) (by decide)).trans k1
  have m4 := (ui 4 (by decide) (by decide) (by decide) (by decide)).trans k4
  have m7 := (ui 7 (by decide) (by decide) (by decide) (by decide)).trans y27
  have h0 : A3 0 = A 0 := (uj 0 (by decide) (by decide) (by decide) (by decide) (by decide) (by decide)).trans l0
  have h4 := uj 4 (by decide) (by decide) (by decide) (by decide) (by decide) (by decide)
  have h5 := uj 5 (by decide) (by decide) (by decide) (by decide) (by decide) (by decide)
  have h6 := uj 6 (by decide) (by decide) (by decide) (by decide) (by decide) (by decide)
  have h7 := uj 7 (by decide) (by decide) (by decide) (by decide) (by decide) (by decide)
  obtain ⟨F4, A4, s4, d5, d6, d8, di, d3, d13, ds, d141, d140, d90, d91, d100, d101, dj⟩ := addI F3 A3 _ fn (by rw [m0]; exact p0) (by rw [m1]; exact pn1) (by rw [v5]; decide) (by rw [v5, m4, p4]; decide) (by rw [v5]; decide) v6 m7 (by rw [v5, h0, o4]) rfl (by rw [h6, z6]) (by rw [h7, l70]) (by rw [h7, z7]) (by rw [h4, z4]) us
  rw [v5] at d5; rw [v8] at d8; rw [v8, m1, p1] at d13 d141
  have f5 : F4 5 = 5 := d5.trans (by decide)
  have f8 : F4 8 = 4 := d8.trans (by decide)
  have n0 := (di 0 (by decide) (by decide) (by decide) (by decide)).trans m0
  have n1 := (di 1 (by decide) (by decide) (by decide) (by decide)).trans m1
  have n4 := (di 4 (by decide) (by decide) (by decide) (by decide)).trans m4
  have n7 := (di 7 (by decide) (by decide) (by decide) (by decide)).trans m7
  have g0 : A4 0 = A 0 := (dj 0 (by decide) (by decide) (by decide) (by decide) (by decide) (by decide)).trans h0
  have g4 := (dj 4 (by decide) (by decide) (by decide) (by decide) (by decide) (by decide)).trans h4
  have g5 := (dj 5 (by decide) (by decide) (by decide) (by decide) (by decide) (by decide)).trans h5
  have g6 := (dj 6 (by decide) (by decide) (by decide) (by decide) (by decide) (by decide)).trans h6
  have g7 := (dj 7 (by decide) (by decide) (by decide) (by decide) (by decide) (by decide)).trans h7
  obtain ⟨F5, A5, s5, t5, t7, t8, ti, t13, ts, t141, t140, t90, t91, t100, t101, tj⟩ := retI F4 A4 _ fn (by rw [n0]; exact p0) (by rw [n1]; exact pn1) (by rw [f5]; decide) (by rw [f5, n4, p4]; decide) (by rw [f5]; decide) n7 (by rw [f5, g0, o5]) rfl (by rw [g5, z5]; decide) (by rw [g6, z6]) (by rw [g7, l70]) (by rw [g7, z7]) (by rw [g4, z4]) ds
  rw [f8] at t8; rw [f8, n1, p1] at t13 t141
  have c8 : F5 8 = 5 := t8.trans (by decide)
  have b1 := (ti 1 (by decide) (by decide) (by decide) (by decide)).trans n1
  have b4 := (ti 4 (by decide) (by decide) (by decide) (by decide)).trans n4
  have a0 : A5 0 = A 0 := (tj 0 (by decide) (by decide) (by decide) (by decide) (by decide)).trans g0
  have a4 := (tj 4 (by decide) (by decide) (by decide) (by decide) (by decide)).trans g4
  have a6 := (tj 6 (by decide) (by decide) (by decide) (by decide) (by decide)).trans g6
  have a7 := (tj 7 (by decide) (by decide) (by decide) (by decide) (by decide)).trans g7
  obtain ⟨F6, A6, s6, e63, e68, ei, e9, e10, e14, ex, ej⟩ := haltR F5 A5 _ (by rw [b1]; exact pn1) (by rw [t5]; decide) (by rw [t5, b4, p4]; decide) (by rw [t5]; decide) t7 (by rw [t5, a0, o2]) rfl (by rw [a6, l60]) (by rw [a7, l70])
  rw [c8] at e68; rw [c8, b1, p1] at e14
  have F33 : F3 3 = 1 ∧ F2 3 = 1 ∧ F1 3 = 1 ∧ F4 3 = 1 ∧ F5 3 = 1 := by
    have a1 := (xi 3 (by decide) (by decide) (by decide)).trans p3
    have a2 := (zi 3 (by decide) (by decide) (by decide) (by decide)).trans a1
    have a3 := (ui 3 (by decide) (by decide) (by decide) (by decide)).trans a2
    have a4 := (di 3 (by decide) (by decide) (by decide) (by decide)).trans a3
    have a5 := (ti 3 (by decide) (by decide) (by decide) (by decide)).trans a4
    exact ⟨a3, a2, a1, a4, a5⟩
  refine ⟨F6, A6, ?_, e63, e68.trans (by decide), ?_, (ei 7 (by decide) (by decide)).trans t7, (ei 5 (by decide) (by decide)).trans t5, ?_, fun i h3 h5 h6 h7 h8 h12 h13 => ?_, ?_, ?_, ?_, ?_, ?_, ?_, ?_, ?_, ?_, ?_, ?_, ?_, ?_, ?_⟩
  · rw [rstep F F1 A A1 999 100 0 0 s1 (by decide) F33.2.2.1, rstep F1 F2 A1 A2 998 100 _ _ s2 (by decide) F33.2.1, rstep F2 F3 A2 A3 997 100 _ _ s3 (by decide) F33.1, rstep F3 F4 A3 A4 996 100 _ _ s4 (by decide) F33.2.2.2.1, rstep F4 F5 A4 A5 995 100 _ _ s5 (by decide) F33.2.2.2.2, rlast F5 F6 A5 A6 994 100 _ _ s6 (by decide) e63]
    rfl
  · rw [ei 12 (by decide) (by decide), ti 12 (by decide) (by decide) (by decide) (by decide), di 12 (by decide) (by decide) (by decide) (by decide), ui 12 (by decide) (by decide) (by decide) (by decide), y212]
  · rw [ei 6 (by decide) (by decide), ti 6 (by decide) (by decide) (by decide) (by decide), d6]
  · rw [ei i h3 h8, ti i h5 h7 h8 h13, di i h5 h6 h8 h13, ui i h5 h6 h8 h13, zi i h5 h7 h8 h12, xi i h5 h6 h8]
  · rw [ei 13 (by decide) (by decide), t13, d13, u13, k13]; rfl
  · have q := ts
    rw [← ei 13 (by decide) (by decide), ← (ex 1 (by decide)).2.2, ← ej 12 (by decide) (by decide) (by decide), ← ej 13 (by decide) (by decide) (by decide)] at q
    exact q
  · rw [ej 3 (by decide) (by decide) (by decide), tj 3 (by decide) (by decide) (by decide) (by decide) (by decide), d3, u3, u3x 0 (by decide), l3, x3]
  · rw [ej 4 (by decide) (by decide) (by decide), a4, z0 4 (by decide) (by decide) (by decide), xj 4 (by decide) (by decide) (by decide) (by decide)]
  · rw [ej 7 (by decide) (by decide) (by decide), a7, z7]
  · rw [ej 8 (by decide) (by decide) (by decide), tj 8 (by decide) (by decide) (by decide) (by decide) (by decide), dj 8 (by decide) (by decide) (by decide) (by decide) (by decide) (by decide), uj 8 (by decide) (by decide) (by decide) (by decide) (by decide) (by decide), z8]
  · rw [e9, t90, d90, u90, z9, x9, q9]; decide
  · rw [(ex 1 (by decide)).1, t91, d91, u91, z91]; decide
  · rw [e10, t100, d100, u100, z10, x10, q10]; decide
  · rw [(ex 1 (by decide)).2.1, t101, d101, u101, z101]; decide
  · rw [ej 11 (by decide) (by decide) (by decide), tj 11 (by decide) (by decide) (by decide) (by decide) (by decide), dj 11 (by decide) (by decide) (by decide) (by decide) (by decide) (by decide), uj 11 (by decide) (by decide) (by decide) (by decide) (by decide) (by decide), z0 11 (by decide) (by decide) (by decide), xj 11 (by decide) (by decide) (by decide) (by decide)]
  · rw [ej 11 (by decide) (by decide) (by decide), tj 11 (by decide) (by decide) (by decide) (by decide) (by decide), dj 11 (by decide) (by decide) (by decide) (by decide) (by decide) (by decide), uj 11 (by decide) (by decide) (by decide) (by decide) (by decide) (by decide), z111]
  · rw [e14, t140, d140, u140, z14, x14, q140, Int32.zero_add]; rfl
  · rw [(ex 1 (by decide)).2.2, t141, d141, u141, l141, Int32.zero_add]; rfl
theorem emitD (F : Nat → Int32) (A : Nat → Int32 → Int32) (op arg k : Int32) (f3 : F 3 = 0) (f4 : F 4 = k) (h0 : ¬ op < 0) (h1 : ¬ 10 < op) (k0 : ¬ k < 0) (k1 : k < 64) :
    ∃ F' A', en_emit F A op arg = some (k, F', A') ∧ F' 4 = k + 1 ∧ (∀ i, i ≠ 4 → F' i = F i) ∧ A' 0 k = op ∧ A' 1 k = arg ∧ (∀ x, x ≠ k → A' 0 x = A 0 x ∧ A' 1 x = A 1 x) ∧ ∀ j, j ≠ 0 → j ≠ 1 → A' j = A j := by
  refine ⟨ups F 4 (k + 1), ups (ups A 0 (ups (A 0) k op)) 1 (ups (A 1) k arg), ?_, by simp [ups], fun i hi => by simp [ups, hi], by simp [ups], by simp [ups], fun x hx => by simp [ups, hx], fun j hj0 hj1 => by simp [ups, hj0, hj1]⟩
  rw [een_emit, if_pos f3, if_neg h0, if_neg h1, f4, if_pos k1, if_pos k0]
theorem setD (F : Nat → Int32) (A : Nat → Int32 → Int32) (p e : Int32) (f3 : F 3 = 0) (h0 : ¬ p < 0) (h1 : ¬ 7 < p) (e0 : ¬ e < 0) (e1 : ¬ 63 < e) : en_setEntry F A p e = some (1, ups A 2 (ups (A 2) p e)) := by
  rw [een_setEntry, if_pos f3, if_neg h0, if_neg h1, if_neg e0, if_neg e1, if_pos (by grind)]
theorem build5 (F : Nat → Int32) (A : Nat → Int32 → Int32) (a b fn pp : Int32) (f3 : F 3 = 0) (f4 : F 4 = 0) (fn0 : ¬ fn < 0) (fn7 : ¬ 7 < fn) (fnz : ¬ 0 = fn) :
    ∃ F' A', lp_L_law 1000 47 a b fn pp 0 0 0 F A = lp_L_law 992 125 a b fn pp 0 0 0 F' A' ∧ F' 4 = 6 ∧ (∀ i, i ≠ 4 → F' i = F i) ∧ A' 0 0 = 1 ∧ A' 0 1 = 8 ∧ A' 0 2 = 10 ∧ A' 0 3 = 1 ∧ A' 0 4 = 2 ∧ A' 0 5 = 9 ∧ A' 1 0 = a ∧ A' 1 1 = fn ∧ A' 1 3 = b ∧ A' 2 0 = 0 ∧ A' 2 fn = 3 ∧ ∀ j, j ≠ 0 → j ≠ 1 → j ≠ 2 → A' j = A j := by
  obtain ⟨F1, A1, e1, a4, ai, ao, ar, ax, aj⟩ := emitD F A 1 a 0 f3 f4 (by decide) (by decide) (by decide) (by decide)
  obtain ⟨F2, A2, e2, b4, bi, bo, br, bx, bj⟩ := emitD F1 A1 8 fn 1 ((ai 3 (by decide)).trans f3) (a4.trans (by decide)) (by decide) (by decide) (by decide) (by decide)
  obtain ⟨F3, A3, e3, c4, ci, co, cr, cx, cj⟩ := emitD F2 A2 10 0 2 ((bi 3 (by decide)).trans ((ai 3 (by decide)).trans f3)) (b4.trans (by decide)) (by decide) (by decide) (by decide) (by decide)
  have z3 : F3 3 = 0 := (ci 3 (by decide)).trans ((bi 3 (by decide)).trans ((ai 3 (by decide)).trans f3))
  obtain ⟨F4, A4, e4, d4, di, do_, dr, dx, dj⟩ := emitD F3 A3 1 b 3 z3 (c4.trans (by decide)) (by decide) (by decide) (by decide) (by decide)
  have z4 : F4 3 = 0 := (di 3 (by decide)).trans z3
  obtain ⟨F5, A5, e5, g4, gi, go, gr, gx, gj⟩ := emitD F4 A4 2 0 4 z4 (d4.trans (by decide)) (by decide) (by decide) (by decide) (by decide)
  have z5 : F5 3 = 0 := (gi 3 (by decide)).trans z4
  obtain ⟨F6, A6, e6, h4, hi, ho, hr, hx, hj⟩ := emitD F5 A5 9 0 5 z5 (g4.trans (by decide)) (by decide) (by decide) (by decide) (by decide)
  have z6 : F6 3 = 0 := (hi 3 (by decide)).trans z5
  have s1 := setD F6 A6 0 0 z6 (by decide) (by decide) (by decide) (by decide)
  have s2 := setD F6 (ups A6 2 (ups (A6 2) 0 0)) fn 3 z6 fn0 fn7 (by decide) (by decide)
  refine ⟨F6, ups (ups A6 2 (ups (A6 2) 0 0)) 2 (ups (ups A6 2 (ups (A6 2) 0 0) 2) fn 3), ?_, h4.trans (by decide), fun i hn => by rw [hi i hn, gi i hn, di i hn, ci i hn, bi i hn, ai i hn], ?_, ?_, ?_, ?_, ?_, ?_, ?_, ?_, ?_, ?_, ?_, fun j j0 j1 j2 => ?_⟩
  · rw [lp_L_law_47, e1, r_of (eR_emit _ _ _ _) e1, ifS]
    dsimp only
    rw [lp_L_law_55, e2, r_of (eR_emit _ _ _ _) e2, ifS]
    dsimp only
    rw [lp_L_law_65, e3, r_of (eR_emit _ _ _ _) e3, ifS]
    dsimp only
    rw [lp_L_law_74, e4, r_of (eR_emit _ _ _ _) e4, ifS]
    dsimp only
    rw [lp_L_law_83, e5, r_of (eR_emit _ _ _ _) e5, ifS]
    dsimp only
    rw [lp_L_law_91, e6, r_of (eR_emit _ _ _ _) e6, ifS]
    dsimp only
    rw [lp_L_law_100, s1, r_of (eR_setEntry _ _ _ _) s1, ifS]
    dsimp only
    rw [if_neg (by decide), lp_L_law_112, s2, r_of (eR_setEntry _ _ _ _) s2, ifS]
    dsimp only
    rw [if_neg (by decide)]
  · rw [ups_ne _ _ (by decide), ups_ne _ _ (by decide), (hx 0 (by decide)).1, (gx 0 (by decide)).1, (dx 0 (by decide)).1, (cx 0 (by decide)).1, (bx 0 (by decide)).1, ao]
  · rw [ups_ne _ _ (by decide), ups_ne _ _ (by decide), (hx 1 (by decide)).1, (gx 1 (by decide)).1, (dx 1 (by decide)).1, (cx 1 (by decide)).1, bo]
  · rw [ups_ne _ _ (by decide), ups_ne _ _ (by decide), (hx 2 (by decide)).1, (gx 2 (by decide)).1, (dx 2 (by decide)).1, co]
  · rw [ups_ne _ _ (by decide), ups_ne _ _ (by decide), (hx 3 (by decide)).1, (gx 3 (by decide)).1, do_]
  · rw [ups_ne _ _ (by decide), ups_ne _ _ (by decide), (hx 4 (by decide)).1, go]
  · rw [ups_ne _ _ (by decide), ups_ne _ _ (by decide), ho]
  · rw [ups_ne _ _ (by decide), ups_ne _ _ (by decide), (hx 0 (by decide)).2, (gx 0 (by decide)).2, (dx 0 (by decide)).2, (cx 0 (by decide)).2, (bx 0 (by decide)).2, ar]
  · rw [ups_ne _ _ (by decide), ups_ne _ _ (by decide), (hx 1 (by decide)).2, (gx 1 (by decide)).2, (dx 1 (by decide)).2, (cx 1 (by decide)).2, br]
  · rw [ups_ne _ _ (by decide), ups_ne _ _ (by decide), (hx 3 (by decide)).2, (gx 3 (by decide)).2, dr]
  · rw [ups_at, ups_ne _ _ fnz, ups_at, ups_at]
  · rw [ups_at, ups_at]
  · rw [ups_ne _ _ j2, ups_ne _ _ j2, hj j j0 j1, gj j j0 j1, dj j j0 j1, cj j j0 j1, bj j j0 j1, aj j j0 j1]
theorem itA (per v3 v4 v6 v9 v10 k : Int32) (F : Nat → Int32) (A : Nat → Int32 → Int32) (n : Nat) (hp : ¬ per = 0) (hk : ¬ 6 < k) (h3 : k < 3 ∨ 5 < k) : lp_L_law (n + 1) 148 v3 v4 v6 per v9 v10 k F A = lp_L_law n 148 v3 v4 v6 per (v9 + ik per k) v10 (k + 1) F A := by
  rw [lp_L_law_148, if_neg hk, if_pos hp]; unfold ik
  by_cases c : k % per = 0
  · rw [if_pos c, if_pos c, if_pos c]
    by_cases d : k < 3
    · rw [if_pos d, if_pos d]
    · rw [if_neg d, if_neg d, if_pos (h3.resolve_left d), if_pos (h3.resolve_left d)]
  · rw [if_neg c, if_neg c, if_neg c, Int32.add_zero]
theorem itB (per v3 v4 v6 v9 v10 k : Int32) (F : Nat → Int32) (A : Nat → Int32 → Int32) (n : Nat) (hp : ¬ per = 0) (hk : ¬ 6 < k) (h3 : ¬ k < 3) (h5 : ¬ 5 < k) : lp_L_law (n + 1) 148 v3 v4 v6 per v9 v10 k F A = lp_L_law n 148 v3 v4 v6 per v9 (v10 + ik per k) (k + 1) F A := by
  rw [lp_L_law_148, if_neg hk, if_pos hp]; unfold ik
  by_cases c : k % per = 0
  · rw [if_pos c, if_pos c, if_pos c, if_neg h3, if_neg h3, if_neg h5, if_neg h5]
  · rw [if_neg c, if_neg c, if_neg c, Int32.add_zero]
theorem six (per v3 v4 v6 : Int32) (F : Nat → Int32) (A : Nat → Int32 → Int32) (n : Nat) (hp : ¬ per = 0) : lp_L_law (n + 6) 148 v3 v4 v6 per 0 0 1 F A = lp_L_law n 148 v3 v4 v6 per (ik per 1 + ik per 2 + ik per 6) (ik per 3 + ik per 4 + ik per 5) 7 F A := by
  rw [itA per v3 v4 v6 0 0 1 F A (n + 5) hp (by decide) (by decide), Int32.zero_add, show (1 : Int32) + 1 = 2 by decide, itA per v3 v4 v6 _ 0 2 F A (n + 4) hp (by decide) (by decide), show (2 : Int32) + 1 = 3 by decide,
    itB per v3 v4 v6 _ 0 3 F A (n + 3) hp (by decide) (by decide) (by decide), Int32.zero_add, show (3 : Int32) + 1 = 4 by decide, itB per v3 v4 v6 _ _ 4 F A (n + 2) hp (by decide) (by decide) (by decide), show (4 : Int32) + 1 = 5 by decide,
    itB per v3 v4 v6 _ _ 5 F A (n + 1) hp (by decide) (by decide) (by decide), show (5 : Int32) + 1 = 6 by decide, itA per v3 v4 v6 _ _ 6 F A n hp (by decide) (by decide), show (6 : Int32) + 1 = 7 by decide]
theorem inn (per : Int32) : (0 < ik per 3 + ik per 4 + ik per 5 ∧ (if (5 : Int32) % per = 0 then (2 : Int32) else if (4 : Int32) % per = 0 then 2 else if (3 : Int32) % per = 0 then 2 else 1) = 2) ∨ (¬ 0 < ik per 3 + ik per 4 + ik per 5 ∧ (if (5 : Int32) % per = 0 then (2 : Int32) else if (4 : Int32) % per = 0 then 2 else if (3 : Int32) % per = 0 then 2 else 1) = 1) := by
  unfold ik
  by_cases c3 : (3 : Int32) % per = 0 <;> by_cases c4 : (4 : Int32) % per = 0 <;> by_cases c5 : (5 : Int32) % per = 0 <;> simp only [c3, c4, c5, if_true, if_false] <;> decide
theorem inf (F : Nat → Int32) (A : Nat → Int32 → Int32) : en_info F A 0 = some (F 3) ∧ en_info F A 1 = some (F 8) ∧ en_info F A 2 = some (F 12) ∧ en_info F A 3 = some (F 9) ∧ en_info F A 5 = some (F 13) ∧ en_info F A 6 = some (F 10) ∧ en_info F A 7 = some (F 7) ∧ en_info F A 8 = some (F 5) ∧ en_info F A 9 = some (F 6) := by
  refine ⟨?_, ?_, ?_, ?_, ?_, ?_, ?_, ?_, ?_⟩ <;> rw [een_info] <;> simp
theorem inf4 (F : Nat → Int32) (A : Nat → Int32 → Int32) (h : ¬ F 1 = 0) : en_info F A 4 = some (F 8 / F 1) := by
  rw [een_info]; simp [h]
theorem inf10 (F : Nat → Int32) (A : Nat → Int32 → Int32) (h : F 6 = 1) : en_info F A 10 = some (A 3 0) := by
  rw [een_info, h]; simp
theorem pq (F : Nat → Int32) (A : Nat → Int32 → Int32) (f k : Int32) (h0 : ¬ f < 0) (h7 : ¬ 7 < f) (hk : F 11 = k) (k0 : ¬ k < 0) (k16 : k < 16) : en_pushQuery F A f = some (1, ups F 11 (k + 1), ups A 15 (ups (A 15) k f)) := by
  rw [een_pushQuery, if_neg h0, if_neg h7, hk, if_pos k16, if_pos k0]
theorem q1I (F : Nat → Int32) (A : Nat → Int32 → Int32) (h : F 11 = 1) (a : A 15 0 = 0) : en_queryInstrNode F A = some 0 := by
  rw [een_queryInstrNode, h, if_pos (by decide), a, if_pos rfl, lp_queryInstrNode_22, h, if_neg (by decide)]
theorem q1S (F : Nat → Int32) (A : Nat → Int32 → Int32) (h : F 11 = 1) (a : A 15 0 = 0) : en_querySampledNode F A = some 0 := by
  rw [een_querySampledNode, h, if_pos (by decide), a, if_pos rfl, lp_querySampledNode_22, h, if_neg (by decide)]
theorem q2I (F : Nat → Int32) (A : Nat → Int32 → Int32) (fn : Int32) (h : F 11 = 2) (h12 : F 12 = 2) (a : A 15 0 = 0) (a1 : A 15 1 = fn) (a7 : A 7 1 = 0) (a8 : A 8 1 = fn) : en_queryInstrNode F A = some 1 := by
  have e : en_findInstrChild F A 0 fn = some 1 := by
    rw [een_findInstrChild, lp_findInstrChild_2, h12, if_pos (by decide), if_pos (by decide), a7, if_pos rfl, if_pos (by decide), a8, if_pos rfl]
  rw [een_queryInstrNode, h, if_pos (by decide), a, if_pos rfl, lp_queryInstrNode_22, h, if_pos (by decide), a1, e, r_of (eR_findInstrChild _ _ _ _) e, if_pos ⟨by decide, by decide, rfl⟩, if_neg (by decide), lp_queryInstrNode_22, h, if_neg (by decide)]
theorem q2S (F : Nat → Int32) (A : Nat → Int32 → Int32) (fn : Int32) (h : F 11 = 2) (a : A 15 0 = 0) (a1 : A 15 1 = fn) : (F 13 = 1 → en_querySampledNode F A = some (-1)) ∧ (F 13 = 2 → A 12 1 = 0 → A 13 1 = fn → en_querySampledNode F A = some 1) := by
  constructor
  · intro h13
    have e : en_findSampledChild F A 0 fn = some (-1) := by
      rw [een_findSampledChild, lp_findSampledChild_2, h13, if_neg (by decide)]
    rw [een_querySampledNode, h, if_pos (by decide), a, if_pos rfl, lp_querySampledNode_22, h, if_pos (by decide), a1, e, r_of (eR_findSampledChild _ _ _ _) e, if_pos ⟨by decide, by decide, rfl⟩, if_pos (by decide)]
  · intro h13 a12 a13
    have e : en_findSampledChild F A 0 fn = some 1 := by
      rw [een_findSampledChild, lp_findSampledChild_2, h13, if_pos (by decide), if_pos (by decide), a12, if_pos rfl, if_pos (by decide), a13, if_pos rfl]
    rw [een_querySampledNode, h, if_pos (by decide), a, if_pos rfl, lp_querySampledNode_22, h, if_pos (by decide), a1, e, r_of (eR_findSampledChild _ _ _ _) e, if_pos ⟨by decide, by decide, rfl⟩, if_neg (by decide), lp_querySampledNode_22, h, if_neg (by decide)]
theorem obs (F : Nat → Int32) (A : Nat → Int32 → Int32) (k : Int32) (e : en_queryInstrNode F A = some k) (h0 : ¬ k < 0) (h1 : k < 32) : en_self F A = some (A 9 k) ∧ en_inclusive F A = some (A 10 k) ∧ en_lost F A = some (A 11 k) := by
  have r := r_of (eR_queryInstrNode F A) e
  refine ⟨?_, ?_, ?_⟩
  · rw [een_self, e, r, if_pos ⟨rfl, fun _ => h1⟩, if_neg h0]
  · rw [een_inclusive, e, r, if_pos ⟨rfl, fun _ => h1⟩, if_neg h0]
  · rw [een_lost, e, r, if_pos ⟨rfl, fun _ => h1⟩, if_neg h0]
theorem obsS (F : Nat → Int32) (A : Nat → Int32 → Int32) (k : Int32) (e : en_querySampledNode F A = some k) (h1 : k < 32) : en_sampledSelf F A = some (if k < 0 then -1 else A 14 k) := by
  have r := r_of (eR_querySampledNode F A) e
  rw [een_sampledSelf, e, r, if_pos ⟨rfl, fun _ => h1⟩]
theorem law5 (p1 p2 p3 p4 p5 p6 : Int32) : en_L_law p1 p2 p3 p4 p5 p6 = some 1 := by
  rw [een_L_law]
  obtain ⟨s, hs⟩ := mask_fin p6 7 3 (by decide) (by decide)
  have fnc : ∀ s : Fin (2 ^ 3), (¬ ((1 : Int32) + (Int32.ofNat s.1 % 7)) < 0) ∧ (¬ 7 < ((1 : Int32) + (Int32.ofNat s.1 % 7))) ∧ ¬ 0 = ((1 : Int32) + (Int32.ofNat s.1 % 7)) := by decide +kernel
  obtain ⟨fn0, fn7, fnz⟩ := fnc s
  rw [hs]
  generalize (1 : Int32) + (Int32.ofNat s.1 % 7) = fn at *
  have c0 := F_init_0 p1 p2 p3
  have c1 := F_init_1 p1 p2 p3
  have c2 := F_init_2 p1 p2 p3
  rw [e_clamp] at c0 c1 c2
  have pp : (if p2 < (1 : Int32) then (1 : Int32) else (if (16 : Int32) < p2 then (16 : Int32) else p2)) = F_init p1 p2 p3 1 := c1.symm
  rw [pp]
  have x0 : 1 < F_init p1 p2 p3 0 := by grind
  have x1 : ¬ F_init p1 p2 p3 1 = 0 := by grind
  have x2 : 1 < F_init p1 p2 p3 2 := by grind
  have f3 := F_init_3 p1 p2 p3
  have f4 := F_init_4 p1 p2 p3
  have f6 := F_init_6 p1 p2 p3
  have f8 := F_init_8 p1 p2 p3
  have f9 := F_init_9 p1 p2 p3
  have f10 := F_init_10 p1 p2 p3
  have f11 := F_init_11 p1 p2 p3
  have f12 := F_init_12 p1 p2 p3
  have f13 := F_init_13 p1 p2 p3
  have a7 : A_init p1 p2 p3 7 0 = -1 := by simp [eA_init, eA_reset, eA_clearTrees, ups, Jvm.Own.fill]
  have a9 : A_init p1 p2 p3 9 0 = 0 := by simp [eA_init, eA_reset, eA_clearTrees, ups, Jvm.Own.fill]
  have a10 : A_init p1 p2 p3 10 0 = 0 := by simp [eA_init, eA_reset, eA_clearTrees, ups, Jvm.Own.fill]
  have a11 : A_init p1 p2 p3 11 0 = 0 := by simp [eA_init, eA_reset, eA_clearTrees, ups, Jvm.Own.fill]
  have a140 : A_init p1 p2 p3 14 0 = 0 := by simp [eA_init, eA_reset, eA_clearTrees, ups, Jvm.Own.fill]
  have a141 : A_init p1 p2 p3 14 1 = 0 := by simp [eA_init, eA_reset, eA_clearTrees, ups, Jvm.Own.fill]
  generalize F_init p1 p2 p3 = F at *
  generalize A_init p1 p2 p3 = A at *
  obtain ⟨F1, A1, e1, g4, gi, o0, o1, o2, o3, o4, o5, r0, r1, r3, s20, s2f, gj⟩ := build5 F A p4 p5 fn (F 1) f3 f4 fn0 fn7 fnz
  rw [e1]
  have h3 : F1 3 = 0 := (gi 3 (by decide)).trans f3
  have st3 : F_start F1 A1 3 = 1 := by rw [eF_start]; simp [ups]
  have st : ∀ i, i ≠ 3 → i ≠ 5 → i ≠ 7 → F_start F1 A1 i = F1 i := fun i q3 q5 q7 => by rw [eF_start]; simp [ups, q3, q5, q7]
  have sa : ∀ j, j ≠ 4 → j ≠ 5 → j ≠ 6 → A_start A1 j = A1 j := fun j q4 q5 q6 => by rw [eA_start]; simp [ups, q4, q5, q6]
  have t : ∀ i, i ≠ 3 → i ≠ 4 → i ≠ 5 → i ≠ 7 → F_start F1 A1 i = F i := fun i q3 q4 q5 q7 => (st i q3 q5 q7).trans (gi i q4)
  have u : ∀ j, j ≠ 0 → j ≠ 1 → j ≠ 2 → j ≠ 4 → j ≠ 5 → j ≠ 6 → A_start A1 j = A j := fun j q0 q1 q2 q4 q5 q6 => (sa j q4 q5 q6).trans (gj j q0 q1 q2)
  obtain ⟨F2, A2, e2, k3, k8, k12, k7, k5, k6, ki, k13, ks, w3, w4, w7, w8, w90, w91, w100, w101, w110, w111, w140, w141⟩ := run6 (F_start F1 A1) (A_start A1) p4 p5 fn (F 1) (by rw [t 0 (by decide) (by decide) (by decide) (by decide)]; exact x0) (t 1 (by decide) (by decide) (by decide) (by decide)) x1 (by rw [t 2 (by decide) (by decide) (by decide) (by decide)]; exact x2) st3 ((st 4 (by decide) (by decide) (by decide)).trans g4) (by rw [eF_start]; simp [ups, s20]) ((t 6 (by decide) (by decide) (by decide) (by decide)).trans f6) (by rw [eF_start]; simp [ups]) ((t 8 (by decide) (by decide) (by decide) (by decide)).trans f8) ((t 12 (by decide) (by decide) (by decide) (by decide)).trans f12) ((t 13 (by decide) (by decide) (by decide) (by decide)).trans f13)
    (by rw [sa 0 (by decide) (by decide) (by decide), o0]) (by rw [sa 0 (by decide) (by decide) (by decide), o1]) (by rw [sa 0 (by decide) (by decide) (by decide), o2]) (by rw [sa 0 (by decide) (by decide) (by decide), o3]) (by rw [sa 0 (by decide) (by decide) (by decide), o4]) (by rw [sa 0 (by decide) (by decide) (by decide), o5]) (by rw [sa 1 (by decide) (by decide) (by decide), r0]) (by rw [sa 1 (by decide) (by decide) (by decide), r1]) (by rw [sa 1 (by decide) (by decide) (by decide), r3]) (by rw [sa 2 (by decide) (by decide) (by decide), s2f]) fn0 fn7
    (by rw [eA_start]; simp [ups]) (by rw [u 7 (by decide) (by decide) (by decide) (by decide) (by decide) (by decide), a7]) (by rw [u 9 (by decide) (by decide) (by decide) (by decide) (by decide) (by decide), a9]) (by rw [u 10 (by decide) (by decide) (by decide) (by decide) (by decide) (by decide), a10]) (by rw [u 14 (by decide) (by decide) (by decide) (by decide) (by decide) (by decide), a140]) (by rw [u 14 (by decide) (by decide) (by decide) (by decide) (by decide) (by decide), a141])
  have er : en_run F1 A1 100 = some (6, F2, A2) := by
    rw [een_run, if_pos (by decide), h3, if_neg (by decide), if_neg (by decide), if_pos rfl, s20, if_neg (by decide), if_neg (by decide)]; exact e2
  rw [lp_L_law_125, er, r_of (eR_run _ _ _) er, ifS]
  dsimp only
  rw [if_pos rfl, lp_L_law_139, six (F 1) p4 p5 fn F2 A2 984 x1]
  have m : ∀ i, i ≠ 3 → i ≠ 4 → i ≠ 5 → i ≠ 6 → i ≠ 7 → i ≠ 8 → i ≠ 12 → i ≠ 13 → F2 i = F i := fun i q3 q4 q5 q6 q7 q8 q12 q13 => (ki i q3 q5 q6 q7 q8 q12 q13).trans (t i q3 q4 q5 q7)
  have m1 : F2 1 = F 1 := m 1 (by decide) (by decide) (by decide) (by decide) (by decide) (by decide) (by decide) (by decide)
  have m9 : F2 9 = 0 := (m 9 (by decide) (by decide) (by decide) (by decide) (by decide) (by decide) (by decide) (by decide)).trans f9
  have m10 : F2 10 = 0 := (m 10 (by decide) (by decide) (by decide) (by decide) (by decide) (by decide) (by decide) (by decide)).trans f10
  have m11 : F2 11 = 0 := (m 11 (by decide) (by decide) (by decide) (by decide) (by decide) (by decide) (by decide) (by decide)).trans f11
  have w40 : A2 4 0 = 0 := w4.trans (by rw [eA_start]; simp [ups])
  have w110' : A2 11 0 = 0 := w110.trans (by rw [u 11 (by decide) (by decide) (by decide) (by decide) (by decide) (by decide), a11])
  obtain ⟨i0, i1, i2, i3, i5, i6, i7, i8, i9⟩ := inf F2 A2
  have i4 := inf4 F2 A2 (by rw [m1]; exact x1)
  have i10 := inf10 F2 A2 k6
  have ff : f_frameFunction F2 A2 0 = 0 := by rw [e_frameFunction, if_neg (by decide), k7, if_pos (by decide), if_pos (by decide), w40]
  have b13 : F2 13 = if 0 < ik (F 1) 3 + ik (F 1) 4 + ik (F 1) 5 then 2 else 1 := by
    rcases inn (F 1) with ⟨q, z⟩ | ⟨q, z⟩
    · rw [if_pos q, k13, z]
    · rw [if_neg q, k13, z]
  have eq := pq F2 A2 0 0 (by decide) (by decide) m11 (by decide) (by decide)
  rw [lp_L_law_148, if_pos (by decide), i0, r_of (eR_info _ _ _) i0, ifS, if_pos k3, i1, r_of (eR_info _ _ _) i1, ifS, if_pos k8, i2, r_of (eR_info _ _ _) i2, ifS, if_pos k12, i3, r_of (eR_info _ _ _) i3, ifS, if_pos m9, i4, r_of (eR_info _ _ _) i4, if_pos ⟨rfl, x1⟩, if_pos (by rw [k8, m1]), i5, r_of (eR_info _ _ _) i5, ifS, if_pos b13, i6, r_of (eR_info _ _ _) i6, ifS, if_pos m10, i7, r_of (eR_info _ _ _) i7, ifS, if_pos k7, i8, r_of (eR_info _ _ _) i8, ifS, if_pos k5, i9, r_of (eR_info _ _ _) i9, ifS, if_pos k6, i10, r_of (eR_info _ _ _) i10, ifS, if_pos w3, if_pos ff, eq, r_of (eR_pushQuery _ _ _) eq, ifS]
  dsimp only
  have n11 : ups F2 11 (0 + 1) 11 = 1 := by simp [ups]
  have n15 : ups A2 15 (ups (A2 15) 0 0) 15 0 = 0 := by simp [ups]
  have nj : ∀ j, j ≠ 15 → ups A2 15 (ups (A2 15) 0 0) j = A2 j := fun j q => ups_ne _ _ q
  have ni : ∀ i, i ≠ 11 → ups F2 11 (0 + 1) i = F2 i := fun i q => ups_ne _ _ q
  generalize ups F2 11 (0 + 1) = F3 at *
  generalize ups A2 15 (ups (A2 15) 0 0) = A3 at *
  obtain ⟨y1, y2, y3⟩ := obs F3 A3 0 (q1I F3 A3 n11 n15) (by decide) (by decide)
  have y4 := obsS F3 A3 0 (q1S F3 A3 n11 n15) (by decide)
  rw [if_neg (by decide)] at y4
  have eq2 := pq F3 A3 fn 1 fn0 fn7 n11 (by decide) (by decide)
  rw [lp_L_law_360, y1, r_of (eR_self _ _) y1, ifS, if_pos (by rw [nj 9 (by decide), w90]), y2, r_of (eR_inclusive _ _) y2, ifS, if_pos (by rw [nj 10 (by decide), w100]), y3, r_of (eR_lost _ _) y3, ifS, if_pos (by rw [nj 11 (by decide), w110']), y4, r_of (eR_sampledSelf _ _) y4, ifS, if_pos (by rw [nj 14 (by decide), w140]), eq2, r_of (eR_pushQuery _ _ _) eq2, ifS]
  dsimp only
  have v11 : ups F3 11 (1 + 1) 11 = 2 := by simp [ups]
  have v150 : ups A3 15 (ups (A3 15) 1 fn) 15 0 = 0 := by simp [ups, n15]
  have v151 : ups A3 15 (ups (A3 15) 1 fn) 15 1 = fn := by simp [ups]
  have vj : ∀ j, j ≠ 15 → ups A3 15 (ups (A3 15) 1 fn) j = A2 j := fun j q => (ups_ne _ _ q).trans (nj j q)
  have vi : ∀ i, i ≠ 11 → ups F3 11 (1 + 1) i = F2 i := fun i q => (ups_ne _ _ q).trans (ni i q)
  generalize ups F3 11 (1 + 1) = F4 at *
  generalize ups A3 15 (ups (A3 15) 1 fn) = A4 at *
  obtain ⟨z1, z2, z3⟩ := obs F4 A4 1 (q2I F4 A4 fn v11 ((vi 12 (by decide)).trans k12) v150 v151 (by rw [vj 7 (by decide), w7]) (by rw [vj 8 (by decide), w8])) (by decide) (by decide)
  have z4 : en_sampledSelf F4 A4 = some (if 0 < ik (F 1) 3 + ik (F 1) 4 + ik (F 1) 5 then ik (F 1) 3 + ik (F 1) 4 + ik (F 1) 5 else -1) := by
    by_cases c : 0 < ik (F 1) 3 + ik (F 1) 4 + ik (F 1) 5
    · rw [if_pos c] at b13 ⊢
      rcases ks with ⟨q, _⟩ | ⟨q, q12, q13⟩
      · rw [b13] at q; exact absurd q (by decide)
      · have z := obsS F4 A4 1 ((q2S F4 A4 fn v11 v150 v151).2 ((vi 13 (by decide)).trans q) (by rw [vj 12 (by decide), q12]) (by rw [vj 13 (by decide), q13])) (by decide)
        rw [z, if_neg (by decide), vj 14 (by decide), w141]
    · rw [if_neg c] at b13 ⊢
      have z := obsS F4 A4 (-1) ((q2S F4 A4 fn v11 v150 v151).1 ((vi 13 (by decide)).trans b13)) (by decide)
      rw [z, if_pos (by decide)]
  rw [lp_L_law_409, z1, r_of (eR_self _ _) z1, ifS, if_pos (by rw [vj 9 (by decide), w91]), z2, r_of (eR_inclusive _ _) z2, ifS, if_pos (by rw [vj 10 (by decide), w101]), z3, r_of (eR_lost _ _) z3, ifS, if_pos (by rw [vj 11 (by decide), w111]), z4, r_of (eR_sampledSelf _ _) z4, ifS, if_pos rfl]
  exact congrArg some nar1
theorem law_ok {l : Launch} {Z : State} {a0 : Array Value} (H : OK Z a0) (p1 p2 p3 p4 p5 p6 : Int32) : Wk l Z (MoL Z cdC "ContextProfilerL3" false) md_L_law 0 [.val (.int p1), .val (.int p2), .val (.int p3), .val (.int p4), .val (.int p5), .val (.int p6), .unset, .unset, .unset, .unset, .unset, .unset] [] (0, (fun _ => 0), []) 0 0 (fun v _ => v = some (.int 1)) :=
  run_law H 0 (fun _ => 0) p1 p2 p3 p4 p5 p6 (law5 p1 p2 p3 p4 p5 p6)
set_option maxRecDepth 65536 in
set_option maxHeartbeats 40000000 in
theorem comes_1 {Post : Tables → Env → Array Value → State → Outcome → State → Prop} (hpost : ∀ tb e args s v u, (limb_1_1.after args s (.returned v) u = true ∧ limb_1_2.after args s (.returned v) u = true ∧ True) → FrameEnd s (.returned v) u (Jvm.fieldLocs frame_1_writes args s ++ Jvm.arrayLocs frame_1_arrays args s ++ Jvm.staticLocs frame_1_statics s) room_1.cells room_1.slots → Post tb e args s (.returned v) u) :
    ArmFor flags0 classFile x code maxLocals ret World_1 tables_1 room_1 Calls_1 rest_1 Pre_1 Post := by
  intro l hfl _ _ p e ha hc hk s m args below hf hA hF happ hP
  obtain ⟨hcalls, hrest, hpre⟩ := hP
  obtain ⟨-, -, -, hnamed, -, -, -, hat⟩ := (Spec.applies_iff hf).mp happ
  obtain ⟨hg, hn⟩ := and_e (Cond.before_iff.mp (show (Jvm.Cond.and given_1 narrow_1).before args s = true from hpre))
  obtain ⟨h1, h2⟩ := and_e hg
  obtain ⟨w0, w1, w2, w3, w4, w5, rfl⟩ : ∃ w0 w1 w2 w3 w4 w5 : Value, args = #[w0, w1, w2, w3, w4, w5] := by
    have hs : args.size = 6 := by simpa [Cond.value, given_1] using h1
    obtain ⟨L⟩ := args
    match L, hs with
    | [w0, w1, w2, w3, w4, w5], _ => exact ⟨w0, w1, w2, w3, w4, w5, rfl⟩
  have hw : OK s #[w0, w1, w2, w3, w4, w5] := fun d (hd : d ∈ tables_1) => atoms_spec (ws := Jvm.Cond.code x code maxLocals ret :: tables_1) hat d (List.mem_cons_of_mem _ hd)
  obtain ⟨g0, r0⟩ := and_e h2
  obtain ⟨g1, r1⟩ := and_e r0
  obtain ⟨g2, r2⟩ := and_e r1
  obtain ⟨g3, r3⟩ := and_e r2
  obtain ⟨g4, r4⟩ := and_e r3
  have g5 := r4
  obtain ⟨i0, e0⟩ := is_v g0
  obtain rfl : w0 = (.int i0) := Option.some.inj e0
  obtain ⟨i1, e1⟩ := is_v g1
  obtain rfl : w1 = (.int i1) := Option.some.inj e1
  obtain ⟨i2, e2⟩ := is_v g2
  obtain rfl : w2 = (.int i2) := Option.some.inj e2
  obtain ⟨i3, e3⟩ := is_v g3
  obtain rfl : w3 = (.int i3) := Option.some.inj e3
  obtain ⟨i4, e4⟩ := is_v g4
  obtain rfl : w4 = (.int i4) := Option.some.inj e4
  obtain ⟨i5, e5⟩ := is_v g5
  obtain rfl : w5 = (.int i5) := Option.some.inj e5
  have rel0 : relL s cdC false (s.heap.size, 0) (0, (fun _ => 0), []) s.heap := ⟨fun q => (by cases q), fun i x q => (by simp at q), (by simp)⟩
  obtain ⟨n, o, h1, h2, h3, v, L, rfl, ⟨w', hv, hrel, hfrm, N, hsz, hnr⟩, hq⟩ := (law_ok hw i0 i1 i2 i3 i4 i5).met (M := MoL s cdC "ContextProfilerL3" false) (l := l) pn_ContextProfilerL3 rfl (en := (s.heap.size, 0)) rel0 [.int i0, .int i1, .int i2, .int i3, .int i4, .int i5] rfl rfl tables_1 p e ha hc hk s m _ below hf ((Spec.applies_iff_loose hf).mp happ).1 ⟨rfl, State.Warmed39.refl s, rfl⟩ trivial
  subst hv
  exact ⟨n, _, h1, h2, h3, hpost _ _ _ _ _ _ ⟨Cond.after_iff.mpr rfl, Cond.after_iff.mpr (eq_i res_at (Term.int_eval (1)) rfl), trivial⟩ ⟨hq.1, hq.2.1, (hq.2.2.sift fun y hy => Or.inr (N y hy)).mono (Nat.le_refl _) (Nat.le_refl _)⟩⟩
theorem main_1_1 : Claimed_1_1 := comes_1 fun _ _ _ _ _ _ h hF => ⟨h.1, hF⟩
theorem main_1_2 : Claimed_1_2 := comes_1 fun _ _ _ _ _ _ h hF => ⟨h.2.1, hF⟩
end Jvm.Pilot.@@N@@
namespace Jvm.Pilot.@@N@@
open Jvm Jvm.ClassFile Sem Op Lib Jvm.Free Jvm.Stand Jvm.Pilot.@@N@@.Jvm.D
/-! MADE BY PROGRAM (witnessworld.py) out of the Statement's table words and the real class files: 9 classes; the members and pool entries that the words name. The judged class is class 1, her method 1. -/
namespace start1
open Jvm.ClassFile
def u (s : String) : CpInfo := .utf8 (stringToUtf16 s)
/-- a pool by its gaps: so many unusable entries, then the entry; so many at the end -/
def gap : Nat → List CpInfo → List CpInfo
  | 0, r => r
  | n + 1, r => .unusable :: gap n r
def poolList (es : List (Nat × CpInfo)) (last : Nat) : List CpInfo := es.foldr (fun e r => gap e.1 (e.2 :: r)) (gap last [])
def pool (es : List (Nat × CpInfo)) (last : Nat) : Array CpInfo := ⟨poolList es last⟩
def fileOf (pool : Array CpInfo) (this : Nat) (attrs : Array Attribute := #[]) (ms : Array MethodInfo := #[]) (fl : Nat := 33) (sup : Nat := 0) (ifs : Array Nat := #[]) (fds : Array FieldInfo := #[]) : ClassFile where
  minorVersion := 0
  majorVersion := 65
  constantPool := pool
  accessFlags := fl
  thisClass := this
  superClass := sup
  interfaces := ifs
  fields := fds
  methods := ms
  attributes := attrs
def plain (name : String) (sup : Option ClassId) : Class where
  name := name
  kind := .ordinary
  loader := none
  accessFlags := 33
  super := sup
  interfaces := #[]
  cf := none
  fields := #[]
  methods := #[]
  instanceTypes := #[]
  staticTypes := #[]
  resolved := #[]
  callSites := []
  init := .initialized
  statics := none
  mirror := none

def pool0 : Array CpInfo := pool [(5, u "<init>"), (0, u "()V"), (1, .class_ 10), (1, u "java/lang/Object")] 113

def k0c0 : Code := { maxStack := 0, maxLocals := 1, code := object_method_1_code, exceptionTable := #[], attributes := #[] }
def k0m0 : Method := { name := "<init>", desc := "()V", sig := { parameters := [], returnType := none }, accessFlags := 1, code := some k0c0 }
/-- java/lang/Object -/
def k0 : Class := { plain "java/lang/Object" none with
  accessFlags := 33
  interfaces := #[]
  cf := some (fileOf pool0 8 #[] #[{ accessFlags := 1, nameIndex := 5, descriptorIndex := 6, attributes := #[] }] 33 0 #[] #[])
  fields := #[]
  methods := #[k0m0]
  instanceTypes := #[]
  staticTypes := #[]
  resolved := Array.replicate 124 none
  statics := none }

def pool1 : Array CpInfo := pool [(2, .class_ 4), (1, u "java/lang/Object"), (0, u "<init>"), (0, u "()V"), (0, .class_ 8), (0, u "ContextProfiler"), (0, .methodref 7 10), (0, .nameAndType 5 11), (0, u "(III)V"), (0, .methodref 7 13), (0, .nameAndType 14 15), (0, u "emit"), (0, u "(II)I"), (0, .methodref 7 17), (0, .nameAndType 18 19), (0, u "setEntry"), (0, u "(II)Z"), (0, .methodref 7 21), (0, .nameAndType 22 23), (0, u "run"), (0, u "(I)I"), (0, .methodref 7 25), (0, .nameAndType 26 23), (0, u "info"), (0, .methodref 7 28), (0, .nameAndType 29 23), (0, u "frameFunction"), (0, .methodref 7 31), (0, .nameAndType 32 33), (0, u "pushQuery"), (0, u "(I)Z"), (0, .methodref 7 35), (0, .nameAndType 36 37), (0, u "self"), (0, u "()I"), (0, .methodref 7 39), (0, .nameAndType 40 37), (0, u "inclusive"), (0, .methodref 7 42), (0, .nameAndType 43 37), (0, u "lost"), (0, .methodref 7 45), (0, .nameAndType 46 37), (0, u "sampledSelf"), (0, .class_ 48), (0, u "ContextProfilerL3"), (2, u "law"), (0, u "(IIIIII)Z")] 3

def k1m0 : Method := { name := "<init>", desc := "()V", sig := { parameters := [], returnType := none }, accessFlags := 1, code := none }
def k1c1 : Code := { maxStack := 5, maxLocals := 12, code := code, exceptionTable := #[], attributes := #[] }
def k1m1 : Method := { name := "law", desc := "(IIIIII)Z", sig := { parameters := [.int, .int, .int, .int, .int, .int], returnType := some .boolean }, accessFlags := 9, code := some k1c1 }
/-- ContextProfilerL3 -/
def k1 : Class := { plain "ContextProfilerL3" (some 0) with
  accessFlags := 49
  interfaces := #[]
  cf := some (fileOf pool1 47 #[] #[{ accessFlags := 1, nameIndex := 5, descriptorIndex := 6, attributes := #[] }, { accessFlags := 9, nameIndex := 51, descriptorIndex := 52, attributes := #[] }] 49 2 #[] #[])
  fields := #[]
  methods := #[k1m0, k1m1]
  instanceTypes := #[]
  staticTypes := #[]
  resolved := Array.replicate 56 none
  statics := none }

def pool2 : Array CpInfo := pool [(1, .methodref 2 3), (0, .class_ 4), (0, .nameAndType 5 6), (0, u "java/lang/Object"), (0, u "<init>"), (0, u "()V"), (0, .fieldref 8 9), (0, .class_ 10), (0, .nameAndType 11 12), (0, u "ContextProfiler"), (0, u "ops"), (0, u "[I"), (0, .fieldref 8 14), (0, .nameAndType 15 12), (0, u "args"), (0, .fieldref 8 17), (0, .nameAndType 18 12), (0, u "entries"), (0, .fieldref 8 20), (0, .nameAndType 21 12), (0, u "stack"), (0, .fieldref 8 23), (0, .nameAndType 24 12), (0, u "frameFunc"), (0, .fieldref 8 26), (0, .nameAndType 27 12), (0, u "frameRet"), (0, .fieldref 8 29), (0, .nameAndType 30 12), (0, u "frameNode"), (0, .fieldref 8 32), (0, .nameAndType 33 12), (0, u "iParent"), (0, .fieldref 8 35), (0, .nameAndType 36 12), (0, u "iFunc"), (0, .fieldref 8 38), (0, .nameAndType 39 12), (0, u "iSelf"), (0, .fieldref 8 41), (0, .nameAndType 42 12), (0, u "iIncl"), (0, .fieldref 8 44), (0, .nameAndType 45 12), (0, u "iLost"), (0, .fieldref 8 47), (0, .nameAndType 48 12), (0, u "sParent"), (0, .fieldref 8 50), (0, .nameAndType 51 12), (0, u "sFunc"), (0, .fieldref 8 53), (0, .nameAndType 54 12), (0, u "sSelf"), (0, .fieldref 8 56), (0, .nameAndType 57 12), (0, u "query"), (0, .methodref 8 59), (0, .nameAndType 60 61), (0, u "clamp"), (0, u "(III)I"), (0, .fieldref 8 63), (0, .nameAndType 64 65), (0, u "capacity"), (0, u "I"), (0, .fieldref 8 67), (0, .nameAndType 68 65), (0, u "period"), (0, .fieldref 8 70), (0, .nameAndType 71 65), (0, u "maxDepth"), (0, .methodref 8 73), (0, .nameAndType 74 6), (0, u "reset"), (0, .fieldref 8 76), (0, .nameAndType 77 65), (0, u "status"), (0, .fieldref 8 79), (0, .nameAndType 80 65), (0, u "codeSize"), (0, .fieldref 8 82), (0, .nameAndType 83 65), (0, u "pc"), (0, .fieldref 8 85), (0, .nameAndType 86 65), (0, u "sp"), (0, .fieldref 8 88), (0, .nameAndType 89 65), (0, u "depth"), (0, .fieldref 8 91), (0, .nameAndType 92 65), (0, u "executed"), (0, .fieldref 8 94), (0, .nameAndType 95 65), (0, u "overflow"), (0, .fieldref 8 97), (0, .nameAndType 98 65), (0, u "sampledOverflow"), (0, .fieldref 8 100), (0, .nameAndType 101 65), (0, u "qLen"), (0, .methodref 8 103), (0, .nameAndType 104 6), (0, u "clearTrees"), (0, .fieldref 8 106), (0, .nameAndType 107 65), (0, u "iCount"), (0, .fieldref 8 109), (0, .nameAndType 110 65), (0, u "sCount"), (0, .methodref 8 112), (0, .nameAndType 113 6), (0, u "start"), (0, .methodref 8 115), (0, .nameAndType 116 117), (0, u "stepOnce"), (0, u "()Z"), (0, .methodref 8 119), (0, .nameAndType 120 121), (0, u "faults"), (0, u "(II)Z"), (0, .methodref 8 123), (0, .nameAndType 124 6), (0, u "charge"), (0, .methodref 8 126), (0, .nameAndType 127 128), (0, u "apply"), (0, u "(II)V"), (0, .methodref 8 130), (0, .nameAndType 131 132), (0, u "callFaults"), (0, u "(I)Z"), (0, .methodref 8 134), (0, .nameAndType 135 136), (0, u "arith"), (0, u "(Z)V"), (3, u "(I)V"), (0, .methodref 8 142), (0, .nameAndType 143 140), (0, u "doCall"), (0, .methodref 8 145), (0, .nameAndType 146 6), (0, u "doRet"), (0, .methodref 8 148), (0, .nameAndType 149 150), (0, u "findInstrChild"), (0, u "(II)I"), (0, .methodref 8 152), (0, .nameAndType 153 150), (0, u "newInstrNode"), (3, u "()I"), (0, .methodref 8 159), (0, .nameAndType 160 140), (0, u "addInclusive"), (0, .methodref 8 162), (0, .nameAndType 163 6), (0, u "sample"), (0, .methodref 8 165), (0, .nameAndType 166 150), (0, u "findSampledChild"), (0, .methodref 8 168), (0, .nameAndType 169 150), (0, u "newSampledNode"), (0, .methodref 8 171), (0, .nameAndType 172 157), (0, u "queryInstrNode"), (0, .methodref 8 174), (0, .nameAndType 175 157), (0, u "querySampledNode"), (0, u "NOP"), (2, u "PUSH"), (1, u "ADD"), (1, u "SUB"), (1, u "DUP"), (1, u "DROP"), (1, u "JMP"), (1, u "JZ"), (1, u "CALL"), (1, u "RET"), (1, u "HALT"), (1, u "LOAD"), (0, u "RUNNING"), (0, u "DONE"), (0, u "FAULT"), (0, u "K_STATUS"), (0, u "K_EXECUTED"), (0, u "K_NODES"), (0, u "K_OVERFLOW"), (0, u "K_SAMPLES"), (0, u "K_SAMPLED_NODES"), (0, u "K_SAMPLED_OVERFLOW"), (0, u "K_DEPTH"), (0, u "K_PC"), (0, u "K_STACK_SIZE"), (0, u "K_TOP"), (0, u "K_CODE_SIZE"), (1, u "K_QUERY_LENGTH"), (1, u "(III)V"), (3, u "emit"), (0, u "setEntry"), (0, u "run"), (0, u "(I)I"), (2, u "pushQuery"), (0, u "self"), (0, u "inclusive"), (0, u "lost"), (0, u "sampledSelf"), (0, u "frameFunction"), (0, u "info")] 2

def k2c0 : Code := { maxStack := 5, maxLocals := 4, code := prog_1_method_1_code, exceptionTable := #[], attributes := #[] }
def k2m0 : Method := { name := "<init>", desc := "(III)V", sig := { parameters := [.int, .int, .int], returnType := none }, accessFlags := 1, code := some k2c0 }
def k2c1 : Code := { maxStack := 2, maxLocals := 4, code := prog_1_method_2_code, exceptionTable := #[], attributes := #[] }
def k2m1 : Method := { name := "clamp", desc := "(III)I", sig := { parameters := [.int, .int, .int], returnType := some .int }, accessFlags := 2, code := some k2c1 }
def k2c2 : Code := { maxStack := 3, maxLocals := 2, code := prog_1_method_3_code, exceptionTable := #[], attributes := #[] }
def k2m2 : Method := { name := "reset", desc := "()V", sig := { parameters := [], returnType := none }, accessFlags := 1, code := some k2c2 }
def k2c3 : Code := { maxStack := 3, maxLocals := 2, code := prog_1_method_4_code, exceptionTable := #[], attributes := #[] }
def k2m3 : Method := { name := "clearTrees", desc := "()V", sig := { parameters := [], returnType := none }, accessFlags := 2, code := some k2c3 }
def k2c4 : Code := { maxStack := 3, maxLocals := 4, code := prog_1_method_5_code, exceptionTable := #[], attributes := #[] }
def k2m4 : Method := { name := "emit", desc := "(II)I", sig := { parameters := [.int, .int], returnType := some .int }, accessFlags := 1, code := some k2c4 }
def k2c5 : Code := { maxStack := 3, maxLocals := 3, code := prog_1_method_6_code, exceptionTable := #[], attributes := #[] }
def k2m5 : Method := { name := "setEntry", desc := "(II)Z", sig := { parameters := [.int, .int], returnType := some .boolean }, accessFlags := 1, code := some k2c5 }
def k2c6 : Code := { maxStack := 2, maxLocals := 5, code := prog_1_method_7_code, exceptionTable := #[], attributes := #[] }
def k2m6 : Method := { name := "run", desc := "(I)I", sig := { parameters := [.int], returnType := some .int }, accessFlags := 1, code := some k2c6 }
def k2c7 : Code := { maxStack := 3, maxLocals := 1, code := prog_1_method_8_code, exceptionTable := #[], attributes := #[] }
def k2m7 : Method := { name := "start", desc := "()V", sig := { parameters := [], returnType := none }, accessFlags := 2, code := some k2c7 }
def k2c8 : Code := { maxStack := 3, maxLocals := 3, code := prog_1_method_9_code, exceptionTable := #[], attributes := #[] }
def k2m8 : Method := { name := "stepOnce", desc := "()Z", sig := { parameters := [], returnType := some .boolean }, accessFlags := 2, code := some k2c8 }
def k2c9 : Code := { maxStack := 2, maxLocals := 3, code := prog_1_method_10_code, exceptionTable := #[], attributes := #[] }
def k2m9 : Method := { name := "faults", desc := "(II)Z", sig := { parameters := [.int, .int], returnType := some .boolean }, accessFlags := 2, code := some k2c9 }
def k2c10 : Code := { maxStack := 2, maxLocals := 2, code := prog_1_method_11_code, exceptionTable := #[], attributes := #[] }
def k2m10 : Method := { name := "callFaults", desc := "(I)Z", sig := { parameters := [.int], returnType := some .boolean }, accessFlags := 2, code := some k2c10 }
def k2c11 : Code := { maxStack := 5, maxLocals := 3, code := prog_1_method_12_code, exceptionTable := #[], attributes := #[] }
def k2m11 : Method := { name := "apply", desc := "(II)V", sig := { parameters := [.int, .int], returnType := none }, accessFlags := 2, code := some k2c11 }
def k2c12 : Code := { maxStack := 4, maxLocals := 4, code := prog_1_method_13_code, exceptionTable := #[], attributes := #[] }
def k2m12 : Method := { name := "arith", desc := "(Z)V", sig := { parameters := [.boolean], returnType := none }, accessFlags := 2, code := some k2c12 }
def k2c13 : Code := { maxStack := 4, maxLocals := 4, code := prog_1_method_15_code, exceptionTable := #[], attributes := #[] }
def k2m13 : Method := { name := "doCall", desc := "(I)V", sig := { parameters := [.int], returnType := none }, accessFlags := 2, code := some k2c13 }
def k2c14 : Code := { maxStack := 3, maxLocals := 1, code := prog_1_method_16_code, exceptionTable := #[], attributes := #[] }
def k2m14 : Method := { name := "doRet", desc := "()V", sig := { parameters := [], returnType := none }, accessFlags := 2, code := some k2c14 }
def k2c15 : Code := { maxStack := 4, maxLocals := 2, code := prog_1_method_17_code, exceptionTable := #[], attributes := #[] }
def k2m15 : Method := { name := "charge", desc := "()V", sig := { parameters := [], returnType := none }, accessFlags := 2, code := some k2c15 }
def k2c16 : Code := { maxStack := 4, maxLocals := 4, code := prog_1_method_19_code, exceptionTable := #[], attributes := #[] }
def k2m16 : Method := { name := "addInclusive", desc := "(I)V", sig := { parameters := [.int], returnType := none }, accessFlags := 2, code := some k2c16 }
def k2c17 : Code := { maxStack := 2, maxLocals := 4, code := prog_1_method_20_code, exceptionTable := #[], attributes := #[] }
def k2m17 : Method := { name := "findInstrChild", desc := "(II)I", sig := { parameters := [.int, .int], returnType := some .int }, accessFlags := 2, code := some k2c17 }
def k2c18 : Code := { maxStack := 3, maxLocals := 4, code := prog_1_method_21_code, exceptionTable := #[], attributes := #[] }
def k2m18 : Method := { name := "newInstrNode", desc := "(II)I", sig := { parameters := [.int, .int], returnType := some .int }, accessFlags := 2, code := some k2c18 }
def k2c19 : Code := { maxStack := 4, maxLocals := 5, code := prog_1_method_22_code, exceptionTable := #[], attributes := #[] }
def k2m19 : Method := { name := "sample", desc := "()V", sig := { parameters := [], returnType := none }, accessFlags := 2, code := some k2c19 }
def k2c20 : Code := { maxStack := 2, maxLocals := 4, code := prog_1_method_23_code, exceptionTable := #[], attributes := #[] }
def k2m20 : Method := { name := "findSampledChild", desc := "(II)I", sig := { parameters := [.int, .int], returnType := some .int }, accessFlags := 2, code := some k2c20 }
def k2c21 : Code := { maxStack := 3, maxLocals := 4, code := prog_1_method_24_code, exceptionTable := #[], attributes := #[] }
def k2m21 : Method := { name := "newSampledNode", desc := "(II)I", sig := { parameters := [.int, .int], returnType := some .int }, accessFlags := 2, code := some k2c21 }
def k2c22 : Code := { maxStack := 3, maxLocals := 2, code := prog_1_method_26_code, exceptionTable := #[], attributes := #[] }
def k2m22 : Method := { name := "pushQuery", desc := "(I)Z", sig := { parameters := [.int], returnType := some .boolean }, accessFlags := 1, code := some k2c22 }
def k2c23 : Code := { maxStack := 3, maxLocals := 4, code := prog_1_method_27_code, exceptionTable := #[], attributes := #[] }
def k2m23 : Method := { name := "queryInstrNode", desc := "()I", sig := { parameters := [], returnType := some .int }, accessFlags := 2, code := some k2c23 }
def k2c24 : Code := { maxStack := 3, maxLocals := 4, code := prog_1_method_28_code, exceptionTable := #[], attributes := #[] }
def k2m24 : Method := { name := "querySampledNode", desc := "()I", sig := { parameters := [], returnType := some .int }, accessFlags := 2, code := some k2c24 }
def k2c25 : Code := { maxStack := 2, maxLocals := 2, code := prog_1_method_29_code, exceptionTable := #[], attributes := #[] }
def k2m25 : Method := { name := "self", desc := "()I", sig := { parameters := [], returnType := some .int }, accessFlags := 1, code := some k2c25 }
def k2c26 : Code := { maxStack := 2, maxLocals := 2, code := prog_1_method_30_code, exceptionTable := #[], attributes := #[] }
def k2m26 : Method := { name := "inclusive", desc := "()I", sig := { parameters := [], returnType := some .int }, accessFlags := 1, code := some k2c26 }
def k2c27 : Code := { maxStack := 2, maxLocals := 2, code := prog_1_method_31_code, exceptionTable := #[], attributes := #[] }
def k2m27 : Method := { name := "lost", desc := "()I", sig := { parameters := [], returnType := some .int }, accessFlags := 1, code := some k2c27 }
def k2c28 : Code := { maxStack := 2, maxLocals := 2, code := prog_1_method_32_code, exceptionTable := #[], attributes := #[] }
def k2m28 : Method := { name := "sampledSelf", desc := "()I", sig := { parameters := [], returnType := some .int }, accessFlags := 1, code := some k2c28 }
def k2c29 : Code := { maxStack := 2, maxLocals := 2, code := prog_1_method_33_code, exceptionTable := #[], attributes := #[] }
def k2m29 : Method := { name := "frameFunction", desc := "(I)I", sig := { parameters := [.int], returnType := some .int }, accessFlags := 1, code := some k2c29 }
def k2c30 : Code := { maxStack := 3, maxLocals := 2, code := prog_1_method_34_code, exceptionTable := #[], attributes := #[] }
def k2m30 : Method := { name := "info", desc := "(I)I", sig := { parameters := [.int], returnType := some .int }, accessFlags := 1, code := some k2c30 }
/-- ContextProfiler -/
def k2 : Class := { plain "ContextProfiler" (some 0) with
  accessFlags := 49
  interfaces := #[]
  cf := some (fileOf pool2 8 #[] #[{ accessFlags := 1, nameIndex := 5, descriptorIndex := 218, attributes := #[] }, { accessFlags := 2, nameIndex := 60, descriptorIndex := 61, attributes := #[] }, { accessFlags := 1, nameIndex := 74, descriptorIndex := 6, attributes := #[] }, { accessFlags := 2, nameIndex := 104, descriptorIndex := 6, attributes := #[] }, { accessFlags := 1, nameIndex := 222, descriptorIndex := 150, attributes := #[] }, { accessFlags := 1, nameIndex := 223, descriptorIndex := 121, attributes := #[] }, { accessFlags := 1, nameIndex := 224, descriptorIndex := 225, attributes := #[] }, { accessFlags := 2, nameIndex := 113, descriptorIndex := 6, attributes := #[] }, { accessFlags := 2, nameIndex := 116, descriptorIndex := 117, attributes := #[] }, { accessFlags := 2, nameIndex := 120, descriptorIndex := 121, attributes := #[] }, { accessFlags := 2, nameIndex := 131, descriptorIndex := 132, attributes := #[] }, { accessFlags := 2, nameIndex := 127, descriptorIndex := 128, attributes := #[] }, { accessFlags := 2, nameIndex := 135, descriptorIndex := 136, attributes := #[] }, { accessFlags := 2, nameIndex := 143, descriptorIndex := 140, attributes := #[] }, { accessFlags := 2, nameIndex := 146, descriptorIndex := 6, attributes := #[] }, { accessFlags := 2, nameIndex := 124, descriptorIndex := 6, attributes := #[] }, { accessFlags := 2, nameIndex := 160, descriptorIndex := 140, attributes := #[] }, { accessFlags := 2, nameIndex := 149, descriptorIndex := 150, attributes := #[] }, { accessFlags := 2, nameIndex := 153, descriptorIndex := 150, attributes := #[] }, { accessFlags := 2, nameIndex := 163, descriptorIndex := 6, attributes := #[] }, { accessFlags := 2, nameIndex := 166, descriptorIndex := 150, attributes := #[] }, { accessFlags := 2, nameIndex := 169, descriptorIndex := 150, attributes := #[] }, { accessFlags := 1, nameIndex := 228, descriptorIndex := 132, attributes := #[] }, { accessFlags := 2, nameIndex := 172, descriptorIndex := 157, attributes := #[] }, { accessFlags := 2, nameIndex := 175, descriptorIndex := 157, attributes := #[] }, { accessFlags := 1, nameIndex := 229, descriptorIndex := 157, attributes := #[] }, { accessFlags := 1, nameIndex := 230, descriptorIndex := 157, attributes := #[] }, { accessFlags := 1, nameIndex := 231, descriptorIndex := 157, attributes := #[] }, { accessFlags := 1, nameIndex := 232, descriptorIndex := 157, attributes := #[] }, { accessFlags := 1, nameIndex := 233, descriptorIndex := 225, attributes := #[] }, { accessFlags := 1, nameIndex := 234, descriptorIndex := 225, attributes := #[] }] 49 2 #[] #[{ accessFlags := 25, nameIndex := 176, descriptorIndex := 65, attributes := #[] }, { accessFlags := 25, nameIndex := 179, descriptorIndex := 65, attributes := #[] }, { accessFlags := 25, nameIndex := 181, descriptorIndex := 65, attributes := #[] }, { accessFlags := 25, nameIndex := 183, descriptorIndex := 65, attributes := #[] }, { accessFlags := 25, nameIndex := 185, descriptorIndex := 65, attributes := #[] }, { accessFlags := 25, nameIndex := 187, descriptorIndex := 65, attributes := #[] }, { accessFlags := 25, nameIndex := 189, descriptorIndex := 65, attributes := #[] }, { accessFlags := 25, nameIndex := 191, descriptorIndex := 65, attributes := #[] }, { accessFlags := 25, nameIndex := 193, descriptorIndex := 65, attributes := #[] }, { accessFlags := 25, nameIndex := 195, descriptorIndex := 65, attributes := #[] }, { accessFlags := 25, nameIndex := 197, descriptorIndex := 65, attributes := #[] }, { accessFlags := 25, nameIndex := 199, descriptorIndex := 65, attributes := #[] }, { accessFlags := 25, nameIndex := 200, descriptorIndex := 65, attributes := #[] }, { accessFlags := 25, nameIndex := 201, descriptorIndex := 65, attributes := #[] }, { accessFlags := 25, nameIndex := 202, descriptorIndex := 65, attributes := #[] }, { accessFlags := 25, nameIndex := 203, descriptorIndex := 65, attributes := #[] }, { accessFlags := 25, nameIndex := 204, descriptorIndex := 65, attributes := #[] }, { accessFlags := 25, nameIndex := 205, descriptorIndex := 65, attributes := #[] }, { accessFlags := 25, nameIndex := 206, descriptorIndex := 65, attributes := #[] }, { accessFlags := 25, nameIndex := 207, descriptorIndex := 65, attributes := #[] }, { accessFlags := 25, nameIndex := 208, descriptorIndex := 65, attributes := #[] }, { accessFlags := 25, nameIndex := 209, descriptorIndex := 65, attributes := #[] }, { accessFlags := 25, nameIndex := 210, descriptorIndex := 65, attributes := #[] }, { accessFlags := 25, nameIndex := 211, descriptorIndex := 65, attributes := #[] }, { accessFlags := 25, nameIndex := 212, descriptorIndex := 65, attributes := #[] }, { accessFlags := 25, nameIndex := 213, descriptorIndex := 65, attributes := #[] }, { accessFlags := 25, nameIndex := 214, descriptorIndex := 65, attributes := #[] }, { accessFlags := 25, nameIndex := 216, descriptorIndex := 65, attributes := #[] }, { accessFlags := 2, nameIndex := 64, descriptorIndex := 65, attributes := #[] }, { accessFlags := 2, nameIndex := 68, descriptorIndex := 65, attributes := #[] }, { accessFlags := 2, nameIndex := 71, descriptorIndex := 65, attributes := #[] }, { accessFlags := 2, nameIndex := 77, descriptorIndex := 65, attributes := #[] }, { accessFlags := 2, nameIndex := 80, descriptorIndex := 65, attributes := #[] }, { accessFlags := 2, nameIndex := 83, descriptorIndex := 65, attributes := #[] }, { accessFlags := 2, nameIndex := 86, descriptorIndex := 65, attributes := #[] }, { accessFlags := 2, nameIndex := 89, descriptorIndex := 65, attributes := #[] }, { accessFlags := 2, nameIndex := 92, descriptorIndex := 65, attributes := #[] }, { accessFlags := 2, nameIndex := 95, descriptorIndex := 65, attributes := #[] }, { accessFlags := 2, nameIndex := 98, descriptorIndex := 65, attributes := #[] }, { accessFlags := 2, nameIndex := 101, descriptorIndex := 65, attributes := #[] }, { accessFlags := 2, nameIndex := 11, descriptorIndex := 12, attributes := #[] }, { accessFlags := 2, nameIndex := 15, descriptorIndex := 12, attributes := #[] }, { accessFlags := 2, nameIndex := 18, descriptorIndex := 12, attributes := #[] }, { accessFlags := 2, nameIndex := 21, descriptorIndex := 12, attributes := #[] }, { accessFlags := 2, nameIndex := 24, descriptorIndex := 12, attributes := #[] }, { accessFlags := 2, nameIndex := 27, descriptorIndex := 12, attributes := #[] }, { accessFlags := 2, nameIndex := 30, descriptorIndex := 12, attributes := #[] }, { accessFlags := 2, nameIndex := 33, descriptorIndex := 12, attributes := #[] }, { accessFlags := 2, nameIndex := 36, descriptorIndex := 12, attributes := #[] }, { accessFlags := 2, nameIndex := 39, descriptorIndex := 12, attributes := #[] }, { accessFlags := 2, nameIndex := 42, descriptorIndex := 12, attributes := #[] }, { accessFlags := 2, nameIndex := 45, descriptorIndex := 12, attributes := #[] }, { accessFlags := 2, nameIndex := 107, descriptorIndex := 65, attributes := #[] }, { accessFlags := 2, nameIndex := 48, descriptorIndex := 12, attributes := #[] }, { accessFlags := 2, nameIndex := 51, descriptorIndex := 12, attributes := #[] }, { accessFlags := 2, nameIndex := 54, descriptorIndex := 12, attributes := #[] }, { accessFlags := 2, nameIndex := 110, descriptorIndex := 65, attributes := #[] }, { accessFlags := 2, nameIndex := 57, descriptorIndex := 12, attributes := #[] }])
  fields := #[{ name := "NOP", type := .int, accessFlags := 25, slot := 0, constantValue := 0 }, { name := "PUSH", type := .int, accessFlags := 25, slot := 1, constantValue := 0 }, { name := "ADD", type := .int, accessFlags := 25, slot := 2, constantValue := 0 }, { name := "SUB", type := .int, accessFlags := 25, slot := 3, constantValue := 0 }, { name := "DUP", type := .int, accessFlags := 25, slot := 4, constantValue := 0 }, { name := "DROP", type := .int, accessFlags := 25, slot := 5, constantValue := 0 }, { name := "JMP", type := .int, accessFlags := 25, slot := 6, constantValue := 0 }, { name := "JZ", type := .int, accessFlags := 25, slot := 7, constantValue := 0 }, { name := "CALL", type := .int, accessFlags := 25, slot := 8, constantValue := 0 }, { name := "RET", type := .int, accessFlags := 25, slot := 9, constantValue := 0 }, { name := "HALT", type := .int, accessFlags := 25, slot := 10, constantValue := 0 }, { name := "LOAD", type := .int, accessFlags := 25, slot := 11, constantValue := 0 }, { name := "RUNNING", type := .int, accessFlags := 25, slot := 12, constantValue := 0 }, { name := "DONE", type := .int, accessFlags := 25, slot := 13, constantValue := 0 }, { name := "FAULT", type := .int, accessFlags := 25, slot := 14, constantValue := 0 }, { name := "K_STATUS", type := .int, accessFlags := 25, slot := 15, constantValue := 0 }, { name := "K_EXECUTED", type := .int, accessFlags := 25, slot := 16, constantValue := 0 }, { name := "K_NODES", type := .int, accessFlags := 25, slot := 17, constantValue := 0 }, { name := "K_OVERFLOW", type := .int, accessFlags := 25, slot := 18, constantValue := 0 }, { name := "K_SAMPLES", type := .int, accessFlags := 25, slot := 19, constantValue := 0 }, { name := "K_SAMPLED_NODES", type := .int, accessFlags := 25, slot := 20, constantValue := 0 }, { name := "K_SAMPLED_OVERFLOW", type := .int, accessFlags := 25, slot := 21, constantValue := 0 }, { name := "K_DEPTH", type := .int, accessFlags := 25, slot := 22, constantValue := 0 }, { name := "K_PC", type := .int, accessFlags := 25, slot := 23, constantValue := 0 }, { name := "K_STACK_SIZE", type := .int, accessFlags := 25, slot := 24, constantValue := 0 }, { name := "K_TOP", type := .int, accessFlags := 25, slot := 25, constantValue := 0 }, { name := "K_CODE_SIZE", type := .int, accessFlags := 25, slot := 26, constantValue := 0 }, { name := "K_QUERY_LENGTH", type := .int, accessFlags := 25, slot := 27, constantValue := 0 }, { name := "capacity", type := .int, accessFlags := 2, slot := 0, constantValue := 0 }, { name := "period", type := .int, accessFlags := 2, slot := 1, constantValue := 0 }, { name := "maxDepth", type := .int, accessFlags := 2, slot := 2, constantValue := 0 }, { name := "status", type := .int, accessFlags := 2, slot := 3, constantValue := 0 }, { name := "codeSize", type := .int, accessFlags := 2, slot := 4, constantValue := 0 }, { name := "pc", type := .int, accessFlags := 2, slot := 5, constantValue := 0 }, { name := "sp", type := .int, accessFlags := 2, slot := 6, constantValue := 0 }, { name := "depth", type := .int, accessFlags := 2, slot := 7, constantValue := 0 }, { name := "executed", type := .int, accessFlags := 2, slot := 8, constantValue := 0 }, { name := "overflow", type := .int, accessFlags := 2, slot := 9, constantValue := 0 }, { name := "sampledOverflow", type := .int, accessFlags := 2, slot := 10, constantValue := 0 }, { name := "qLen", type := .int, accessFlags := 2, slot := 11, constantValue := 0 }, { name := "ops", type := (.array .int), accessFlags := 2, slot := 12, constantValue := 0 }, { name := "args", type := (.array .int), accessFlags := 2, slot := 13, constantValue := 0 }, { name := "entries", type := (.array .int), accessFlags := 2, slot := 14, constantValue := 0 }, { name := "stack", type := (.array .int), accessFlags := 2, slot := 15, constantValue := 0 }, { name := "frameFunc", type := (.array .int), accessFlags := 2, slot := 16, constantValue := 0 }, { name := "frameRet", type := (.array .int), accessFlags := 2, slot := 17, constantValue := 0 }, { name := "frameNode", type := (.array .int), accessFlags := 2, slot := 18, constantValue := 0 }, { name := "iParent", type := (.array .int), accessFlags := 2, slot := 19, constantValue := 0 }, { name := "iFunc", type := (.array .int), accessFlags := 2, slot := 20, constantValue := 0 }, { name := "iSelf", type := (.array .int), accessFlags := 2, slot := 21, constantValue := 0 }, { name := "iIncl", type := (.array .int), accessFlags := 2, slot := 22, constantValue := 0 }, { name := "iLost", type := (.array .int), accessFlags := 2, slot := 23, constantValue := 0 }, { name := "iCount", type := .int, accessFlags := 2, slot := 24, constantValue := 0 }, { name := "sParent", type := (.array .int), accessFlags := 2, slot := 25, constantValue := 0 }, { name := "sFunc", type := (.array .int), accessFlags := 2, slot := 26, constantValue := 0 }, { name := "sSelf", type := (.array .int), accessFlags := 2, slot := 27, constantValue := 0 }, { name := "sCount", type := .int, accessFlags := 2, slot := 28, constantValue := 0 }, { name := "query", type := (.array .int), accessFlags := 2, slot := 29, constantValue := 0 }]
  methods := #[k2m0, k2m1, k2m2, k2m3, k2m4, k2m5, k2m6, k2m7, k2m8, k2m9, k2m10, k2m11, k2m12, k2m13, k2m14, k2m15, k2m16, k2m17, k2m18, k2m19, k2m20, k2m21, k2m22, k2m23, k2m24, k2m25, k2m26, k2m27, k2m28, k2m29, k2m30]
  instanceTypes := #[.int, .int, .int, .int, .int, .int, .int, .int, .int, .int, .int, .int, (.array .int), (.array .int), (.array .int), (.array .int), (.array .int), (.array .int), (.array .int), (.array .int), (.array .int), (.array .int), (.array .int), (.array .int), .int, (.array .int), (.array .int), (.array .int), .int, (.array .int)]
  staticTypes := #[.int, .int, .int, .int, .int, .int, .int, .int, .int, .int, .int, .int, .int, .int, .int, .int, .int, .int, .int, .int, .int, .int, .int, .int, .int, .int, .int, .int]
  resolved := Array.replicate 237 none
  statics := none }

def pool3 : Array CpInfo := pool [(1, u "java/lang/Cloneable"), (0, .class_ 1), (0, u "java/lang/Object"), (0, .class_ 3)] 3

/-- java/lang/Cloneable -/
def k3 : Class := { plain "java/lang/Cloneable" (some 0) with
  accessFlags := 1537
  interfaces := #[]
  cf := some (fileOf pool3 2 #[] #[] 1537 4 #[] #[])
  fields := #[]
  methods := #[]
  instanceTypes := #[]
  staticTypes := #[]
  resolved := Array.replicate 8 none
  statics := none }

def pool4 : Array CpInfo := pool [(1, u "java/io/Serializable"), (0, .class_ 1), (0, u "java/lang/Object"), (0, .class_ 3)] 3

/-- java/io/Serializable -/
def k4 : Class := { plain "java/io/Serializable" (some 0) with
  accessFlags := 1537
  interfaces := #[]
  cf := some (fileOf pool4 2 #[] #[] 1537 4 #[] #[])
  fields := #[]
  methods := #[]
  instanceTypes := #[]
  staticTypes := #[]
  resolved := Array.replicate 8 none
  statics := none }

/-- the primitive byte -/
def k5 : Class := { plain "byte" none with kind := .primitive 'B', accessFlags := 0x411 }
/-- [B -/
def k6 : Class := { plain "[B" (some 0) with kind := .array 5 .byte, interfaces := #[3, 4], accessFlags := 1041 }

/-- the primitive int -/
def k7 : Class := { plain "int" none with kind := .primitive 'I', accessFlags := 0x411 }
/-- [I -/
def k8 : Class := { plain "[I" (some 0) with kind := .array 7 .int, interfaces := #[3, 4], accessFlags := 1041 }

def heap : Heap := #[]
def classes : Array Class := #[k0, k1, k2, k3, k4, k5, k6, k7, k8]
def interned : List (Array UInt16 × Addr) := []
def slotsUsed : Nat := 0
def theMethod : MethodId := ⟨1, 1⟩
def args0 : Array Value := #[.int 5, .int 5, .int 5, .int 1, .int 2, .int 3]
def aboutOver (below : List Frame) : State where
  vm := { classes := classes, interned := interned.toArray }
  heap := heap
  slotsUsed := slotsUsed
  threads := #[{ frames := .invoking theMethod args0 :: below }]
def below0 : List Frame := [.native { method := ⟨0, 0⟩, args := #[] }]
def about1 : State := aboutOver below0
def p0 : Program := .bare "" "" ""
def e0 : Env := launch0.env 0 0 0
theorem w_frames : about1.frames = Frame.invoking theMethod args0 :: below0 := rfl
set_option maxRecDepth 65536 in
theorem w_args : argsFit about1.vm theMethod args0 = true := by decide +kernel
set_option maxRecDepth 65536 in
theorem w_heap : heapFits about1 = true := by decide +kernel
set_option maxRecDepth 65536 in
theorem w_runnable : about1.curStatus? = some .runnable := by decide +kernel
set_option maxRecDepth 65536 in
theorem w_alone : about1.alone = true := by decide +kernel
set_option maxRecDepth 65536 in
theorem w_named : about1.methodNamed? x = some theMethod := by decide +kernel
set_option maxRecDepth 65536 in
theorem w_hears : about1.hears theMethod below0 = true := by decide +kernel
set_option maxRecDepth 65536 in
theorem w_ripe : about1.ripe theMethod args0 below0 = true := by decide +kernel
theorem w_running : about1.status = .running := rfl
set_option maxRecDepth 65536 in
theorem w_room : about1.hasRoom e0.platform room_1 = true :=
  launch0.hasRoom_least _ room_1 (by decide +kernel) (by decide +kernel) (by decide +kernel) (by decide +kernel) (by decide +kernel) (by decide +kernel)
theorem allAtoms_all (ts : List Jvm.Cond) (a : Array Jvm.Value) (st : Jvm.State) : (allAtoms ts).before a st = ts.all (fun c => c.before a st) := by
  induction ts with
  | nil => rfl
  | cons c t ih =>
    show (Jvm.Cond.and c (allAtoms t)).before a st = _
    rw [Jvm.Cond.before_and, ih, List.all_cons]
def words1 : List Jvm.Cond := Jvm.Cond.code x code maxLocals ret :: tables_1
/-- a 'code' word, met by the world's own term for the bytes: nothing is compared byte by byte -/
theorem code_word {y : MethodName} {bytes : ByteArray} {mx : Nat} {rt : Option FieldType} {a : Array Value} {s : State} {m : MethodId} {meth : Method} {c : Code} (h1 : s.methodNamed? y = some m) (h2 : s.vm.method? m = some meth) (h3 : meth.code = some c) (h4 : c.code = bytes)
    (h5 : (c.maxLocals == mx && c.exceptionTable.isEmpty && decide (c.maxStack ≤ mostOperands) && decide (meth.sig.returnType = rt) && !meth.locks && decide (parseMethodDescriptor y.desc = some meth.sig)) = true) : (Jvm.Cond.code y bytes mx rt).before a s = true := by
  simp only [Bool.and_eq_true, beq_iff_eq, Bool.not_eq_true', decide_eq_true_eq] at h5
  obtain ⟨⟨⟨⟨⟨g1, g2⟩, g3⟩, g4⟩, g5⟩, g6⟩ := h5
  simp [Cond.before, Cond.holds, Cond.value, h1, h2, h3, h4, g1, g2, g3, g4, g5, g6]
def isCode : Jvm.Cond → Bool
  | .code _ _ _ _ => true
  | _ => false
theorem all_split {L : List Jvm.Cond} {P : Jvm.Cond → Bool} (h1 : L.all (fun c => isCode c || P c) = true) (h2 : ∀ c ∈ L.filter isCode, P c = true) : L.all P = true := by
  refine List.all_eq_true.mpr fun c hc => ?_
  have h := List.all_eq_true.mp h1 c hc
  rcases Bool.eq_false_or_eq_true (isCode c) with hi | hi
  · exact h2 c (List.mem_filter.mpr ⟨hc, hi⟩)
  · simpa [hi] using h
set_option maxRecDepth 65536 in
theorem w_c0 : (Jvm.Cond.code x code maxLocals ret).before args0 about1 = true := code_word (m := ⟨1, 1⟩) (meth := k1m1) (c := k1c1) (by decide +kernel) rfl rfl rfl (by decide +kernel)
set_option maxRecDepth 65536 in
theorem w_c1 : (Jvm.Cond.code ({ cls := "ContextProfiler", name := "<init>", desc := "(III)V" } : Jvm.MethodName) prog_1_method_1_code (4 : Nat) (Option.none : Option Jvm.ClassFile.FieldType)).before args0 about1 = true := code_word (m := ⟨2, 0⟩) (meth := k2m0) (c := k2c0) (by decide +kernel) rfl rfl rfl (by decide +kernel)
set_option maxRecDepth 65536 in
theorem w_c2 : (Jvm.Cond.code ({ cls := "java/lang/Object", name := "<init>", desc := "()V" } : Jvm.MethodName) object_method_1_code (1 : Nat) (Option.none : Option Jvm.ClassFile.FieldType)).before args0 about1 = true := code_word (m := ⟨0, 0⟩) (meth := k0m0) (c := k0c0) (by decide +kernel) rfl rfl rfl (by decide +kernel)
set_option maxRecDepth 65536 in
theorem w_c3 : (Jvm.Cond.code ({ cls := "ContextProfiler", name := "clamp", desc := "(III)I" } : Jvm.MethodName) prog_1_method_2_code (4 : Nat) (Option.some Jvm.ClassFile.FieldType.int)).before args0 about1 = true := code_word (m := ⟨2, 1⟩) (meth := k2m1) (c := k2c1) (by decide +kernel) rfl rfl rfl (by decide +kernel)
set_option maxRecDepth 65536 in
theorem w_c4 : (Jvm.Cond.code ({ cls := "ContextProfiler", name := "reset", desc := "()V" } : Jvm.MethodName) prog_1_method_3_code (2 : Nat) (Option.none : Option Jvm.ClassFile.FieldType)).before args0 about1 = true := code_word (m := ⟨2, 2⟩) (meth := k2m2) (c := k2c2) (by decide +kernel) rfl rfl rfl (by decide +kernel)
set_option maxRecDepth 65536 in
theorem w_c5 : (Jvm.Cond.code ({ cls := "ContextProfiler", name := "clearTrees", desc := "()V" } : Jvm.MethodName) prog_1_method_4_code (2 : Nat) (Option.none : Option Jvm.ClassFile.FieldType)).before args0 about1 = true := code_word (m := ⟨2, 3⟩) (meth := k2m3) (c := k2c3) (by decide +kernel) rfl rfl rfl (by decide +kernel)
set_option maxRecDepth 65536 in
theorem w_c6 : (Jvm.Cond.code ({ cls := "ContextProfiler", name := "emit", desc := "(II)I" } : Jvm.MethodName) prog_1_method_5_code (4 : Nat) (Option.some Jvm.ClassFile.FieldType.int)).before args0 about1 = true := code_word (m := ⟨2, 4⟩) (meth := k2m4) (c := k2c4) (by decide +kernel) rfl rfl rfl (by decide +kernel)
set_option maxRecDepth 65536 in
theorem w_c7 : (Jvm.Cond.code ({ cls := "ContextProfiler", name := "setEntry", desc := "(II)Z" } : Jvm.MethodName) prog_1_method_6_code (3 : Nat) (Option.some Jvm.ClassFile.FieldType.boolean)).before args0 about1 = true := code_word (m := ⟨2, 5⟩) (meth := k2m5) (c := k2c5) (by decide +kernel) rfl rfl rfl (by decide +kernel)
set_option maxRecDepth 65536 in
theorem w_c8 : (Jvm.Cond.code ({ cls := "ContextProfiler", name := "run", desc := "(I)I" } : Jvm.MethodName) prog_1_method_7_code (5 : Nat) (Option.some Jvm.ClassFile.FieldType.int)).before args0 about1 = true := code_word (m := ⟨2, 6⟩) (meth := k2m6) (c := k2c6) (by decide +kernel) rfl rfl rfl (by decide +kernel)
set_option maxRecDepth 65536 in
theorem w_c9 : (Jvm.Cond.code ({ cls := "ContextProfiler", name := "start", desc := "()V" } : Jvm.MethodName) prog_1_method_8_code (1 : Nat) (Option.none : Option Jvm.ClassFile.FieldType)).before args0 about1 = true := code_word (m := ⟨2, 7⟩) (meth := k2m7) (c := k2c7) (by decide +kernel) rfl rfl rfl (by decide +kernel)
set_option maxRecDepth 65536 in
theorem w_c10 : (Jvm.Cond.code ({ cls := "ContextProfiler", name := "stepOnce", desc := "()Z" } : Jvm.MethodName) prog_1_method_9_code (3 : Nat) (Option.some Jvm.ClassFile.FieldType.boolean)).before args0 about1 = true := code_word (m := ⟨2, 8⟩) (meth := k2m8) (c := k2c8) (by decide +kernel) rfl rfl rfl (by decide +kernel)
set_option maxRecDepth 65536 in
theorem w_c11 : (Jvm.Cond.code ({ cls := "ContextProfiler", name := "faults", desc := "(II)Z" } : Jvm.MethodName) prog_1_method_10_code (3 : Nat) (Option.some Jvm.ClassFile.FieldType.boolean)).before args0 about1 = true := code_word (m := ⟨2, 9⟩) (meth := k2m9) (c := k2c9) (by decide +kernel) rfl rfl rfl (by decide +kernel)
set_option maxRecDepth 65536 in
theorem w_c12 : (Jvm.Cond.code ({ cls := "ContextProfiler", name := "charge", desc := "()V" } : Jvm.MethodName) prog_1_method_17_code (2 : Nat) (Option.none : Option Jvm.ClassFile.FieldType)).before args0 about1 = true := code_word (m := ⟨2, 15⟩) (meth := k2m15) (c := k2c15) (by decide +kernel) rfl rfl rfl (by decide +kernel)
set_option maxRecDepth 65536 in
theorem w_c13 : (Jvm.Cond.code ({ cls := "ContextProfiler", name := "addInclusive", desc := "(I)V" } : Jvm.MethodName) prog_1_method_19_code (4 : Nat) (Option.none : Option Jvm.ClassFile.FieldType)).before args0 about1 = true := code_word (m := ⟨2, 16⟩) (meth := k2m16) (c := k2c16) (by decide +kernel) rfl rfl rfl (by decide +kernel)
set_option maxRecDepth 65536 in
theorem w_c14 : (Jvm.Cond.code ({ cls := "ContextProfiler", name := "apply", desc := "(II)V" } : Jvm.MethodName) prog_1_method_12_code (3 : Nat) (Option.none : Option Jvm.ClassFile.FieldType)).before args0 about1 = true := code_word (m := ⟨2, 11⟩) (meth := k2m11) (c := k2c11) (by decide +kernel) rfl rfl rfl (by decide +kernel)
set_option maxRecDepth 65536 in
theorem w_c15 : (Jvm.Cond.code ({ cls := "ContextProfiler", name := "callFaults", desc := "(I)Z" } : Jvm.MethodName) prog_1_method_11_code (2 : Nat) (Option.some Jvm.ClassFile.FieldType.boolean)).before args0 about1 = true := code_word (m := ⟨2, 10⟩) (meth := k2m10) (c := k2c10) (by decide +kernel) rfl rfl rfl (by decide +kernel)
set_option maxRecDepth 65536 in
theorem w_c16 : (Jvm.Cond.code ({ cls := "ContextProfiler", name := "doCall", desc := "(I)V" } : Jvm.MethodName) prog_1_method_15_code (4 : Nat) (Option.none : Option Jvm.ClassFile.FieldType)).before args0 about1 = true := code_word (m := ⟨2, 13⟩) (meth := k2m13) (c := k2c13) (by decide +kernel) rfl rfl rfl (by decide +kernel)
set_option maxRecDepth 65536 in
theorem w_c17 : (Jvm.Cond.code ({ cls := "ContextProfiler", name := "findInstrChild", desc := "(II)I" } : Jvm.MethodName) prog_1_method_20_code (4 : Nat) (Option.some Jvm.ClassFile.FieldType.int)).before args0 about1 = true := code_word (m := ⟨2, 17⟩) (meth := k2m17) (c := k2c17) (by decide +kernel) rfl rfl rfl (by decide +kernel)
set_option maxRecDepth 65536 in
theorem w_c18 : (Jvm.Cond.code ({ cls := "ContextProfiler", name := "newInstrNode", desc := "(II)I" } : Jvm.MethodName) prog_1_method_21_code (4 : Nat) (Option.some Jvm.ClassFile.FieldType.int)).before args0 about1 = true := code_word (m := ⟨2, 18⟩) (meth := k2m18) (c := k2c18) (by decide +kernel) rfl rfl rfl (by decide +kernel)
set_option maxRecDepth 65536 in
theorem w_c19 : (Jvm.Cond.code ({ cls := "ContextProfiler", name := "sample", desc := "()V" } : Jvm.MethodName) prog_1_method_22_code (5 : Nat) (Option.none : Option Jvm.ClassFile.FieldType)).before args0 about1 = true := code_word (m := ⟨2, 19⟩) (meth := k2m19) (c := k2c19) (by decide +kernel) rfl rfl rfl (by decide +kernel)
set_option maxRecDepth 65536 in
theorem w_c20 : (Jvm.Cond.code ({ cls := "ContextProfiler", name := "findSampledChild", desc := "(II)I" } : Jvm.MethodName) prog_1_method_23_code (4 : Nat) (Option.some Jvm.ClassFile.FieldType.int)).before args0 about1 = true := code_word (m := ⟨2, 20⟩) (meth := k2m20) (c := k2c20) (by decide +kernel) rfl rfl rfl (by decide +kernel)
set_option maxRecDepth 65536 in
theorem w_c21 : (Jvm.Cond.code ({ cls := "ContextProfiler", name := "newSampledNode", desc := "(II)I" } : Jvm.MethodName) prog_1_method_24_code (4 : Nat) (Option.some Jvm.ClassFile.FieldType.int)).before args0 about1 = true := code_word (m := ⟨2, 21⟩) (meth := k2m21) (c := k2c21) (by decide +kernel) rfl rfl rfl (by decide +kernel)
set_option maxRecDepth 65536 in
theorem w_c22 : (Jvm.Cond.code ({ cls := "ContextProfiler", name := "arith", desc := "(Z)V" } : Jvm.MethodName) prog_1_method_13_code (4 : Nat) (Option.none : Option Jvm.ClassFile.FieldType)).before args0 about1 = true := code_word (m := ⟨2, 12⟩) (meth := k2m12) (c := k2c12) (by decide +kernel) rfl rfl rfl (by decide +kernel)
set_option maxRecDepth 65536 in
theorem w_c23 : (Jvm.Cond.code ({ cls := "ContextProfiler", name := "doRet", desc := "()V" } : Jvm.MethodName) prog_1_method_16_code (1 : Nat) (Option.none : Option Jvm.ClassFile.FieldType)).before args0 about1 = true := code_word (m := ⟨2, 14⟩) (meth := k2m14) (c := k2c14) (by decide +kernel) rfl rfl rfl (by decide +kernel)
set_option maxRecDepth 65536 in
theorem w_c24 : (Jvm.Cond.code ({ cls := "ContextProfiler", name := "info", desc := "(I)I" } : Jvm.MethodName) prog_1_method_34_code (2 : Nat) (Option.some Jvm.ClassFile.FieldType.int)).before args0 about1 = true := code_word (m := ⟨2, 30⟩) (meth := k2m30) (c := k2c30) (by decide +kernel) rfl rfl rfl (by decide +kernel)
set_option maxRecDepth 65536 in
theorem w_c25 : (Jvm.Cond.code ({ cls := "ContextProfiler", name := "frameFunction", desc := "(I)I" } : Jvm.MethodName) prog_1_method_33_code (2 : Nat) (Option.some Jvm.ClassFile.FieldType.int)).before args0 about1 = true := code_word (m := ⟨2, 29⟩) (meth := k2m29) (c := k2c29) (by decide +kernel) rfl rfl rfl (by decide +kernel)
set_option maxRecDepth 65536 in
theorem w_c26 : (Jvm.Cond.code ({ cls := "ContextProfiler", name := "pushQuery", desc := "(I)Z" } : Jvm.MethodName) prog_1_method_26_code (2 : Nat) (Option.some Jvm.ClassFile.FieldType.boolean)).before args0 about1 = true := code_word (m := ⟨2, 22⟩) (meth := k2m22) (c := k2c22) (by decide +kernel) rfl rfl rfl (by decide +kernel)
set_option maxRecDepth 65536 in
theorem w_c27 : (Jvm.Cond.code ({ cls := "ContextProfiler", name := "self", desc := "()I" } : Jvm.MethodName) prog_1_method_29_code (2 : Nat) (Option.some Jvm.ClassFile.FieldType.int)).before args0 about1 = true := code_word (m := ⟨2, 25⟩) (meth := k2m25) (c := k2c25) (by decide +kernel) rfl rfl rfl (by decide +kernel)
set_option maxRecDepth 65536 in
theorem w_c28 : (Jvm.Cond.code ({ cls := "ContextProfiler", name := "queryInstrNode", desc := "()I" } : Jvm.MethodName) prog_1_method_27_code (4 : Nat) (Option.some Jvm.ClassFile.FieldType.int)).before args0 about1 = true := code_word (m := ⟨2, 23⟩) (meth := k2m23) (c := k2c23) (by decide +kernel) rfl rfl rfl (by decide +kernel)
set_option maxRecDepth 65536 in
theorem w_c29 : (Jvm.Cond.code ({ cls := "ContextProfiler", name := "inclusive", desc := "()I" } : Jvm.MethodName) prog_1_method_30_code (2 : Nat) (Option.some Jvm.ClassFile.FieldType.int)).before args0 about1 = true := code_word (m := ⟨2, 26⟩) (meth := k2m26) (c := k2c26) (by decide +kernel) rfl rfl rfl (by decide +kernel)
set_option maxRecDepth 65536 in
theorem w_c30 : (Jvm.Cond.code ({ cls := "ContextProfiler", name := "lost", desc := "()I" } : Jvm.MethodName) prog_1_method_31_code (2 : Nat) (Option.some Jvm.ClassFile.FieldType.int)).before args0 about1 = true := code_word (m := ⟨2, 27⟩) (meth := k2m27) (c := k2c27) (by decide +kernel) rfl rfl rfl (by decide +kernel)
set_option maxRecDepth 65536 in
theorem w_c31 : (Jvm.Cond.code ({ cls := "ContextProfiler", name := "sampledSelf", desc := "()I" } : Jvm.MethodName) prog_1_method_32_code (2 : Nat) (Option.some Jvm.ClassFile.FieldType.int)).before args0 about1 = true := code_word (m := ⟨2, 28⟩) (meth := k2m28) (c := k2c28) (by decide +kernel) rfl rfl rfl (by decide +kernel)
set_option maxRecDepth 65536 in
theorem w_c32 : (Jvm.Cond.code ({ cls := "ContextProfiler", name := "querySampledNode", desc := "()I" } : Jvm.MethodName) prog_1_method_28_code (4 : Nat) (Option.some Jvm.ClassFile.FieldType.int)).before args0 about1 = true := code_word (m := ⟨2, 24⟩) (meth := k2m24) (c := k2c24) (by decide +kernel) rfl rfl rfl (by decide +kernel)
def codes1 : List Jvm.Cond := [Jvm.Cond.code x code maxLocals ret, Jvm.Cond.code ({ cls := "ContextProfiler", name := "<init>", desc := "(III)V" } : Jvm.MethodName) prog_1_method_1_code (4 : Nat) (Option.none : Option Jvm.ClassFile.FieldType), Jvm.Cond.code ({ cls := "java/lang/Object", name := "<init>", desc := "()V" } : Jvm.MethodName) object_method_1_code (1 : Nat) (Option.none : Option Jvm.ClassFile.FieldType), Jvm.Cond.code ({ cls := "ContextProfiler", name := "clamp", desc := "(III)I" } : Jvm.MethodName) prog_1_method_2_code (4 : Nat) (Option.some Jvm.ClassFile.FieldType.int), Jvm.Cond.code ({ cls := "ContextProfiler", name := "reset", desc := "()V" } : Jvm.MethodName) prog_1_method_3_code (2 : Nat) (Option.none : Option Jvm.ClassFile.FieldType), Jvm.Cond.code ({ cls := "ContextProfiler", name := "clearTrees", desc := "()V" } : Jvm.MethodName) prog_1_method_4_code (2 : Nat) (Option.none : Option Jvm.ClassFile.FieldType), Jvm.Cond.code ({ cls := "ContextProfiler", name := "emit", desc := "(II)I" } : Jvm.MethodName) prog_1_method_5_code (4 : Nat) (Option.some Jvm.ClassFile.FieldType.int), Jvm.Cond.code ({ cls := "ContextProfiler", name := "setEntry", desc := "(II)Z" } : Jvm.MethodName) prog_1_method_6_code (3 : Nat) (Option.some Jvm.ClassFile.FieldType.boolean), Jvm.Cond.code ({ cls := "ContextProfiler", name := "run", desc := "(I)I" } : Jvm.MethodName) prog_1_method_7_code (5 : Nat) (Option.some Jvm.ClassFile.FieldType.int), Jvm.Cond.code ({ cls := "ContextProfiler", name := "start", desc := "()V" } : Jvm.MethodName) prog_1_method_8_code (1 : Nat) (Option.none : Option Jvm.ClassFile.FieldType), Jvm.Cond.code ({ cls := "ContextProfiler", name := "stepOnce", desc := "()Z" } : Jvm.MethodName) prog_1_method_9_code (3 : Nat) (Option.some Jvm.ClassFile.FieldType.boolean), Jvm.Cond.code ({ cls := "ContextProfiler", name := "faults", desc := "(II)Z" } : Jvm.MethodName) prog_1_method_10_code (3 : Nat) (Option.some Jvm.ClassFile.FieldType.boolean), Jvm.Cond.code ({ cls := "ContextProfiler", name := "charge", desc := "()V" } : Jvm.MethodName) prog_1_method_17_code (2 : Nat) (Option.none : Option Jvm.ClassFile.FieldType), Jvm.Cond.code ({ cls := "ContextProfiler", name := "addInclusive", desc := "(I)V" } : Jvm.MethodName) prog_1_method_19_code (4 : Nat) (Option.none : Option Jvm.ClassFile.FieldType), Jvm.Cond.code ({ cls := "ContextProfiler", name := "apply", desc := "(II)V" } : Jvm.MethodName) prog_1_method_12_code (3 : Nat) (Option.none : Option Jvm.ClassFile.FieldType), Jvm.Cond.code ({ cls := "ContextProfiler", name := "callFaults", desc := "(I)Z" } : Jvm.MethodName) prog_1_method_11_code (2 : Nat) (Option.some Jvm.ClassFile.FieldType.boolean), Jvm.Cond.code ({ cls := "ContextProfiler", name := "doCall", desc := "(I)V" } : Jvm.MethodName) prog_1_method_15_code (4 : Nat) (Option.none : Option Jvm.ClassFile.FieldType), Jvm.Cond.code ({ cls := "ContextProfiler", name := "findInstrChild", desc := "(II)I" } : Jvm.MethodName) prog_1_method_20_code (4 : Nat) (Option.some Jvm.ClassFile.FieldType.int), Jvm.Cond.code ({ cls := "ContextProfiler", name := "newInstrNode", desc := "(II)I" } : Jvm.MethodName) prog_1_method_21_code (4 : Nat) (Option.some Jvm.ClassFile.FieldType.int), Jvm.Cond.code ({ cls := "ContextProfiler", name := "sample", desc := "()V" } : Jvm.MethodName) prog_1_method_22_code (5 : Nat) (Option.none : Option Jvm.ClassFile.FieldType), Jvm.Cond.code ({ cls := "ContextProfiler", name := "findSampledChild", desc := "(II)I" } : Jvm.MethodName) prog_1_method_23_code (4 : Nat) (Option.some Jvm.ClassFile.FieldType.int), Jvm.Cond.code ({ cls := "ContextProfiler", name := "newSampledNode", desc := "(II)I" } : Jvm.MethodName) prog_1_method_24_code (4 : Nat) (Option.some Jvm.ClassFile.FieldType.int), Jvm.Cond.code ({ cls := "ContextProfiler", name := "arith", desc := "(Z)V" } : Jvm.MethodName) prog_1_method_13_code (4 : Nat) (Option.none : Option Jvm.ClassFile.FieldType), Jvm.Cond.code ({ cls := "ContextProfiler", name := "doRet", desc := "()V" } : Jvm.MethodName) prog_1_method_16_code (1 : Nat) (Option.none : Option Jvm.ClassFile.FieldType), Jvm.Cond.code ({ cls := "ContextProfiler", name := "info", desc := "(I)I" } : Jvm.MethodName) prog_1_method_34_code (2 : Nat) (Option.some Jvm.ClassFile.FieldType.int), Jvm.Cond.code ({ cls := "ContextProfiler", name := "frameFunction", desc := "(I)I" } : Jvm.MethodName) prog_1_method_33_code (2 : Nat) (Option.some Jvm.ClassFile.FieldType.int), Jvm.Cond.code ({ cls := "ContextProfiler", name := "pushQuery", desc := "(I)Z" } : Jvm.MethodName) prog_1_method_26_code (2 : Nat) (Option.some Jvm.ClassFile.FieldType.boolean), Jvm.Cond.code ({ cls := "ContextProfiler", name := "self", desc := "()I" } : Jvm.MethodName) prog_1_method_29_code (2 : Nat) (Option.some Jvm.ClassFile.FieldType.int), Jvm.Cond.code ({ cls := "ContextProfiler", name := "queryInstrNode", desc := "()I" } : Jvm.MethodName) prog_1_method_27_code (4 : Nat) (Option.some Jvm.ClassFile.FieldType.int), Jvm.Cond.code ({ cls := "ContextProfiler", name := "inclusive", desc := "()I" } : Jvm.MethodName) prog_1_method_30_code (2 : Nat) (Option.some Jvm.ClassFile.FieldType.int), Jvm.Cond.code ({ cls := "ContextProfiler", name := "lost", desc := "()I" } : Jvm.MethodName) prog_1_method_31_code (2 : Nat) (Option.some Jvm.ClassFile.FieldType.int), Jvm.Cond.code ({ cls := "ContextProfiler", name := "sampledSelf", desc := "()I" } : Jvm.MethodName) prog_1_method_32_code (2 : Nat) (Option.some Jvm.ClassFile.FieldType.int), Jvm.Cond.code ({ cls := "ContextProfiler", name := "querySampledNode", desc := "()I" } : Jvm.MethodName) prog_1_method_28_code (4 : Nat) (Option.some Jvm.ClassFile.FieldType.int)]
set_option maxRecDepth 65536 in
theorem codes_eq : words1.filter isCode = codes1 := rfl
theorem w_codes : ∀ c ∈ words1.filter isCode, c.before args0 about1 = true := by
  rw [codes_eq]
  intro c hc
  simp only [codes1, List.mem_cons, List.not_mem_nil, or_false] at hc
  rcases hc with rfl | rfl | rfl | rfl | rfl | rfl | rfl | rfl | rfl | rfl | rfl | rfl | rfl | rfl | rfl | rfl | rfl | rfl | rfl | rfl | rfl | rfl | rfl | rfl | rfl | rfl | rfl | rfl | rfl | rfl | rfl | rfl | rfl
  · exact w_c0
  · exact w_c1
  · exact w_c2
  · exact w_c3
  · exact w_c4
  · exact w_c5
  · exact w_c6
  · exact w_c7
  · exact w_c8
  · exact w_c9
  · exact w_c10
  · exact w_c11
  · exact w_c12
  · exact w_c13
  · exact w_c14
  · exact w_c15
  · exact w_c16
  · exact w_c17
  · exact w_c18
  · exact w_c19
  · exact w_c20
  · exact w_c21
  · exact w_c22
  · exact w_c23
  · exact w_c24
  · exact w_c25
  · exact w_c26
  · exact w_c27
  · exact w_c28
  · exact w_c29
  · exact w_c30
  · exact w_c31
  · exact w_c32
set_option maxRecDepth 65536 in
theorem w_t1 : (words1.take 24).all (fun c => isCode c || c.before args0 about1) = true := by decide +kernel
set_option maxRecDepth 65536 in
theorem w_t2 : ((words1.drop 24).take 24).all (fun c => isCode c || c.before args0 about1) = true := by decide +kernel
set_option maxRecDepth 65536 in
theorem w_t3 : (((words1.drop 24).drop 24).take 24).all (fun c => isCode c || c.before args0 about1) = true := by decide +kernel
set_option maxRecDepth 65536 in
theorem w_t4 : ((((words1.drop 24).drop 24).drop 24).take 24).all (fun c => isCode c || c.before args0 about1) = true := by decide +kernel
set_option maxRecDepth 65536 in
theorem w_t5 : (((((words1.drop 24).drop 24).drop 24).drop 24).take 24).all (fun c => isCode c || c.before args0 about1) = true := by decide +kernel
set_option maxRecDepth 65536 in
theorem w_t6 : ((((((words1.drop 24).drop 24).drop 24).drop 24).drop 24).take 24).all (fun c => isCode c || c.before args0 about1) = true := by decide +kernel
set_option maxRecDepth 65536 in
theorem w_t7 : (((((((words1.drop 24).drop 24).drop 24).drop 24).drop 24).drop 24).take 24).all (fun c => isCode c || c.before args0 about1) = true := by decide +kernel
set_option maxRecDepth 65536 in
theorem w_t8 : ((((((((words1.drop 24).drop 24).drop 24).drop 24).drop 24).drop 24).drop 24).take 24).all (fun c => isCode c || c.before args0 about1) = true := by decide +kernel
set_option maxRecDepth 65536 in
theorem w_t9 : ((((((((words1.drop 24).drop 24).drop 24).drop 24).drop 24).drop 24).drop 24).drop 24).all (fun c => isCode c || c.before args0 about1) = true := by decide +kernel
theorem w_tables : (allAtoms (Jvm.Cond.code x code maxLocals ret :: tables_1)).before args0 about1 = true := by
  rw [allAtoms_all]
  show words1.all (fun c => c.before args0 about1) = true
  refine all_split ?_ w_codes
  rw [← List.take_append_drop 24 words1, List.all_append, w_t1, ← List.take_append_drop 24 (words1.drop 24), List.all_append, w_t2, ← List.take_append_drop 24 ((words1.drop 24).drop 24), List.all_append, w_t3, ← List.take_append_drop 24 (((words1.drop 24).drop 24).drop 24), List.all_append, w_t4, ← List.take_append_drop 24 ((((words1.drop 24).drop 24).drop 24).drop 24), List.all_append, w_t5, ← List.take_append_drop 24 (((((words1.drop 24).drop 24).drop 24).drop 24).drop 24), List.all_append, w_t6, ← List.take_append_drop 24 ((((((words1.drop 24).drop 24).drop 24).drop 24).drop 24).drop 24), List.all_append, w_t7, ← List.take_append_drop 24 (((((((words1.drop 24).drop 24).drop 24).drop 24).drop 24).drop 24).drop 24), List.all_append, w_t8, w_t9]
  rfl
set_option maxRecDepth 65536 in
theorem w_case : (Jvm.Cond.and given_1 narrow_1).before args0 about1 = true := by decide +kernel
theorem w_applies : (headSpec (Jvm.Cond.code x code maxLocals ret :: tables_1) room_1).applies x e0.platform about1 = true :=
  (Spec.applies_iff w_frames).mpr ⟨w_running, w_runnable, w_alone, w_named, w_hears, w_ripe, w_room, w_tables⟩
theorem atStart : AtStart classFile x code maxLocals ret World_1 tables_1 room_1 Calls_1 rest_1 Pre_1 launch0 p0 e0 about1 theMethod args0 below0 :=
  ⟨lists_1, trivial, launch0.admits_env _ _ _, launch0.least_env, fairChoices_fair.cas, fairChoices_fair.clock, w_frames, w_args, w_heap, w_applies, trivial, trivial, w_case⟩
end start1
theorem witness_1 : WitnessClaimed_1 := ⟨start1.p0, start1.e0, start1.about1, start1.theMethod, start1.args0, start1.below0, start1.atStart⟩
end Jvm.Pilot.@@N@@
