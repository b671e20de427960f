import JvmDerived
import JvmDerived.Pilot.@@N@@Statement
import JvmDerived.Pilot.@@N@@Code
set_option linter.unusedVariables false
set_option linter.unusedSimpArgs false
namespace Jvm.RoadKit
open Sem ClassFile Op Lib Jvm.Stand Jvm.Free Jvm.LawKit
section New
variable {p : Program} {l : Launch} {e : Env} {R : Room} {s : State} {m : MethodId} {args : Array Value} {below : List Frame} {meth : Method} {c : Code} {T : State} {locs : List Loc} {cells slots : Nat}
theorem retI (X : Stand p l e R s m args below meth c T locs cells slots) (hx : p.tables.exec = Jvm.exec) {pc : Nat} {Ls : Array Slot} {z : Int32} {rest : List Value} (hret : meth.sig.returnType = some .int) (hd : decode c.code pc = .ok (.ireturn, 1)) {fs : List Frame}
    (hl : ∀ (f : JFrame) (acts : List Action), f.method = m → f.locked = none → f.entered = [] → (doReturn e (T.setTop f) acts (some (.int z))).1 = T.setFrames fs) : Steps p.tables e below (T.setTop (mkF m pc Ls (.int z :: rest))) (T.setFrames fs) := by
  have hm' : T.vm.method? m = some meth := X.method'
  have hn : narrow .int (.int z) = .int z := rfl
  show Steps p.tables e below (T.setTop { method := m, pc := pc, locals := Ls, stack := _ :: rest, locked := none }) _
  jvm_step X.here [X.here.top, hx, hd, hm', hret, hn]
  first | (intro acts; rw [hl _ acts rfl rfl rfl]) | rw [hl _ _ rfl rfl rfl]
  exact Steps.refl _
end New
end Jvm.RoadKit
namespace Jvm.Own
open Jvm Jvm.ClassFile Sem Op Lib Jvm.Free Jvm.Stand Jvm.LawKit Jvm.RoadKit
/-! ## 1. Local variables: what the walk knows of them (L) and what they are (r) -/
def rv (ρ : Nat → Addr) : Value → Value
  | .ref k => .ref (ρ k)
  | .int x => .int x
  | .long x => .long x
  | .float x => .float x
  | .double x => .double x
  | .null => .null
  | .retAddr x => .retAddr x
def rs (ρ : Nat → Addr) : Slot → Slot
  | .val v => .val (rv ρ v)
  | .unset => .unset
  | .second => .second
theorem rv_cat (ρ : Nat → Addr) (v : Value) : (rv ρ v).category = v.category := by cases v <;> rfl
def WR (f : Nat → Option Slot) : Prop := (∀ i v, f i = some (.val v) → v.category = 2 → f (i + 1) = some .second) ∧ (∀ i, f i = some .second → ∃ j v, i = j + 1 ∧ f j = some (.val v) ∧ v.category = 2)
def up (f : Nat → Option Slot) (i : Nat) (x : Slot) : Nat → Option Slot := fun k => if k = i then some x else f k
def C1 (s : Option Slot) : Prop := s = some .unset ∨ ∃ w, s = some (.val w) ∧ w.category = 1
theorem C1.not2 {s : Option Slot} (h : C1 s) : s ≠ some .second ∧ ∀ v, s = some (.val v) → v.category ≠ 2 := by
  rcases h with rfl | ⟨w, rfl, h⟩
  · exact ⟨nofun, nofun⟩
  · exact ⟨nofun, fun v e q => by cases e; omega⟩
theorem up_at (f : Nat → Option Slot) (i : Nat) (x : Slot) : up f i x i = some x := by simp [up]
theorem up_ne (f : Nat → Option Slot) {i k : Nat} (x : Slot) (h : k ≠ i) : up f i x k = f k := by simp [up, h]
theorem WR.one {f : Nat → Option Slot} {i : Nat} {x : Slot} (h : WR f) (hi : C1 (f i)) (hx : C1 (some x)) : WR (up f i x) := by
  obtain ⟨n1, n2⟩ := hi.not2
  obtain ⟨m1, m2⟩ := hx.not2
  constructor
  · intro k v hk hv
    by_cases e : k = i
    · subst e; rw [up_at] at hk; exact absurd hv (m2 v hk)
    · rw [up_ne _ _ e] at hk
      have q := h.1 k v hk hv
      by_cases e2 : k + 1 = i
      · rw [e2] at q; exact absurd q n1
      · rw [up_ne _ _ e2]; exact q
  · intro k hk
    by_cases e : k = i
    · subst e; rw [up_at] at hk; exact absurd hk m1
    · rw [up_ne _ _ e] at hk
      obtain ⟨j, v, e1, e2, e3⟩ := h.2 k hk
      refine ⟨j, v, e1, ?_, e3⟩
      by_cases e4 : j = i
      · rw [e4] at e2; exact absurd e3 (n2 v e2)
      · rw [up_ne _ _ e4]; exact e2
theorem WR.clr {f : Nat → Option Slot} {j : Nat} {v : Value} (h : WR f) (hj : f j = some (.val v)) (hv : v.category = 2) : WR (up (up f j .unset) (j + 1) .unset) := by
  have q := h.1 j v hj hv
  constructor
  · intro k w hk hw
    by_cases e : k = j + 1
    · subst e; rw [up_at] at hk; cases hk
    · rw [up_ne _ _ e] at hk
      by_cases e2 : k = j
      · subst e2; rw [up_at] at hk; cases hk
      · rw [up_ne _ _ e2] at hk
        have q2 := h.1 k w hk hw
        by_cases e3 : k + 1 = j
        · rw [e3] at q2; rw [hj] at q2; cases q2
        · rw [up_ne _ _ (show k + 1 ≠ j + 1 by omega), up_ne _ _ e3]; exact q2
  · intro k hk
    by_cases e : k = j + 1
    · subst e; rw [up_at] at hk; cases hk
    · rw [up_ne _ _ e] at hk
      by_cases e2 : k = j
      · subst e2; rw [up_at] at hk; cases hk
      · rw [up_ne _ _ e2] at hk
        obtain ⟨i, w, e3, e4, e5⟩ := h.2 k hk
        refine ⟨i, w, e3, ?_, e5⟩
        by_cases e6 : i = j + 1
        · rw [e6, q] at e4; cases e4
        · rw [up_ne _ _ e6, up_ne _ _ (show i ≠ j by omega)]; exact e4
theorem WR.two {f : Nat → Option Slot} {i : Nat} {v : Value} (h : WR f) (h1 : C1 (f i)) (h2 : C1 (f (i + 1))) (hv : v.category = 2) : WR (up (up f i (.val v)) (i + 1) .second) := by
  obtain ⟨n1, n2⟩ := h1.not2
  obtain ⟨m1, m2⟩ := h2.not2
  constructor
  · intro k w hk hw
    by_cases e : k = i + 1
    · subst e; rw [up_at] at hk; cases hk
    · rw [up_ne _ _ e] at hk
      by_cases e2 : k = i
      · subst e2; exact up_at _ _ _
      · rw [up_ne _ _ e2] at hk
        have q := h.1 k w hk hw
        by_cases e3 : k + 1 = i
        · rw [e3] at q; exact absurd q n1
        · rw [up_ne _ _ (show k + 1 ≠ i + 1 by omega), up_ne _ _ e3]; exact q
  · intro k hk
    by_cases e : k = i + 1
    · exact ⟨i, v, e, by rw [up_ne _ _ (show i ≠ i + 1 by omega), up_at], hv⟩
    · rw [up_ne _ _ e] at hk
      by_cases e2 : k = i
      · subst e2; rw [up_at] at hk; cases hk
      · rw [up_ne _ _ e2] at hk
        obtain ⟨j, w, e3, e4, e5⟩ := h.2 k hk
        refine ⟨j, w, e3, ?_, e5⟩
        by_cases e6 : j = i + 1
        · rw [e6] at e4; exact absurd e5 (m2 w e4)
        · by_cases e7 : j = i
          · omega
          · rw [up_ne _ _ e6, up_ne _ _ e7]; exact e4
theorem up_arr {r : Array Slot} {i : Nat} (hi : i < r.size) (x : Slot) : (fun k => (r.setIfInBounds i x)[k]?) = up (fun k => r[k]?) i x := by
  funext k
  show (r.setIfInBounds i x)[k]? = _
  rw [Array.getElem?_setIfInBounds]
  by_cases e : i = k
  · subst e; simp [up, hi]
  · rw [if_neg e, up_ne _ _ (Ne.symm e)]
theorem up_lst {L : List Slot} {i : Nat} (hi : i < L.length) (x : Slot) : (fun k => (L.set i x)[k]?) = up (fun k => L[k]?) i x := by
  funext k
  show (L.set i x)[k]? = _
  rw [List.getElem?_set]
  by_cases e : i = k
  · subst e; simp [up, hi]
  · rw [if_neg e, up_ne _ _ (Ne.symm e)]
def SR (ρ : Nat → Addr) (L : List Slot) (r : Array Slot) : Prop :=
  r.size = L.length ∧ (∀ (i : Nat) (v : Value), L[i]? = some (.val v) → r[i]? = some (.val (rv ρ v))) ∧ (∀ (i : Nat), L[i]? = some .second → r[i]? = some .second) ∧ WR (fun k => L[k]?) ∧ WR (fun k => r[k]?)
theorem SR.get {ρ : Nat → Addr} {L : List Slot} {r : Array Slot} (h : SR ρ L r) {i : Nat} {v : Value} (e : L[i]? = some (.val v)) : r[i]? = some (.val (rv ρ v)) := h.2.1 i v e
/-- a store of one word over nothing or one word -/
theorem SR.st1 {ρ : Nat → Addr} {L : List Slot} {r : Array Slot} {i : Nat} {v : Value} (h : SR ρ L r) (ho : C1 L[i]?) (hv : v.category = 1) :
    ∃ r', storeLocals r i (rv ρ v) = some r' ∧ SR ρ (L.set i (.val v)) r' := by
  obtain ⟨h1, h2, h3, h4, h5⟩ := h
  have hi : i < L.length := by
    rcases ho with h | ⟨w, h, -⟩ <;> exact (List.getElem?_eq_some_iff.mp h).1
  have hir : i < r.size := by omega
  have hcv : (rv ρ v).category = 1 := by rw [rv_cat]; exact hv
  have hcx : C1 (some (Slot.val (rv ρ v))) := Or.inr ⟨_, rfl, hcv⟩
  obtain ⟨n1, n2⟩ := ho.not2
  have fin : ∀ r' : Array Slot, r'.size = r.size → WR (fun k => r'[k]?) → r'[i]? = some (.val (rv ρ v)) → (∀ k, k ≠ i → r'[k]? = r[k]? ∨ ∀ s, L[k]? = some s → s = .unset) → SR ρ (L.set i (.val v)) r' := by
    intro r' a1 a2 a3 a4
    refine ⟨by rw [a1, h1, List.length_set], ?_, ?_, by rw [up_lst hi]; exact h4.one ho (Or.inr ⟨v, rfl, hv⟩), a2⟩
    · intro k w hk
      rw [List.getElem?_set] at hk
      by_cases e : i = k
      · subst e; simp [hi] at hk; subst hk; exact a3
      · rw [if_neg e] at hk
        rcases a4 k (Ne.symm e) with q | q
        · rw [q]; exact h2 k w hk
        · cases q _ hk
    · intro k hk
      rw [List.getElem?_set] at hk
      by_cases e : i = k
      · subst e; simp [hi] at hk
      · rw [if_neg e] at hk
        rcases a4 k (Ne.symm e) with q | q
        · rw [q]; exact h3 k hk
        · cases q _ hk
  obtain ⟨q, hq⟩ : ∃ q, r[i]? = some q := ⟨_, Array.getElem?_eq_getElem hir⟩
  have plain : C1 (r[i]?) → ∃ r', storeLocals r i (rv ρ v) = some r' ∧ SR ρ (L.set i (.val v)) r' := by
    intro hC
    have hs : storeLocals r i (rv ρ v) = some (r.setIfInBounds i (.val (rv ρ v))) := by
      rcases hC with e | ⟨w, e, hw⟩
      · exact XS.store1 e (Or.inl rfl) hcv
      · exact XS.store1 e (Or.inr ⟨w, rfl, hw⟩) hcv
    refine ⟨_, hs, fin _ (by simp) (by rw [up_arr hir]; exact h5.one hC hcx) (by simp [hir]) ?_⟩
    intro k hk
    exact Or.inl (Array.getElem?_setIfInBounds_ne (Ne.symm hk))
  cases q with
  | unset => exact plain (Or.inl hq)
  | val w =>
    by_cases hw : w.category = 2
    · have q2 := h5.1 i w hq hw
      have hj : i + 1 < r.size := (Array.getElem?_eq_some_iff.mp q2).1
      have Lu : ∀ k, (k = i ∨ k = i + 1) → ∀ s, L[k]? = some s → s = .unset := by
        intro k hk s hs
        cases s with
        | unset => rfl
        | second =>
          rcases hk with rfl | rfl
          · exact absurd hs n1
          · obtain ⟨j, u, e1, e2, e3⟩ := h4.2 _ hs
            have : j = i := by omega
            subst this
            exact absurd e3 (n2 u e2)
        | val u =>
          rcases hk with rfl | rfl
          · have := h2 _ _ hs
            rw [hq] at this
            cases this
            rw [rv_cat] at hw
            exact absurd hw (n2 u hs)
          · have := h2 _ _ hs
            have q3 : r[i + 1]? = some .second := q2
            rw [q3] at this; cases this
      have hs : storeLocals r i (rv ρ v) = some ((r.setIfInBounds (i + 1) .unset).setIfInBounds i (.val (rv ρ v))) := by
        simp [storeLocals, storeSelf, setAt, hq, (Array.getElem?_eq_some_iff.mp hq).2, hw, hj, hir, hcv]
      refine ⟨_, hs, fin _ (by simp) ?_ (by simp [hir]) ?_⟩
      · have e : (fun k => ((r.setIfInBounds (i + 1) .unset).setIfInBounds i (.val (rv ρ v)))[k]?) = up (up (up (fun k => r[k]?) i .unset) (i + 1) .unset) i (.val (rv ρ v)) := by
          rw [up_arr (by simpa using hir), up_arr hj]
          funext k
          simp only [up]
          by_cases e : k = i
          · simp [e]
          · simp [e]
        rw [e]
        exact (h5.clr hq hw).one (Or.inl (by simp [up])) hcx
      · intro k hk
        by_cases e : k = i + 1
        · exact Or.inr (Lu k (Or.inr e))
        · left
          rw [Array.getElem?_setIfInBounds_ne (Ne.symm hk), Array.getElem?_setIfInBounds_ne (Ne.symm e)]
    · refine plain (Or.inr ⟨w, hq, ?_⟩)
      cases w <;> simp [Value.category] at hw ⊢
  | second =>
    obtain ⟨j, u, e1, e2, e3⟩ := h5.2 i hq
    subst e1
    have e2' : r[j]? = some (.val u) := e2
    have hj : j < r.size := by omega
    have Lu : ∀ s, L[j]? = some s → s = .unset := by
      intro s hs
      cases s with
      | unset => rfl
      | second => have := h3 _ hs; rw [e2'] at this; cases this
      | val w =>
        have := h2 _ _ hs
        rw [e2'] at this
        cases this
        rw [rv_cat] at e3
        exact absurd (h4.1 j w hs e3) n1
    have hs : storeLocals r (j + 1) (rv ρ v) = some ((r.setIfInBounds j .unset).setIfInBounds (j + 1) (.val (rv ρ v))) := by
      simp [storeLocals, storeSelf, setAt, hq, (Array.getElem?_eq_some_iff.mp hq).2, hj, hir, hcv]
    refine ⟨_, hs, fin _ (by simp) ?_ (by simp [hir]) ?_⟩
    · have e : (fun k => ((r.setIfInBounds j .unset).setIfInBounds (j + 1) (.val (rv ρ v)))[k]?) = up (up (up (fun k => r[k]?) j .unset) (j + 1) .unset) (j + 1) (.val (rv ρ v)) := by
        rw [up_arr (by simpa using hir), up_arr hj]
        funext k
        simp only [up]
        by_cases e : k = j + 1
        · simp [e]
        · simp [e]
      rw [e]
      exact (h5.clr e2 e3).one (Or.inl (by simp [up])) hcx
    · intro k hk
      by_cases e : k = j
      · subst e; exact Or.inr Lu
      · left
        rw [Array.getElem?_setIfInBounds_ne (Ne.symm hk), Array.getElem?_setIfInBounds_ne (Ne.symm e)]
end Jvm.Own

namespace Jvm.Own
open Jvm Jvm.ClassFile Sem Op Lib Jvm.Free Jvm.Stand Jvm.LawKit Jvm.RoadKit
theorem cat12 (w : Value) (h : ¬ w.category = 2) : w.category = 1 := by cases w <;> simp [Value.category] at h ⊢
theorem getset_ne {r : Array Slot} {i k : Nat} {x t : Slot} (h : r[k]? = some t) (ne : i ≠ k) (hk : k < (r.setIfInBounds i x).size) : (r.setIfInBounds i x)[k] = t := by
  have q : (r.setIfInBounds i x)[k]? = some t := by rw [Array.getElem?_setIfInBounds_ne ne]; exact h
  exact (Array.getElem?_eq_some_iff.mp q).2
/-- a store of two words over nothing or single words -/
theorem SR.st2 {ρ : Nat → Addr} {L : List Slot} {r : Array Slot} {i : Nat} {v : Value} (h : SR ρ L r) (ho : C1 L[i]?) (ho' : C1 L[i + 1]?) (hv : v.category = 2) :
    ∃ r', storeLocals r i (rv ρ v) = some r' ∧ SR ρ ((L.set i (.val v)).set (i + 1) .second) r' := by
  obtain ⟨h1, h2, h3, h4, h5⟩ := h
  have hi : i + 1 < L.length := by
    rcases ho' with h | ⟨w, h, -⟩ <;> exact (List.getElem?_eq_some_iff.mp h).1
  have hir1 : i + 1 < r.size := by omega
  have hir : i < r.size := by omega
  have hcv : (rv ρ v).category = 2 := by rw [rv_cat]; exact hv
  obtain ⟨n1, n2⟩ := ho.not2
  obtain ⟨m1, m2⟩ := ho'.not2
  have nr : ∀ w, r[i]? = some (.val w) → ∀ u, L[i]? = some (.val u) → w.category = 2 → False := by
    intro w hw u hu hc
    have := h2 _ _ hu
    rw [hw] at this; cases this
    rw [rv_cat] at hc
    exact n2 u hu hc
  have fin : ∀ r' : Array Slot, r'.size = r.size → WR (fun k => r'[k]?) → r'[i]? = some (.val (rv ρ v)) → r'[i + 1]? = some .second → (∀ k, k ≠ i → k ≠ i + 1 → r'[k]? = r[k]? ∨ ∀ s, L[k]? = some s → s = .unset) → SR ρ ((L.set i (.val v)).set (i + 1) .second) r' := by
    intro r' a1 a2 a3 a3' a4
    refine ⟨by rw [a1, h1]; simp, ?_, ?_, by rw [up_lst (by simpa using hi), up_lst (by omega)]; exact h4.two ho ho' hv, a2⟩
    · intro k w hk
      rw [List.getElem?_set] at hk
      by_cases e : i + 1 = k
      · subst e; simp [hi] at hk
      · rw [if_neg e, List.getElem?_set] at hk
        by_cases e2 : i = k
        · subst e2; simp [show i < L.length by omega] at hk; subst hk; exact a3
        · rw [if_neg e2] at hk
          rcases a4 k (Ne.symm e2) (Ne.symm e) with q | q
          · rw [q]; exact h2 k w hk
          · cases q _ hk
    · intro k hk
      rw [List.getElem?_set] at hk
      by_cases e : i + 1 = k
      · subst e; exact a3'
      · rw [if_neg e, List.getElem?_set] at hk
        by_cases e2 : i = k
        · subst e2; simp [show i < L.length by omega] at hk
        · rw [if_neg e2] at hk
          rcases a4 k (Ne.symm e2) (Ne.symm e) with q | q
          · rw [q]; exact h3 k hk
          · cases q _ hk
  have Lun2 : ∀ u, r[i + 1]? = some (.val u) → u.category = 2 → ∀ s, L[i + 2]? = some s → s = .unset := by
    intro u hu hc s hs
    have q2 : r[i + 2]? = some .second := h5.1 (i + 1) u hu hc
    cases s with
    | unset => rfl
    | second =>
      obtain ⟨j, w, e1, e2, e3⟩ := h4.2 _ hs
      have : j = i + 1 := by omega
      subst this
      exact absurd e3 (m2 w e2)
    | val w => have := h2 _ _ hs; rw [q2] at this; cases this
  obtain ⟨q, hq⟩ : ∃ q, r[i]? = some q := ⟨_, Array.getElem?_eq_getElem hir⟩
  obtain ⟨q1, hq1⟩ : ∃ q, r[i + 1]? = some q := ⟨_, Array.getElem?_eq_getElem hir1⟩
  have ne1 : i + 1 ≠ i := by omega
  cases q with
  | unset =>
    have hC : C1 (r[i]?) := Or.inl hq
    cases q1 with
    | unset =>
      refine ⟨(r.setIfInBounds i (.val (rv ρ v))).setIfInBounds (i + 1) .second, by simp [storeLocals, storeSelf, setAt, hq, (Array.getElem?_eq_some_iff.mp hq).2, hq1, (Array.getElem?_eq_some_iff.mp hq1).2, hir, hir1, hcv, Array.getElem?_setIfInBounds], fin _ (by simp) ?_ (by simp [hir, Array.getElem?_setIfInBounds]) (by simp [hir1]) ?_⟩
      · rw [up_arr (by simpa using hir1), up_arr hir]; exact h5.two hC (Or.inl hq1) hcv
      · intro k a b; left; rw [Array.getElem?_setIfInBounds_ne (Ne.symm b), Array.getElem?_setIfInBounds_ne (Ne.symm a)]
    | second => obtain ⟨j, w, e1, e2, e3⟩ := h5.2 _ hq1; have : j = i := by omega
                subst this; have e2' : r[j]? = some (.val w) := e2; rw [hq] at e2'; cases e2'
    | val u =>
      by_cases hu : u.category = 2
      · have q2 : r[i + 2]? = some .second := h5.1 (i + 1) u hq1 hu
        have hi2 : i + 2 < r.size := (Array.getElem?_eq_some_iff.mp q2).1
        refine ⟨((r.setIfInBounds i (.val (rv ρ v))).setIfInBounds (i + 2) .unset).setIfInBounds (i + 1) .second, by simp [storeLocals, storeSelf, setAt, hq, (Array.getElem?_eq_some_iff.mp hq).2, hq1, (Array.getElem?_eq_some_iff.mp hq1).2, hir, hir1, hi2, hcv, hu, Array.getElem?_setIfInBounds], fin _ (by simp) ?_ (by simp [hir, Array.getElem?_setIfInBounds]) (by simp [hir1]) ?_⟩
        · have e : (fun k => (((r.setIfInBounds i (.val (rv ρ v))).setIfInBounds (i + 2) .unset).setIfInBounds (i + 1) .second)[k]?) = up (up (up (up (fun k => r[k]?) (i + 1) .unset) (i + 2) .unset) i (.val (rv ρ v))) (i + 1) .second := by
            rw [up_arr (by simpa using hir1), up_arr (by simpa using hi2), up_arr hir]
            funext k
            simp only [up]
            by_cases e : k = i + 1
            · simp [e]
            · by_cases e2 : k = i
              · simp [e2]
              · simp [e, e2]
          rw [e]
          exact (h5.clr hq1 hu).two (Or.inl (by simp [up, hq] <;> omega)) (Or.inl (by simp [up] <;> omega)) hcv
        · intro k a b
          by_cases e : k = i + 2
          · subst e; exact Or.inr (Lun2 u hq1 hu)
          · left; rw [Array.getElem?_setIfInBounds_ne (Ne.symm b), Array.getElem?_setIfInBounds_ne (Ne.symm e), Array.getElem?_setIfInBounds_ne (Ne.symm a)]
      · refine ⟨(r.setIfInBounds i (.val (rv ρ v))).setIfInBounds (i + 1) .second, by simp [storeLocals, storeSelf, setAt, hq, (Array.getElem?_eq_some_iff.mp hq).2, hq1, (Array.getElem?_eq_some_iff.mp hq1).2, hir, hir1, hcv, hu, Array.getElem?_setIfInBounds], fin _ (by simp) ?_ (by simp [hir, Array.getElem?_setIfInBounds]) (by simp [hir1]) ?_⟩
        · rw [up_arr (by simpa using hir1), up_arr hir]; exact h5.two hC (Or.inr ⟨u, hq1, cat12 u hu⟩) hcv
        · intro k a b; left; rw [Array.getElem?_setIfInBounds_ne (Ne.symm b), Array.getElem?_setIfInBounds_ne (Ne.symm a)]
  | val w =>
    by_cases hw : w.category = 2
    · have q2 : r[i + 1]? = some .second := h5.1 i w hq hw
      have Lu : ∀ s, L[i]? = some s → s = .unset := by
        intro s hs
        cases s with
        | unset => rfl
        | second => exact absurd hs n1
        | val u => exact (nr w hq u hs hw).elim
      refine ⟨((r.setIfInBounds (i + 1) .unset).setIfInBounds i (.val (rv ρ v))).setIfInBounds (i + 1) .second, by simp [storeLocals, storeSelf, setAt, hq, (Array.getElem?_eq_some_iff.mp hq).2, hw, hir, hir1, hcv, Array.getElem?_setIfInBounds], fin _ (by simp) ?_ (by simp [hir, Array.getElem?_setIfInBounds]) (by simp [hir1]) ?_⟩
      · have e : (fun k => (((r.setIfInBounds (i + 1) .unset).setIfInBounds i (.val (rv ρ v))).setIfInBounds (i + 1) .second)[k]?) = up (up (up (up (fun k => r[k]?) i .unset) (i + 1) .unset) i (.val (rv ρ v))) (i + 1) .second := by
          rw [up_arr (by simpa using hir1), up_arr (by simpa using hir), up_arr hir1]
          funext k
          simp only [up]
          by_cases e : k = i + 1
          · simp [e]
          · by_cases e2 : k = i
            · simp [e2]
            · simp [e, e2]
        rw [e]
        exact (h5.clr hq hw).two (Or.inl (by simp [up] <;> omega)) (Or.inl (by simp [up] <;> omega)) hcv
      · intro k a b
        left; rw [Array.getElem?_setIfInBounds_ne (Ne.symm b), Array.getElem?_setIfInBounds_ne (Ne.symm a), Array.getElem?_setIfInBounds_ne (Ne.symm b)]
    · have hC : C1 (r[i]?) := Or.inr ⟨w, hq, cat12 w hw⟩
      cases q1 with
      | unset =>
        refine ⟨(r.setIfInBounds i (.val (rv ρ v))).setIfInBounds (i + 1) .second, by simp [storeLocals, storeSelf, setAt, hq, (Array.getElem?_eq_some_iff.mp hq).2, hq1, (Array.getElem?_eq_some_iff.mp hq1).2, hw, hir, hir1, hcv, Array.getElem?_setIfInBounds], fin _ (by simp) ?_ (by simp [hir, Array.getElem?_setIfInBounds]) (by simp [hir1]) ?_⟩
        · rw [up_arr (by simpa using hir1), up_arr hir]; exact h5.two hC (Or.inl hq1) hcv
        · intro k a b; left; rw [Array.getElem?_setIfInBounds_ne (Ne.symm b), Array.getElem?_setIfInBounds_ne (Ne.symm a)]
      | second => obtain ⟨j, u, e1, e2, e3⟩ := h5.2 _ hq1; have : j = i := by omega
                  subst this; have e2' : r[j]? = some (.val u) := e2; rw [hq] at e2'; cases e2'; exact absurd e3 hw
      | val u =>
        by_cases hu : u.category = 2
        · have q2 : r[i + 2]? = some .second := h5.1 (i + 1) u hq1 hu
          have hi2 : i + 2 < r.size := (Array.getElem?_eq_some_iff.mp q2).1
          refine ⟨((r.setIfInBounds i (.val (rv ρ v))).setIfInBounds (i + 2) .unset).setIfInBounds (i + 1) .second, by simp [storeLocals, storeSelf, setAt, hq, (Array.getElem?_eq_some_iff.mp hq).2, hq1, (Array.getElem?_eq_some_iff.mp hq1).2, hw, hir, hir1, hi2, hcv, hu, Array.getElem?_setIfInBounds], fin _ (by simp) ?_ (by simp [hir, Array.getElem?_setIfInBounds]) (by simp [hir1]) ?_⟩
          · have e : (fun k => (((r.setIfInBounds i (.val (rv ρ v))).setIfInBounds (i + 2) .unset).setIfInBounds (i + 1) .second)[k]?) = up (up (up (up (fun k => r[k]?) (i + 1) .unset) (i + 2) .unset) i (.val (rv ρ v))) (i + 1) .second := by
              rw [up_arr (by simpa using hir1), up_arr (by simpa using hi2), up_arr hir]
              funext k
              simp only [up]
              by_cases e : k = i + 1
              · simp [e]
              · by_cases e2 : k = i
                · simp [e2]
                · simp [e, e2]
            rw [e]
            exact (h5.clr hq1 hu).two (Or.inr ⟨w, by simp [up, hq] <;> omega, cat12 w hw⟩) (Or.inl (by simp [up] <;> omega)) hcv
          · intro k a b
            by_cases e : k = i + 2
            · subst e; exact Or.inr (Lun2 u hq1 hu)
            · left; rw [Array.getElem?_setIfInBounds_ne (Ne.symm b), Array.getElem?_setIfInBounds_ne (Ne.symm e), Array.getElem?_setIfInBounds_ne (Ne.symm a)]
        · refine ⟨(r.setIfInBounds i (.val (rv ρ v))).setIfInBounds (i + 1) .second, by simp [storeLocals, storeSelf, setAt, hq, (Array.getElem?_eq_some_iff.mp hq).2, hq1, (Array.getElem?_eq_some_iff.mp hq1).2, hw, hir, hir1, hcv, hu, Array.getElem?_setIfInBounds], fin _ (by simp) ?_ (by simp [hir, Array.getElem?_setIfInBounds]) (by simp [hir1]) ?_⟩
          · rw [up_arr (by simpa using hir1), up_arr hir]; exact h5.two hC (Or.inr ⟨u, hq1, cat12 u hu⟩) hcv
          · intro k a b; left; rw [Array.getElem?_setIfInBounds_ne (Ne.symm b), Array.getElem?_setIfInBounds_ne (Ne.symm a)]
  | second =>
    obtain ⟨j, y, e1, e2, e3⟩ := h5.2 i hq
    subst e1
    have e2' : r[j]? = some (.val y) := e2
    have hj : j < r.size := by omega
    have Lu : ∀ s, L[j]? = some s → s = .unset := by
      intro s hs
      cases s with
      | unset => rfl
      | second => have := h3 _ hs; rw [e2'] at this; cases this
      | val w =>
        have := h2 _ _ hs
        rw [e2'] at this
        cases this
        rw [rv_cat] at e3
        exact absurd (h4.1 j w hs e3) n1
    have W5 := h5.clr e2 e3
    cases q1 with
    | unset =>
      refine ⟨((r.setIfInBounds j .unset).setIfInBounds (j + 1) (.val (rv ρ v))).setIfInBounds (j + 1 + 1) .second, by simp [storeLocals, storeSelf, setAt, hq, (Array.getElem?_eq_some_iff.mp hq).2, hq1, (Array.getElem?_eq_some_iff.mp hq1).2, getset_ne hq1 (show j ≠ j + 1 + 1 by omega), hj, hir, hir1, hcv, Array.getElem?_setIfInBounds], fin _ (by simp) ?_ (by simp [hir, Array.getElem?_setIfInBounds]) (by simp [hir1]) ?_⟩
      · have e : (fun k => (((r.setIfInBounds j .unset).setIfInBounds (j + 1) (.val (rv ρ v))).setIfInBounds (j + 1 + 1) .second)[k]?) = up (up (up (up (fun k => r[k]?) j .unset) (j + 1) .unset) (j + 1) (.val (rv ρ v))) (j + 1 + 1) .second := by
          rw [up_arr (by simpa using hir1), up_arr (by simpa using hir), up_arr hj]
          funext k
          simp only [up]
          by_cases e : k = j + 1 + 1
          · simp [e]
          · by_cases e2 : k = j + 1
            · simp [e2]
            · simp [e, e2]
        rw [e]
        exact W5.two (Or.inl (by simp [up] <;> omega)) (Or.inl (by simp [up, hq1] <;> omega)) hcv
      · intro k a b
        by_cases e : k = j
        · subst e; exact Or.inr Lu
        · left; rw [Array.getElem?_setIfInBounds_ne (Ne.symm b), Array.getElem?_setIfInBounds_ne (Ne.symm a), Array.getElem?_setIfInBounds_ne (Ne.symm e)]
    | second => obtain ⟨k, w, f1, f2, f3⟩ := h5.2 _ hq1; have : k = j + 1 := by omega
                subst this; have f2' : r[j + 1]? = some (.val w) := f2; rw [hq] at f2'; cases f2'
    | val u =>
      by_cases hu : u.category = 2
      · have q2 : r[j + 1 + 2]? = some .second := h5.1 (j + 1 + 1) u hq1 hu
        have hi2 : j + 1 + 2 < r.size := (Array.getElem?_eq_some_iff.mp q2).1
        refine ⟨(((r.setIfInBounds j .unset).setIfInBounds (j + 1) (.val (rv ρ v))).setIfInBounds (j + 1 + 2) .unset).setIfInBounds (j + 1 + 1) .second, by simp [storeLocals, storeSelf, setAt, hq, (Array.getElem?_eq_some_iff.mp hq).2, hq1, (Array.getElem?_eq_some_iff.mp hq1).2, getset_ne hq1 (show j ≠ j + 1 + 1 by omega), hj, hir, hir1, hi2, hcv, hu, Array.getElem?_setIfInBounds], fin _ (by simp) ?_ (by simp [hir, Array.getElem?_setIfInBounds]) (by simp [hir1]) ?_⟩
        · have e : (fun k => ((((r.setIfInBounds j .unset).setIfInBounds (j + 1) (.val (rv ρ v))).setIfInBounds (j + 1 + 2) .unset).setIfInBounds (j + 1 + 1) .second)[k]?) = up (up (up (up (up (up (fun k => r[k]?) j .unset) (j + 1) .unset) (j + 1 + 1) .unset) (j + 1 + 1 + 1) .unset) (j + 1) (.val (rv ρ v))) (j + 1 + 1) .second := by
            rw [up_arr (by simpa using hir1), up_arr (by simpa using hi2), up_arr (by simpa using hir), up_arr hj]
            funext k
            simp only [up]
            by_cases e : k = j + 1 + 1
            · simp [e]
            · by_cases e2 : k = j + 1
              · simp [e2]
              · simp [e, e2]
          rw [e]
          exact (W5.clr (j := j + 1 + 1) (v := u) (by simp [up, hq1] <;> omega) hu).two (Or.inl (by simp [up] <;> omega)) (Or.inl (by simp [up] <;> omega)) hcv
        · intro k a b
          by_cases e : k = j
          · subst e; exact Or.inr Lu
          · by_cases e4 : k = j + 1 + 2
            · subst e4; exact Or.inr (Lun2 u hq1 hu)
            · left; rw [Array.getElem?_setIfInBounds_ne (Ne.symm b), Array.getElem?_setIfInBounds_ne (Ne.symm e4), Array.getElem?_setIfInBounds_ne (Ne.symm a), Array.getElem?_setIfInBounds_ne (Ne.symm e)]
      · refine ⟨((r.setIfInBounds j .unset).setIfInBounds (j + 1) (.val (rv ρ v))).setIfInBounds (j + 1 + 1) .second, by simp [storeLocals, storeSelf, setAt, hq, (Array.getElem?_eq_some_iff.mp hq).2, hq1, (Array.getElem?_eq_some_iff.mp hq1).2, getset_ne hq1 (show j ≠ j + 1 + 1 by omega), hj, hir, hir1, hcv, hu, Array.getElem?_setIfInBounds], fin _ (by simp) ?_ (by simp [hir, Array.getElem?_setIfInBounds]) (by simp [hir1]) ?_⟩
        · have e : (fun k => (((r.setIfInBounds j .unset).setIfInBounds (j + 1) (.val (rv ρ v))).setIfInBounds (j + 1 + 1) .second)[k]?) = up (up (up (up (fun k => r[k]?) j .unset) (j + 1) .unset) (j + 1) (.val (rv ρ v))) (j + 1 + 1) .second := by
            rw [up_arr (by simpa using hir1), up_arr (by simpa using hir), up_arr hj]
            funext k
            simp only [up]
            by_cases e : k = j + 1 + 1
            · simp [e]
            · by_cases e2 : k = j + 1
              · simp [e2]
              · simp [e, e2]
          rw [e]
          exact W5.two (Or.inl (by simp [up] <;> omega)) (Or.inr ⟨u, by simp [up, hq1] <;> omega, cat12 u hu⟩) hcv
        · intro k a b
          by_cases e : k = j
          · subst e; exact Or.inr Lu
          · left; rw [Array.getElem?_setIfInBounds_ne (Ne.symm b), Array.getElem?_setIfInBounds_ne (Ne.symm a), Array.getElem?_setIfInBounds_ne (Ne.symm e)]
/-- which lists of slots are laid out well -/
def wfL : List Slot → Bool
  | [] => true
  | .unset :: t => wfL t
  | .second :: _ => false
  | [.val v] => decide (v.category = 1)
  | .val v :: .second :: t => decide (v.category = 2) && wfL t
  | .val v :: .unset :: t => decide (v.category = 1) && wfL t
  | .val v :: .val u :: t => decide (v.category = 1) && wfL (.val u :: t)
/-- the walk forgets the variables that the mask marks -/
def fg : List Bool → List Slot → List Slot
  | true :: b, _ :: t => .unset :: fg b t
  | false :: b, s :: t => s :: fg b t
  | _, t => t
theorem WR.nil : WR (fun k => ([] : List Slot)[k]?) := ⟨fun i v h => by simp at h, fun i h => by simp at h⟩
theorem WR.cons1 {t : List Slot} {s : Slot} (h : WR (fun k => t[k]?)) (hs : C1 (some s)) : WR (fun k => (s :: t)[k]?) := by
  obtain ⟨n1, n2⟩ := hs.not2
  constructor
  · intro i v hi hv
    cases i with
    | zero => exact absurd hv (n2 v (by simpa using hi))
    | succ i => have := h.1 i v (by simpa using hi) hv; simpa using this
  · intro i hi
    cases i with
    | zero => exact absurd (by simpa using hi) n1
    | succ i => obtain ⟨j, v, e1, e2, e3⟩ := h.2 i (by simpa using hi); exact ⟨j + 1, v, by omega, by simpa using e2, e3⟩
theorem WR.cons2 {t : List Slot} {w : Value} (h : WR (fun k => t[k]?)) (hw : w.category = 2) : WR (fun k => (Slot.val w :: .second :: t)[k]?) := by
  constructor
  · intro i v hi hv
    match i with
    | 0 => simp
    | 1 => simp at hi
    | i + 2 => have := h.1 i v (by simpa using hi) hv; simpa using this
  · intro i hi
    match i with
    | 0 => simp at hi
    | 1 => exact ⟨0, w, rfl, by simp, hw⟩
    | i + 2 => obtain ⟨j, v, e1, e2, e3⟩ := h.2 i (by simpa using hi); exact ⟨j + 2, v, by omega, by simpa using e2, e3⟩
theorem WR.of_wfL : (L : List Slot) → wfL L = true → WR (fun k => L[k]?)
  | [], _ => WR.nil
  | .unset :: t, h => (WR.of_wfL t h).cons1 (Or.inl rfl)
  | .second :: _, h => by simp [wfL] at h
  | [.val v], h => WR.nil.cons1 (Or.inr ⟨v, rfl, by simpa [wfL] using h⟩)
  | .val v :: .second :: t, h => by simp [wfL] at h; exact (WR.of_wfL t h.2).cons2 h.1
  | .val v :: .unset :: t, h => by simp [wfL] at h; exact ((WR.of_wfL t h.2).cons1 (Or.inl rfl)).cons1 (Or.inr ⟨v, rfl, h.1⟩)
  | .val v :: .val u :: t, h => by
    have h' : decide (v.category = 1) = true ∧ wfL (.val u :: t) = true := by rw [wfL, Bool.and_eq_true] at h; exact h
    exact (WR.of_wfL (.val u :: t) h'.2).cons1 (Or.inr ⟨v, rfl, of_decide_eq_true h'.1⟩)
theorem fg_length : (b : List Bool) → (L : List Slot) → (fg b L).length = L.length
  | true :: b, _ :: t => by simp [fg, fg_length b t]
  | false :: b, s :: t => by simp [fg, fg_length b t]
  | [], t => by simp [fg]
  | true :: _, [] => by simp [fg]
  | false :: _, [] => by simp [fg]
theorem fg_get : (b : List Bool) → (L : List Slot) → ∀ (i : Nat) (s : Slot), (fg b L)[i]? = some s → s = .unset ∨ L[i]? = some s
  | true :: b, x :: t, i, s, h => by
    cases i with
    | zero => left; simpa [fg] using h.symm
    | succ i => have := fg_get b t i s (by simpa [fg] using h); simpa using this
  | false :: b, x :: t, i, s, h => by
    cases i with
    | zero => right; simpa [fg] using h
    | succ i => have := fg_get b t i s (by simpa [fg] using h); simpa using this
  | [], t, i, s, h => by right; simpa [fg] using h
  | true :: _, [], i, s, h => by right; simpa [fg] using h
  | false :: _, [], i, s, h => by right; simpa [fg] using h
theorem SR.forget {ρ : Nat → Addr} {L : List Slot} {r : Array Slot} (h : SR ρ L r) (b : List Bool) (hw : wfL (fg b L) = true) : SR ρ (fg b L) r := by
  obtain ⟨h1, h2, h3, h4, h5⟩ := h
  refine ⟨by rw [fg_length]; exact h1, fun i v hi => ?_, fun i hi => ?_, WR.of_wfL _ hw, h5⟩
  · rcases fg_get _ _ _ _ hi with e | e
    · cases e
    · exact h2 i v e
  · rcases fg_get _ _ _ _ hi with e | e
    · cases e
    · exact h3 i e
/-- at a method's entry -/
theorem a2l (ρ : Nat → Addr) (as : List Value) (mx : Nat) : argsToLocals (as.map (rv ρ)).toArray mx = (argsToLocals as.toArray mx).map (rs ρ) := by
  have key : ∀ (as : List Value) (acc : Array Slot), (as.map (rv ρ)).foldl (fun acc v => if v.category = 2 then (acc.push (.val v)).push .second else acc.push (.val v)) (acc.map (rs ρ)) = (as.foldl (fun acc v => if v.category = 2 then (acc.push (.val v)).push .second else acc.push (.val v)) acc).map (rs ρ) := by
    intro as
    induction as with
    | nil => intro acc; rfl
    | cons v t ih =>
      intro acc
      simp only [List.map_cons, List.foldl_cons, rv_cat]
      by_cases hv : v.category = 2
      · rw [if_pos hv, if_pos hv, ← ih]; simp [Array.map_push, rs]
      · rw [if_neg hv, if_neg hv, ← ih]; simp [Array.map_push, rs]
  have k0 := key as #[]
  simp only [Array.map_empty] at k0
  simp only [argsToLocals, List.foldl_toArray', List.size_toArray]
  simp only [k0, Array.map_append, Array.size_map, Array.map_replicate, rs]
theorem SR.entry (ρ : Nat → Addr) (as : List Value) (mx : Nat) {L : List Slot} (hL : (argsToLocals as.toArray mx).toList = L) (hw : wfL L = true) : SR ρ L (argsToLocals (as.map (rv ρ)).toArray mx) := by
  subst hL
  rw [a2l]
  have hW := WR.of_wfL _ hw
  generalize argsToLocals as.toArray mx = A at hW
  have g : ∀ i : Nat, (A.map (rs ρ))[i]? = (A.toList[i]?).map (rs ρ) := by intro i; simp
  refine ⟨by simp, fun i v hi => by rw [g, hi]; rfl, fun i hi => by rw [g, hi]; rfl, hW, ?_, ?_⟩
  · intro i v hi hv
    have hi' : (A.toList[i]?).map (rs ρ) = some (.val v) := by rw [← g]; exact hi
    cases hs : A.toList[i]? with
    | none => rw [hs] at hi'; cases hi'
    | some s =>
      rw [hs] at hi'
      cases s with
      | unset => cases hi'
      | second => cases hi'
      | val u =>
        cases hi'
        have := hW.1 i u hs (by rwa [rv_cat] at hv)
        show (A.map (rs ρ))[i + 1]? = _
        rw [g]
        have t : A.toList[i + 1]? = some .second := this
        rw [t]; rfl
  · intro i hi
    have hi' : (A.toList[i]?).map (rs ρ) = some .second := by rw [← g]; exact hi
    cases hs : A.toList[i]? with
    | none => rw [hs] at hi'; cases hi'
    | some s =>
      rw [hs] at hi'
      cases s with
      | unset => cases hi'
      | val u => cases hi'
      | second =>
        obtain ⟨j, v, e1, e2, e3⟩ := hW.2 i hs
        refine ⟨j, rv ρ v, e1, ?_, by rw [rv_cat]; exact e3⟩
        show (A.map (rs ρ))[j]? = _
        rw [g]
        have t : A.toList[j]? = some (.val v) := e2
        rw [t]; rfl
end Jvm.Own

namespace Jvm.Own
open Jvm Jvm.ClassFile Sem Op Lib Jvm.Free Jvm.Stand Jvm.LawKit Jvm.RoadKit
/-! ## 2. A method's data; what it means that a walk from a point of it comes to an end -/
/-- name, bytes, number of variables, what it returns, room, cells that it makes -/
abbrev MD : Type := MethodName × ByteArray × Nat × Option FieldType × Room × Nat
abbrev nmOf (md : MD) : MethodName := md.1
abbrev byOf (md : MD) : ByteArray := md.2.1
abbrev mxOf (md : MD) : Nat := md.2.2.1
abbrev rtOf (md : MD) : Option FieldType := md.2.2.2.1
abbrev rmOf (md : MD) : Room := md.2.2.2.2.1
abbrev exOf (md : MD) : Nat := md.2.2.2.2.2
/-- the class whose methods are walked; where the walk's references point; the first new address; what the heap holds; what a walk leaves alone -/
abbrev Mode (μ E : Type) : Type := String × (E → Nat → Addr) × (E → Nat) × (E → μ → Heap → Prop) × (E → Heap → Heap → Prop)
abbrev Mode.own {μ E : Type} (M : Mode μ E) : String := M.1
abbrev Mode.rho {μ E : Type} (M : Mode μ E) : E → Nat → Addr := M.2.1
abbrev Mode.lo {μ E : Type} (M : Mode μ E) : E → Nat := M.2.2.1
abbrev Mode.rel {μ E : Type} (M : Mode μ E) : E → μ → Heap → Prop := M.2.2.2.1
abbrev Mode.frm {μ E : Type} (M : Mode μ E) : E → Heap → Heap → Prop := M.2.2.2.2
def Kn (Z : State) (own : String) (md : MD) (p : Program) (s : State) (m : MethodId) (meth : Method) (c : Code) : Prop :=
  p.tables.exec = Jvm.exec ∧ Z.Warmed39 s.vm ∧ s.vm.findClass own = some m.cls ∧ meth.name = (nmOf md).name ∧ meth.sig.returnType = rtOf md ∧ meth.locks = false ∧ c.code = byOf md ∧ c.maxLocals = mxOf md
def Done {μ E : Type} (l : Launch) (M : Mode μ E) (md : MD) (Q : Option Value → μ → Prop) (en : E) (p : Program) (e : Env) (s : State) (m : MethodId) (args : Array Value) (below : List Frame) (meth : Method) (c : Code) (T : State) (g : JFrame) : Prop :=
  ∃ (T' : State) (locs' : List Loc) (su' : Nat) (v : Option Value) (w' : μ), Stand p l e (rmOf md) s m args below meth c T' locs' (exOf md) su' ∧ exOf md ≤ (rmOf md).cells ∧ su' ≤ (rmOf md).slots ∧ T'.heap.size = s.heap.size + exOf md ∧ Fr (M.lo en) locs' ∧ M.rel en w' T'.heap ∧ M.frm en T.heap T'.heap ∧
    (meth.sig.returnType = none → v = none) ∧ (∀ ρ x, v = some x → rv ρ x = x) ∧ Q v w' ∧
    ∀ fs, (∀ (f : JFrame) (acts : List Action), f.method = m → f.locked = none → f.entered = [] → (doReturn e (T'.setTop f) acts v).1 = T'.setFrames fs) → Steps p.tables e below (T.setTop g) (T'.setFrames fs)
/-- from the pc, with these variables and operands, over w, the walk returns with what Q says -/
def Wk {μ E : Type} (l : Launch) (Z : State) (M : Mode μ E) (md : MD) (pc : Nat) (L : List Slot) (S : List Value) (w : μ) (cu su : Nat) (Q : Option Value → μ → Prop) : Prop :=
  ∀ (en : E) (p : Program) (e : Env) (s : State) (m : MethodId) (args : Array Value) (below : List Frame) (meth : Method) (c : Code) (T : State) (locs : List Loc) (r : Array Slot),
    Stand p l e (rmOf md) s m args below meth c T locs cu su → Kn Z M.own md p s m meth c → T.heap.size = s.heap.size + cu → Fr (M.lo en) locs → M.rel en w T.heap → SR (M.rho en) L r →
    Done l M md Q en p e s m args below meth c T (mkF m pc r (S.map (rv (M.rho en))))
section Steps
variable {μ E : Type} {l : Launch} {Z : State} {M : Mode μ E} {md : MD} {pc pc' : Nat} {L L' : List Slot} {S : List Value} {w : μ} {cu su : Nat} {Q : Option Value → μ → Prop}
theorem Done.pre {en : E} {p : Program} {e : Env} {s : State} {m : MethodId} {args : Array Value} {below : List Frame} {meth : Method} {c : Code} {T T1 : State} {g g1 : JFrame} (h : Done l M md Q en p e s m args below meth c T1 g1) (hT : ∀ x, M.frm en T1.heap x → M.frm en T.heap x)
    (st : ∀ t, Steps p.tables e below (T1.setTop g1) t → Steps p.tables e below (T.setTop g) t) : Done l M md Q en p e s m args below meth c T g := by
  obtain ⟨T', locs', su', v, w', a1, a2, a3, a4, a5, a6, a7, a8, a9, a10, a11⟩ := h
  exact ⟨T', locs', su', v, w', a1, a2, a3, a4, a5, a6, hT _ a7, a8, a9, a10, fun fs hf => st _ (a11 fs hf)⟩
theorem Wk.mono {Q' : Option Value → μ → Prop} (h : Wk l Z M md pc L S w cu su Q) (hq : ∀ v w', Q v w' → Q' v w') : Wk l Z M md pc L S w cu su Q' := by
  intro en p e s m args below meth c T locs r X K hz hF hR hL
  obtain ⟨T', locs', su', v, w', a1, a2, a3, a4, a5, a6, a7, a8, a9, a10, a11⟩ := h en p e s m args below meth c T locs r X K hz hF hR hL
  exact ⟨T', locs', su', v, w', a1, a2, a3, a4, a5, a6, a7, a8, a9, hq _ _ a10, a11⟩
abbrev InsA (md : MD) (pc : Nat) (i : Instr) (n pc' : Nat) : Prop := decode (byOf md) pc = .ok (i, n) ∧ pc + n = pc'
abbrev InsB (md : MD) (pc : Nat) (i : Instr) (n pc' : Nat) (o : Int) (pt : Nat) : Prop := decode (byOf md) pc = .ok (i, n) ∧ pc + n = pc' ∧ 0 ≤ (pc : Int) + o ∧ ((pc : Int) + o).toNat = pt
theorem Kn.by {own : String} {p : Program} {s : State} {m : MethodId} {meth : Method} {c : Code} (K : Kn Z own md p s m meth c) : c.code = byOf md := K.2.2.2.2.2.2.1
theorem Wk.forget (b : List Bool) (hf : fg b L = L') (hw : wfL L' = true) (h : Wk l Z M md pc L' S w cu su Q) : Wk l Z M md pc L S w cu su Q :=
  fun en p e s m args below meth c T locs r X K hz hF hR hL => h en p e s m args below meth c T locs r X K hz hF hR (by subst hf; exact hL.forget b hw)
theorem Wk.iloadN {k : Fin 4} {v : Int32} (hd : InsA md pc (.iload_n k) 1 pc') (hl : L[k.val]? = some (.val (.int v))) (h : Wk l Z M md pc' L (.int v :: S) w cu su Q) : Wk l Z M md pc L (S) w cu su Q :=
  fun en p e s m args below meth c T locs r X K hz hF hR hL => by
  obtain ⟨hd, rfl⟩ := hd
  exact (h en p e s m args below meth c T locs r X K hz hF hR hL).pre (fun _ q => q) fun t k => XS.iloadN X.here K.1 rfl (hb K.by hd) (hL.get hl) k
theorem Wk.iload {k : Nat} {v : Int32} (hd : InsA md pc (.iload k) 2 pc') (hl : L[k]? = some (.val (.int v))) (h : Wk l Z M md pc' L (.int v :: S) w cu su Q) : Wk l Z M md pc L (S) w cu su Q :=
  fun en p e s m args below meth c T locs r X K hz hF hR hL => by
  obtain ⟨hd, rfl⟩ := hd
  exact (h en p e s m args below meth c T locs r X K hz hF hR hL).pre (fun _ q => q) fun t k => XS.iload X.here K.1 rfl (hb K.by hd) (hL.get hl) k
theorem Wk.lloadN {k : Fin 4} {v : Int64} (hd : InsA md pc (.lload_n k) 1 pc') (hl : L[k.val]? = some (.val (.long v))) (h : Wk l Z M md pc' L (.long v :: S) w cu su Q) : Wk l Z M md pc L (S) w cu su Q :=
  fun en p e s m args below meth c T locs r X K hz hF hR hL => by
  obtain ⟨hd, rfl⟩ := hd
  exact (h en p e s m args below meth c T locs r X K hz hF hR hL).pre (fun _ q => q) fun t k => XT.lloadN X.here K.1 rfl (hb K.by hd) (hL.get hl) k
theorem Wk.lload {k : Nat} {v : Int64} (hd : InsA md pc (.lload k) 2 pc') (hl : L[k]? = some (.val (.long v))) (h : Wk l Z M md pc' L (.long v :: S) w cu su Q) : Wk l Z M md pc L (S) w cu su Q :=
  fun en p e s m args below meth c T locs r X K hz hF hR hL => by
  obtain ⟨hd, rfl⟩ := hd
  exact (h en p e s m args below meth c T locs r X K hz hF hR hL).pre (fun _ q => q) fun t k => XT.lload X.here K.1 rfl (hb K.by hd) (hL.get hl) k
theorem Wk.aloadN {k : Fin 4} {v : Nat} (hd : InsA md pc (.aload_n k) 1 pc') (hl : L[k.val]? = some (.val (.ref v))) (h : Wk l Z M md pc' L (.ref v :: S) w cu su Q) : Wk l Z M md pc L (S) w cu su Q :=
  fun en p e s m args below meth c T locs r X K hz hF hR hL => by
  obtain ⟨hd, rfl⟩ := hd
  exact (h en p e s m args below meth c T locs r X K hz hF hR hL).pre (fun _ q => q) fun t k => XS.aloadN X.here K.1 rfl (hb K.by hd) (hL.get hl) rfl k
theorem Wk.aload {k : Nat} {v : Nat} (hd : InsA md pc (.aload k) 2 pc') (hl : L[k]? = some (.val (.ref v))) (h : Wk l Z M md pc' L (.ref v :: S) w cu su Q) : Wk l Z M md pc L (S) w cu su Q :=
  fun en p e s m args below meth c T locs r X K hz hF hR hL => by
  obtain ⟨hd, rfl⟩ := hd
  exact (h en p e s m args below meth c T locs r X K hz hF hR hL).pre (fun _ q => q) fun t k => XS.aload X.here K.1 rfl (hb K.by hd) (hL.get hl) rfl k
theorem Wk.iconst {i : Int} {z : Int32} (hd : InsA md pc (.iconst i) 1 pc') (hz' : Int32.ofInt i = z) (h : Wk l Z M md pc' L (.int z :: S) w cu su Q) : Wk l Z M md pc L (S) w cu su Q :=
  fun en p e s m args below meth c T locs r X K hz hF hR hL => by
  obtain ⟨hd, rfl⟩ := hd
  exact (h en p e s m args below meth c T locs r X K hz hF hR hL).pre (fun _ q => q) fun t k => XS.iconst X.here K.1 rfl (hb K.by hd) (by subst hz'; exact k)
theorem Wk.bipush {i : Int} {z : Int32} (hd : InsA md pc (.bipush i) 2 pc') (hz' : (Int8.ofInt i).toInt32 = z) (h : Wk l Z M md pc' L (.int z :: S) w cu su Q) : Wk l Z M md pc L (S) w cu su Q :=
  fun en p e s m args below meth c T locs r X K hz hF hR hL => by
  obtain ⟨hd, rfl⟩ := hd
  exact (h en p e s m args below meth c T locs r X K hz hF hR hL).pre (fun _ q => q) fun t k => XS.bipush X.here K.1 rfl (hb K.by hd) (by subst hz'; exact k)
theorem Wk.sipush {i : Int} {z : Int32} (hd : InsA md pc (.sipush i) 3 pc') (hz' : (Int16.ofInt i).toInt32 = z) (h : Wk l Z M md pc' L (.int z :: S) w cu su Q) : Wk l Z M md pc L (S) w cu su Q :=
  fun en p e s m args below meth c T locs r X K hz hF hR hL => by
  obtain ⟨hd, rfl⟩ := hd
  exact (h en p e s m args below meth c T locs r X K hz hF hR hL).pre (fun _ q => q) fun t k => XS.sipush X.here K.1 rfl (hb K.by hd) (by subst hz'; exact k)
theorem Wk.lconst {i : Fin 2} {z : Int64} (hd : InsA md pc (.lconst i) 1 pc') (hz' : Int64.ofNat i = z) (h : Wk l Z M md pc' L (.long z :: S) w cu su Q) : Wk l Z M md pc L (S) w cu su Q :=
  fun en p e s m args below meth c T locs r X K hz hF hR hL => by
  obtain ⟨hd, rfl⟩ := hd
  exact (h en p e s m args below meth c T locs r X K hz hF hR hL).pre (fun _ q => q) fun t k => XT.lconst X.here K.1 rfl (hb K.by hd) (by subst hz'; exact k)
theorem Wk.iadd {x y : Int32} (hd : InsA md pc (.iadd) 1 pc') (h : Wk l Z M md pc' L (.int (x + y) :: S) w cu su Q) : Wk l Z M md pc L (.int y :: .int x :: S) w cu su Q :=
  fun en p e s m args below meth c T locs r X K hz hF hR hL => by
  obtain ⟨hd, rfl⟩ := hd
  exact (h en p e s m args below meth c T locs r X K hz hF hR hL).pre (fun _ q => q) fun t k => XS.iadd X.here K.1 rfl (hb K.by hd) rfl k
theorem Wk.isub {x y : Int32} (hd : InsA md pc (.isub) 1 pc') (h : Wk l Z M md pc' L (.int (x - y) :: S) w cu su Q) : Wk l Z M md pc L (.int y :: .int x :: S) w cu su Q :=
  fun en p e s m args below meth c T locs r X K hz hF hR hL => by
  obtain ⟨hd, rfl⟩ := hd
  exact (h en p e s m args below meth c T locs r X K hz hF hR hL).pre (fun _ q => q) fun t k => XS.isub X.here K.1 rfl (hb K.by hd) rfl k
theorem Wk.imul {x y : Int32} (hd : InsA md pc (.imul) 1 pc') (h : Wk l Z M md pc' L (.int (x * y) :: S) w cu su Q) : Wk l Z M md pc L (.int y :: .int x :: S) w cu su Q :=
  fun en p e s m args below meth c T locs r X K hz hF hR hL => by
  obtain ⟨hd, rfl⟩ := hd
  exact (h en p e s m args below meth c T locs r X K hz hF hR hL).pre (fun _ q => q) fun t k => XS.imul X.here K.1 rfl (hb K.by hd) rfl k
theorem Wk.iand {x y : Int32} (hd : InsA md pc (.iand) 1 pc') (h : Wk l Z M md pc' L (.int (x &&& y) :: S) w cu su Q) : Wk l Z M md pc L (.int y :: .int x :: S) w cu su Q :=
  fun en p e s m args below meth c T locs r X K hz hF hR hL => by
  obtain ⟨hd, rfl⟩ := hd
  exact (h en p e s m args below meth c T locs r X K hz hF hR hL).pre (fun _ q => q) fun t k => XS.iand X.here K.1 rfl (hb K.by hd) rfl k
theorem Wk.ior {x y : Int32} (hd : InsA md pc (.ior) 1 pc') (h : Wk l Z M md pc' L (.int (x ||| y) :: S) w cu su Q) : Wk l Z M md pc L (.int y :: .int x :: S) w cu su Q :=
  fun en p e s m args below meth c T locs r X K hz hF hR hL => by
  obtain ⟨hd, rfl⟩ := hd
  exact (h en p e s m args below meth c T locs r X K hz hF hR hL).pre (fun _ q => q) fun t k => XT.ior X.here K.1 rfl (hb K.by hd) rfl k
theorem Wk.ixor {x y : Int32} (hd : InsA md pc (.ixor) 1 pc') (h : Wk l Z M md pc' L (.int (x ^^^ y) :: S) w cu su Q) : Wk l Z M md pc L (.int y :: .int x :: S) w cu su Q :=
  fun en p e s m args below meth c T locs r X K hz hF hR hL => by
  obtain ⟨hd, rfl⟩ := hd
  exact (h en p e s m args below meth c T locs r X K hz hF hR hL).pre (fun _ q => q) fun t k => XT.ixor X.here K.1 rfl (hb K.by hd) rfl k
theorem Wk.ishl {x y : Int32} (hd : InsA md pc (.ishl) 1 pc') (h : Wk l Z M md pc' L (.int (x <<< (y &&& 31)) :: S) w cu su Q) : Wk l Z M md pc L (.int y :: .int x :: S) w cu su Q :=
  fun en p e s m args below meth c T locs r X K hz hF hR hL => by
  obtain ⟨hd, rfl⟩ := hd
  exact (h en p e s m args below meth c T locs r X K hz hF hR hL).pre (fun _ q => q) fun t k => XT.ishl X.here K.1 rfl (hb K.by hd) rfl k
theorem Wk.ishr {x y : Int32} (hd : InsA md pc (.ishr) 1 pc') (h : Wk l Z M md pc' L (.int (x >>> (y &&& 31)) :: S) w cu su Q) : Wk l Z M md pc L (.int y :: .int x :: S) w cu su Q :=
  fun en p e s m args below meth c T locs r X K hz hF hR hL => by
  obtain ⟨hd, rfl⟩ := hd
  exact (h en p e s m args below meth c T locs r X K hz hF hR hL).pre (fun _ q => q) fun t k => XT.ishr X.here K.1 rfl (hb K.by hd) rfl k
theorem Wk.iushr {x y : Int32} (hd : InsA md pc (.iushr) 1 pc') (h : Wk l Z M md pc' L (.int (XT.ushr x y) :: S) w cu su Q) : Wk l Z M md pc L (.int y :: .int x :: S) w cu su Q :=
  fun en p e s m args below meth c T locs r X K hz hF hR hL => by
  obtain ⟨hd, rfl⟩ := hd
  exact (h en p e s m args below meth c T locs r X K hz hF hR hL).pre (fun _ q => q) fun t k => XT.iushr X.here K.1 rfl (hb K.by hd) rfl k
theorem Wk.ineg {x : Int32} (hd : InsA md pc (.ineg) 1 pc') (h : Wk l Z M md pc' L (.int (-x) :: S) w cu su Q) : Wk l Z M md pc L (.int x :: S) w cu su Q :=
  fun en p e s m args below meth c T locs r X K hz hF hR hL => by
  obtain ⟨hd, rfl⟩ := hd
  exact (h en p e s m args below meth c T locs r X K hz hF hR hL).pre (fun _ q => q) fun t k => XS.ineg X.here K.1 rfl (hb K.by hd) rfl k
theorem Wk.idiv {x y : Int32} (hd : InsA md pc (.idiv) 1 pc') (hy : y ≠ 0) (h : Wk l Z M md pc' L (.int (x / y) :: S) w cu su Q) : Wk l Z M md pc L (.int y :: .int x :: S) w cu su Q :=
  fun en p e s m args below meth c T locs r X K hz hF hR hL => by
  obtain ⟨hd, rfl⟩ := hd
  exact (h en p e s m args below meth c T locs r X K hz hF hR hL).pre (fun _ q => q) fun t k => XS.idiv X.here K.1 rfl (hb K.by hd) rfl hy k
theorem Wk.irem {x y : Int32} (hd : InsA md pc (.irem) 1 pc') (hy : y ≠ 0) (h : Wk l Z M md pc' L (.int (x % y) :: S) w cu su Q) : Wk l Z M md pc L (.int y :: .int x :: S) w cu su Q :=
  fun en p e s m args below meth c T locs r X K hz hF hR hL => by
  obtain ⟨hd, rfl⟩ := hd
  exact (h en p e s m args below meth c T locs r X K hz hF hR hL).pre (fun _ q => q) fun t k => Jvm.RoadKit.iremM X K.1 rfl (hb K.by hd) rfl hy k
theorem Wk.ladd {x y : Int64} (hd : InsA md pc (.ladd) 1 pc') (h : Wk l Z M md pc' L (.long (x + y) :: S) w cu su Q) : Wk l Z M md pc L (.long y :: .long x :: S) w cu su Q :=
  fun en p e s m args below meth c T locs r X K hz hF hR hL => by
  obtain ⟨hd, rfl⟩ := hd
  exact (h en p e s m args below meth c T locs r X K hz hF hR hL).pre (fun _ q => q) fun t k => XT.ladd X.here K.1 rfl (hb K.by hd) rfl k
theorem Wk.lsub {x y : Int64} (hd : InsA md pc (.lsub) 1 pc') (h : Wk l Z M md pc' L (.long (x - y) :: S) w cu su Q) : Wk l Z M md pc L (.long y :: .long x :: S) w cu su Q :=
  fun en p e s m args below meth c T locs r X K hz hF hR hL => by
  obtain ⟨hd, rfl⟩ := hd
  exact (h en p e s m args below meth c T locs r X K hz hF hR hL).pre (fun _ q => q) fun t k => XT.lsub X.here K.1 rfl (hb K.by hd) rfl k
theorem Wk.lmul {x y : Int64} (hd : InsA md pc (.lmul) 1 pc') (h : Wk l Z M md pc' L (.long (x * y) :: S) w cu su Q) : Wk l Z M md pc L (.long y :: .long x :: S) w cu su Q :=
  fun en p e s m args below meth c T locs r X K hz hF hR hL => by
  obtain ⟨hd, rfl⟩ := hd
  exact (h en p e s m args below meth c T locs r X K hz hF hR hL).pre (fun _ q => q) fun t k => XT.lmul X.here K.1 rfl (hb K.by hd) rfl k
theorem Wk.land {x y : Int64} (hd : InsA md pc (.land) 1 pc') (h : Wk l Z M md pc' L (.long (x &&& y) :: S) w cu su Q) : Wk l Z M md pc L (.long y :: .long x :: S) w cu su Q :=
  fun en p e s m args below meth c T locs r X K hz hF hR hL => by
  obtain ⟨hd, rfl⟩ := hd
  exact (h en p e s m args below meth c T locs r X K hz hF hR hL).pre (fun _ q => q) fun t k => XT.land X.here K.1 rfl (hb K.by hd) rfl k
theorem Wk.lor {x y : Int64} (hd : InsA md pc (.lor) 1 pc') (h : Wk l Z M md pc' L (.long (x ||| y) :: S) w cu su Q) : Wk l Z M md pc L (.long y :: .long x :: S) w cu su Q :=
  fun en p e s m args below meth c T locs r X K hz hF hR hL => by
  obtain ⟨hd, rfl⟩ := hd
  exact (h en p e s m args below meth c T locs r X K hz hF hR hL).pre (fun _ q => q) fun t k => XT.lor X.here K.1 rfl (hb K.by hd) rfl k
theorem Wk.lxor {x y : Int64} (hd : InsA md pc (.lxor) 1 pc') (h : Wk l Z M md pc' L (.long (x ^^^ y) :: S) w cu su Q) : Wk l Z M md pc L (.long y :: .long x :: S) w cu su Q :=
  fun en p e s m args below meth c T locs r X K hz hF hR hL => by
  obtain ⟨hd, rfl⟩ := hd
  exact (h en p e s m args below meth c T locs r X K hz hF hR hL).pre (fun _ q => q) fun t k => XT.lxor X.here K.1 rfl (hb K.by hd) rfl k
theorem Wk.ldiv {x y : Int64} (hd : InsA md pc (.ldiv) 1 pc') (hy : y ≠ 0) (h : Wk l Z M md pc' L (.long (x / y) :: S) w cu su Q) : Wk l Z M md pc L (.long y :: .long x :: S) w cu su Q :=
  fun en p e s m args below meth c T locs r X K hz hF hR hL => by
  obtain ⟨hd, rfl⟩ := hd
  exact (h en p e s m args below meth c T locs r X K hz hF hR hL).pre (fun _ q => q) fun t k => XT.ldiv X.here K.1 rfl (hb K.by hd) rfl hy k
theorem Wk.lrem {x y : Int64} (hd : InsA md pc (.lrem) 1 pc') (hy : y ≠ 0) (h : Wk l Z M md pc' L (.long (x - (x / y) * y) :: S) w cu su Q) : Wk l Z M md pc L (.long y :: .long x :: S) w cu su Q :=
  fun en p e s m args below meth c T locs r X K hz hF hR hL => by
  obtain ⟨hd, rfl⟩ := hd
  exact (h en p e s m args below meth c T locs r X K hz hF hR hL).pre (fun _ q => q) fun t k => XT.lrem X.here K.1 rfl (hb K.by hd) rfl hy k
theorem Wk.lshl {x : Int64} {y : Int32} (hd : InsA md pc (.lshl) 1 pc') (h : Wk l Z M md pc' L (.long (x <<< (y.toInt64 &&& 63)) :: S) w cu su Q) : Wk l Z M md pc L (.int y :: .long x :: S) w cu su Q :=
  fun en p e s m args below meth c T locs r X K hz hF hR hL => by
  obtain ⟨hd, rfl⟩ := hd
  exact (h en p e s m args below meth c T locs r X K hz hF hR hL).pre (fun _ q => q) fun t k => XT.lshl X.here K.1 rfl (hb K.by hd) rfl k
theorem Wk.lshr {x : Int64} {y : Int32} (hd : InsA md pc (.lshr) 1 pc') (h : Wk l Z M md pc' L (.long (x >>> (y.toInt64 &&& 63)) :: S) w cu su Q) : Wk l Z M md pc L (.int y :: .long x :: S) w cu su Q :=
  fun en p e s m args below meth c T locs r X K hz hF hR hL => by
  obtain ⟨hd, rfl⟩ := hd
  exact (h en p e s m args below meth c T locs r X K hz hF hR hL).pre (fun _ q => q) fun t k => XT.lshr X.here K.1 rfl (hb K.by hd) rfl k
theorem Wk.lushr {x : Int64} {y : Int32} (hd : InsA md pc (.lushr) 1 pc') (h : Wk l Z M md pc' L (.long (XT.ushrL x y) :: S) w cu su Q) : Wk l Z M md pc L (.int y :: .long x :: S) w cu su Q :=
  fun en p e s m args below meth c T locs r X K hz hF hR hL => by
  obtain ⟨hd, rfl⟩ := hd
  exact (h en p e s m args below meth c T locs r X K hz hF hR hL).pre (fun _ q => q) fun t k => XT.lushr X.here K.1 rfl (hb K.by hd) rfl k
theorem Wk.i2l {x : Int32} (hd : InsA md pc (.i2l) 1 pc') (h : Wk l Z M md pc' L (.long x.toInt64 :: S) w cu su Q) : Wk l Z M md pc L (.int x :: S) w cu su Q :=
  fun en p e s m args below meth c T locs r X K hz hF hR hL => by
  obtain ⟨hd, rfl⟩ := hd
  exact (h en p e s m args below meth c T locs r X K hz hF hR hL).pre (fun _ q => q) fun t k => XT.i2l X.here K.1 rfl (hb K.by hd) rfl k
theorem Wk.l2i {x : Int64} (hd : InsA md pc (.l2i) 1 pc') (h : Wk l Z M md pc' L (.int x.toInt32 :: S) w cu su Q) : Wk l Z M md pc L (.long x :: S) w cu su Q :=
  fun en p e s m args below meth c T locs r X K hz hF hR hL => by
  obtain ⟨hd, rfl⟩ := hd
  exact (h en p e s m args below meth c T locs r X K hz hF hR hL).pre (fun _ q => q) fun t k => XT.l2i X.here K.1 rfl (hb K.by hd) rfl k
theorem Wk.lcmp {x y : Int64} (hd : InsA md pc (.lcmp) 1 pc') (h : Wk l Z M md pc' L (.int (XT.cmpL x y) :: S) w cu su Q) : Wk l Z M md pc L (.long y :: .long x :: S) w cu su Q :=
  fun en p e s m args below meth c T locs r X K hz hF hR hL => by
  obtain ⟨hd, rfl⟩ := hd
  exact (h en p e s m args below meth c T locs r X K hz hF hR hL).pre (fun _ q => q) fun t k => XT.lcmp X.here K.1 rfl (hb K.by hd) rfl k
theorem Wk.dup {v : Value} (hd : InsA md pc (.dup) 1 pc') (hv : v.category = 1) (h : Wk l Z M md pc' L (v :: v :: S) w cu su Q) : Wk l Z M md pc L (v :: S) w cu su Q :=
  fun en p e s m args below meth c T locs r X K hz hF hR hL => by
  obtain ⟨hd, rfl⟩ := hd
  exact (h en p e s m args below meth c T locs r X K hz hF hR hL).pre (fun _ q => q) fun t k => XS.dup X.here K.1 rfl (hb K.by hd) rfl (by rw [rv_cat]; exact hv) k
theorem Wk.pop {v : Value} (hd : InsA md pc (.pop) 1 pc') (hv : v.category = 1) (h : Wk l Z M md pc' L (S) w cu su Q) : Wk l Z M md pc L (v :: S) w cu su Q :=
  fun en p e s m args below meth c T locs r X K hz hF hR hL => by
  obtain ⟨hd, rfl⟩ := hd
  exact (h en p e s m args below meth c T locs r X K hz hF hR hL).pre (fun _ q => q) fun t k => XT.pop X.here K.1 rfl (hb K.by hd) rfl (by rw [rv_cat]; exact hv) k
theorem Wk.dup2 {v u : Value} (hd : InsA md pc (.dup2) 1 pc') (hv : v.category = 1) (hu : u.category = 1) (h : Wk l Z M md pc' L (v :: u :: v :: u :: S) w cu su Q) : Wk l Z M md pc L (v :: u :: S) w cu su Q :=
  fun en p e s m args below meth c T locs r X K hz hF hR hL => by
  obtain ⟨hd, rfl⟩ := hd
  exact (h en p e s m args below meth c T locs r X K hz hF hR hL).pre (fun _ q => q) fun t k => XT.dup2 X.here K.1 rfl (hb K.by hd) rfl (by rw [rv_cat]; exact hv) (by rw [rv_cat]; exact hu) k
theorem Wk.dupX1 {v u : Value} (hd : InsA md pc (.dup_x1) 1 pc') (hv : v.category = 1) (hu : u.category = 1) (h : Wk l Z M md pc' L (v :: u :: v :: S) w cu su Q) : Wk l Z M md pc L (v :: u :: S) w cu su Q :=
  fun en p e s m args below meth c T locs r X K hz hF hR hL => by
  obtain ⟨hd, rfl⟩ := hd
  exact (h en p e s m args below meth c T locs r X K hz hF hR hL).pre (fun _ q => q) fun t k => XT.dupX1 X.here K.1 rfl (hb K.by hd) rfl (by rw [rv_cat]; exact hv) (by rw [rv_cat]; exact hu) k
theorem Wk.istoreN {k : Fin 4} {x : Int32} (hd : InsA md pc (.istore_n k) 1 pc') (ho : C1 L[k.val]?) (hl : L.set k.val (.val (.int x)) = L') (h : Wk l Z M md pc' L' S w cu su Q) : Wk l Z M md pc L (.int x :: S) w cu su Q :=
  fun en p e s m args below meth c T locs r X K hz hF hR hL => by
  obtain ⟨hd, rfl⟩ := hd
  obtain ⟨r', e1, hL2⟩ := hL.st1 (v := .int x) ho rfl
  subst hl
  exact (h en p e s m args below meth c T locs r' X K hz hF hR hL2).pre (fun _ q => q) fun t k => XS.istoreN X.here K.1 rfl (hb K.by hd) rfl e1 k
theorem Wk.istore {k : Nat} {x : Int32} (hd : InsA md pc (.istore k) 2 pc') (ho : C1 L[k]?) (hl : L.set k (.val (.int x)) = L') (h : Wk l Z M md pc' L' S w cu su Q) : Wk l Z M md pc L (.int x :: S) w cu su Q :=
  fun en p e s m args below meth c T locs r X K hz hF hR hL => by
  obtain ⟨hd, rfl⟩ := hd
  obtain ⟨r', e1, hL2⟩ := hL.st1 (v := .int x) ho rfl
  subst hl
  exact (h en p e s m args below meth c T locs r' X K hz hF hR hL2).pre (fun _ q => q) fun t k => XS.istore X.here K.1 rfl (hb K.by hd) rfl e1 k
theorem Wk.astoreN {k : Fin 4} {x : Nat} (hd : InsA md pc (.astore_n k) 1 pc') (ho : C1 L[k.val]?) (hl : L.set k.val (.val (.ref x)) = L') (h : Wk l Z M md pc' L' S w cu su Q) : Wk l Z M md pc L (.ref x :: S) w cu su Q :=
  fun en p e s m args below meth c T locs r X K hz hF hR hL => by
  obtain ⟨hd, rfl⟩ := hd
  obtain ⟨r', e1, hL2⟩ := hL.st1 (v := .ref x) ho rfl
  subst hl
  exact (h en p e s m args below meth c T locs r' X K hz hF hR hL2).pre (fun _ q => q) fun t k => XS.astoreN X.here K.1 rfl (hb K.by hd) rfl rfl e1 k
theorem Wk.astore {k : Nat} {x : Nat} (hd : InsA md pc (.astore k) 2 pc') (ho : C1 L[k]?) (hl : L.set k (.val (.ref x)) = L') (h : Wk l Z M md pc' L' S w cu su Q) : Wk l Z M md pc L (.ref x :: S) w cu su Q :=
  fun en p e s m args below meth c T locs r X K hz hF hR hL => by
  obtain ⟨hd, rfl⟩ := hd
  obtain ⟨r', e1, hL2⟩ := hL.st1 (v := .ref x) ho rfl
  subst hl
  exact (h en p e s m args below meth c T locs r' X K hz hF hR hL2).pre (fun _ q => q) fun t k => XS.astore X.here K.1 rfl (hb K.by hd) rfl rfl e1 k
theorem Wk.lstoreN {k : Fin 4} {x : Int64} (hd : InsA md pc (.lstore_n k) 1 pc') (ho : C1 L[k.val]?) (ho2 : C1 L[k.val + 1]?) (hl : (L.set k.val (.val (.long x))).set (k.val + 1) .second = L') (h : Wk l Z M md pc' L' S w cu su Q) : Wk l Z M md pc L (.long x :: S) w cu su Q :=
  fun en p e s m args below meth c T locs r X K hz hF hR hL => by
  obtain ⟨hd, rfl⟩ := hd
  obtain ⟨r', e1, hL2⟩ := hL.st2 (v := .long x) ho ho2 rfl
  subst hl
  exact (h en p e s m args below meth c T locs r' X K hz hF hR hL2).pre (fun _ q => q) fun t k => XT.lstoreN X.here K.1 rfl (hb K.by hd) rfl e1 k
theorem Wk.lstore {k : Nat} {x : Int64} (hd : InsA md pc (.lstore k) 2 pc') (ho : C1 L[k]?) (ho2 : C1 L[k + 1]?) (hl : (L.set k (.val (.long x))).set (k + 1) .second = L') (h : Wk l Z M md pc' L' S w cu su Q) : Wk l Z M md pc L (.long x :: S) w cu su Q :=
  fun en p e s m args below meth c T locs r X K hz hF hR hL => by
  obtain ⟨hd, rfl⟩ := hd
  obtain ⟨r', e1, hL2⟩ := hL.st2 (v := .long x) ho ho2 rfl
  subst hl
  exact (h en p e s m args below meth c T locs r' X K hz hF hR hL2).pre (fun _ q => q) fun t k => XT.lstore X.here K.1 rfl (hb K.by hd) rfl e1 k
theorem Wk.iinc {k : Nat} {cst : Int} {x z : Int32} (hd : InsA md pc (.iinc k cst) 3 pc') (hv : L[k]? = some (.val (.int x))) (hz' : x + Int32.ofInt cst = z) (hl : L.set k (.val (.int z)) = L') (h : Wk l Z M md pc' L' S w cu su Q) : Wk l Z M md pc L S w cu su Q :=
  fun en p e s m args below meth c T locs r X K hz hF hR hL => by
  obtain ⟨hd, rfl⟩ := hd
  obtain ⟨r', e1, hL2⟩ := hL.st1 (i := k) (v := .int z) (Or.inr ⟨_, hv, rfl⟩) rfl
  subst hl hz'
  exact (h en p e s m args below meth c T locs r' X K hz hF hR hL2).pre (fun _ q => q) fun t k => XS.iinc X.here K.1 rfl (hb K.by hd) (hL.get hv) e1 k
theorem Wk.goto {o : Int} {pt : Nat} (hd : InsB md pc (.goto o) 3 pc' o pt) (h : Wk l Z M md pt L S w cu su Q) : Wk l Z M md pc L S w cu su Q :=
  fun en p e s m args below meth c T locs r X K hz hF hR hL => by
  obtain ⟨hd, rfl, h3, h4⟩ := hd
  exact (h en p e s m args below meth c T locs r X K hz hF hR hL).pre (fun _ q => q) fun t k => XS.goto X.here K.1 rfl rfl (hb K.by hd) h3 h4 k
theorem Wk.icmp_lt {x y : Int32} {o : Int} {pt : Nat} (hd : InsB md pc (.if_icmp .lt o) 3 pc' o pt) (h1 : x < y → Wk l Z M md pt L S w cu su Q) (h2 : ¬ x < y → Wk l Z M md pc' L S w cu su Q) : Wk l Z M md pc L (.int y :: .int x :: S) w cu su Q :=
  fun en p e s m args below meth c T locs r X K hz hF hR hL => by
  obtain ⟨hd, rfl, h3, h4⟩ := hd
  by_cases q : x < y
  · exact (h1 q en p e s m args below meth c T locs r X K hz hF hR hL).pre (fun _ q => q) fun t k => XS.icmpYes X.here K.1 rfl rfl (hb K.by hd) rfl (tlt q).1 h3 h4 k
  · exact (h2 q en p e s m args below meth c T locs r X K hz hF hR hL).pre (fun _ q => q) fun t k => XS.icmpNo X.here K.1 rfl (hb K.by hd) rfl (flt q).1 k
theorem Wk.if_lt {x : Int32} {o : Int} {pt : Nat} (hd : InsB md pc (.ifCond .lt o) 3 pc' o pt) (h1 : x < 0 → Wk l Z M md pt L S w cu su Q) (h2 : ¬ x < 0 → Wk l Z M md pc' L S w cu su Q) : Wk l Z M md pc L (.int x :: S) w cu su Q :=
  fun en p e s m args below meth c T locs r X K hz hF hR hL => by
  obtain ⟨hd, rfl, h3, h4⟩ := hd
  by_cases q : x < 0
  · exact (h1 q en p e s m args below meth c T locs r X K hz hF hR hL).pre (fun _ q => q) fun t k => XS.ifYes X.here K.1 rfl rfl (hb K.by hd) rfl ((if0 _ _).trans (tlt q).1) h3 h4 k
  · exact (h2 q en p e s m args below meth c T locs r X K hz hF hR hL).pre (fun _ q => q) fun t k => XS.ifNo X.here K.1 rfl (hb K.by hd) rfl ((if0 _ _).trans (flt q).1) k
theorem Wk.icmp_ge {x y : Int32} {o : Int} {pt : Nat} (hd : InsB md pc (.if_icmp .ge o) 3 pc' o pt) (h1 : ¬ x < y → Wk l Z M md pt L S w cu su Q) (h2 : x < y → Wk l Z M md pc' L S w cu su Q) : Wk l Z M md pc L (.int y :: .int x :: S) w cu su Q :=
  fun en p e s m args below meth c T locs r X K hz hF hR hL => by
  obtain ⟨hd, rfl, h3, h4⟩ := hd
  by_cases q : x < y
  · exact (h2 q en p e s m args below meth c T locs r X K hz hF hR hL).pre (fun _ q => q) fun t k => XS.icmpNo X.here K.1 rfl (hb K.by hd) rfl (tlt q).2.1 k
  · exact (h1 q en p e s m args below meth c T locs r X K hz hF hR hL).pre (fun _ q => q) fun t k => XS.icmpYes X.here K.1 rfl rfl (hb K.by hd) rfl (flt q).2.1 h3 h4 k
theorem Wk.if_ge {x : Int32} {o : Int} {pt : Nat} (hd : InsB md pc (.ifCond .ge o) 3 pc' o pt) (h1 : ¬ x < 0 → Wk l Z M md pt L S w cu su Q) (h2 : x < 0 → Wk l Z M md pc' L S w cu su Q) : Wk l Z M md pc L (.int x :: S) w cu su Q :=
  fun en p e s m args below meth c T locs r X K hz hF hR hL => by
  obtain ⟨hd, rfl, h3, h4⟩ := hd
  by_cases q : x < 0
  · exact (h2 q en p e s m args below meth c T locs r X K hz hF hR hL).pre (fun _ q => q) fun t k => XS.ifNo X.here K.1 rfl (hb K.by hd) rfl ((if0 _ _).trans (tlt q).2.1) k
  · exact (h1 q en p e s m args below meth c T locs r X K hz hF hR hL).pre (fun _ q => q) fun t k => XS.ifYes X.here K.1 rfl rfl (hb K.by hd) rfl ((if0 _ _).trans (flt q).2.1) h3 h4 k
theorem Wk.icmp_gt {x y : Int32} {o : Int} {pt : Nat} (hd : InsB md pc (.if_icmp .gt o) 3 pc' o pt) (h1 : y < x → Wk l Z M md pt L S w cu su Q) (h2 : ¬ y < x → Wk l Z M md pc' L S w cu su Q) : Wk l Z M md pc L (.int y :: .int x :: S) w cu su Q :=
  fun en p e s m args below meth c T locs r X K hz hF hR hL => by
  obtain ⟨hd, rfl, h3, h4⟩ := hd
  by_cases q : y < x
  · exact (h1 q en p e s m args below meth c T locs r X K hz hF hR hL).pre (fun _ q => q) fun t k => XS.icmpYes X.here K.1 rfl rfl (hb K.by hd) rfl (tlt q).2.2.1 h3 h4 k
  · exact (h2 q en p e s m args below meth c T locs r X K hz hF hR hL).pre (fun _ q => q) fun t k => XS.icmpNo X.here K.1 rfl (hb K.by hd) rfl (flt q).2.2.1 k
theorem Wk.if_gt {x : Int32} {o : Int} {pt : Nat} (hd : InsB md pc (.ifCond .gt o) 3 pc' o pt) (h1 : 0 < x → Wk l Z M md pt L S w cu su Q) (h2 : ¬ 0 < x → Wk l Z M md pc' L S w cu su Q) : Wk l Z M md pc L (.int x :: S) w cu su Q :=
  fun en p e s m args below meth c T locs r X K hz hF hR hL => by
  obtain ⟨hd, rfl, h3, h4⟩ := hd
  by_cases q : 0 < x
  · exact (h1 q en p e s m args below meth c T locs r X K hz hF hR hL).pre (fun _ q => q) fun t k => XS.ifYes X.here K.1 rfl rfl (hb K.by hd) rfl ((if0 _ _).trans (tlt q).2.2.1) h3 h4 k
  · exact (h2 q en p e s m args below meth c T locs r X K hz hF hR hL).pre (fun _ q => q) fun t k => XS.ifNo X.here K.1 rfl (hb K.by hd) rfl ((if0 _ _).trans (flt q).2.2.1) k
theorem Wk.icmp_le {x y : Int32} {o : Int} {pt : Nat} (hd : InsB md pc (.if_icmp .le o) 3 pc' o pt) (h1 : ¬ y < x → Wk l Z M md pt L S w cu su Q) (h2 : y < x → Wk l Z M md pc' L S w cu su Q) : Wk l Z M md pc L (.int y :: .int x :: S) w cu su Q :=
  fun en p e s m args below meth c T locs r X K hz hF hR hL => by
  obtain ⟨hd, rfl, h3, h4⟩ := hd
  by_cases q : y < x
  · exact (h2 q en p e s m args below meth c T locs r X K hz hF hR hL).pre (fun _ q => q) fun t k => XS.icmpNo X.here K.1 rfl (hb K.by hd) rfl (tlt q).2.2.2 k
  · exact (h1 q en p e s m args below meth c T locs r X K hz hF hR hL).pre (fun _ q => q) fun t k => XS.icmpYes X.here K.1 rfl rfl (hb K.by hd) rfl (flt q).2.2.2 h3 h4 k
theorem Wk.if_le {x : Int32} {o : Int} {pt : Nat} (hd : InsB md pc (.ifCond .le o) 3 pc' o pt) (h1 : ¬ 0 < x → Wk l Z M md pt L S w cu su Q) (h2 : 0 < x → Wk l Z M md pc' L S w cu su Q) : Wk l Z M md pc L (.int x :: S) w cu su Q :=
  fun en p e s m args below meth c T locs r X K hz hF hR hL => by
  obtain ⟨hd, rfl, h3, h4⟩ := hd
  by_cases q : 0 < x
  · exact (h2 q en p e s m args below meth c T locs r X K hz hF hR hL).pre (fun _ q => q) fun t k => XS.ifNo X.here K.1 rfl (hb K.by hd) rfl ((if0 _ _).trans (tlt q).2.2.2) k
  · exact (h1 q en p e s m args below meth c T locs r X K hz hF hR hL).pre (fun _ q => q) fun t k => XS.ifYes X.here K.1 rfl rfl (hb K.by hd) rfl ((if0 _ _).trans (flt q).2.2.2) h3 h4 k
theorem Wk.icmp_eq {x y : Int32} {o : Int} {pt : Nat} (hd : InsB md pc (.if_icmp .eq o) 3 pc' o pt) (h1 : x = y → Wk l Z M md pt L S w cu su Q) (h2 : ¬ x = y → Wk l Z M md pc' L S w cu su Q) : Wk l Z M md pc L (.int y :: .int x :: S) w cu su Q :=
  fun en p e s m args below meth c T locs r X K hz hF hR hL => by
  obtain ⟨hd, rfl, h3, h4⟩ := hd
  by_cases q : x = y
  · exact (h1 q en p e s m args below meth c T locs r X K hz hF hR hL).pre (fun _ q => q) fun t k => XS.icmpYes X.here K.1 rfl rfl (hb K.by hd) rfl (teq q).1 h3 h4 k
  · exact (h2 q en p e s m args below meth c T locs r X K hz hF hR hL).pre (fun _ q => q) fun t k => XS.icmpNo X.here K.1 rfl (hb K.by hd) rfl (feq q).1 k
theorem Wk.if_eq {x : Int32} {o : Int} {pt : Nat} (hd : InsB md pc (.ifCond .eq o) 3 pc' o pt) (h1 : x = 0 → Wk l Z M md pt L S w cu su Q) (h2 : ¬ x = 0 → Wk l Z M md pc' L S w cu su Q) : Wk l Z M md pc L (.int x :: S) w cu su Q :=
  fun en p e s m args below meth c T locs r X K hz hF hR hL => by
  obtain ⟨hd, rfl, h3, h4⟩ := hd
  by_cases q : x = 0
  · exact (h1 q en p e s m args below meth c T locs r X K hz hF hR hL).pre (fun _ q => q) fun t k => XS.ifYes X.here K.1 rfl rfl (hb K.by hd) rfl ((if0 _ _).trans (teq q).1) h3 h4 k
  · exact (h2 q en p e s m args below meth c T locs r X K hz hF hR hL).pre (fun _ q => q) fun t k => XS.ifNo X.here K.1 rfl (hb K.by hd) rfl ((if0 _ _).trans (feq q).1) k
theorem Wk.icmp_ne {x y : Int32} {o : Int} {pt : Nat} (hd : InsB md pc (.if_icmp .ne o) 3 pc' o pt) (h1 : ¬ x = y → Wk l Z M md pt L S w cu su Q) (h2 : x = y → Wk l Z M md pc' L S w cu su Q) : Wk l Z M md pc L (.int y :: .int x :: S) w cu su Q :=
  fun en p e s m args below meth c T locs r X K hz hF hR hL => by
  obtain ⟨hd, rfl, h3, h4⟩ := hd
  by_cases q : x = y
  · exact (h2 q en p e s m args below meth c T locs r X K hz hF hR hL).pre (fun _ q => q) fun t k => XS.icmpNo X.here K.1 rfl (hb K.by hd) rfl (teq q).2 k
  · exact (h1 q en p e s m args below meth c T locs r X K hz hF hR hL).pre (fun _ q => q) fun t k => XS.icmpYes X.here K.1 rfl rfl (hb K.by hd) rfl (feq q).2 h3 h4 k
theorem Wk.if_ne {x : Int32} {o : Int} {pt : Nat} (hd : InsB md pc (.ifCond .ne o) 3 pc' o pt) (h1 : ¬ x = 0 → Wk l Z M md pt L S w cu su Q) (h2 : x = 0 → Wk l Z M md pc' L S w cu su Q) : Wk l Z M md pc L (.int x :: S) w cu su Q :=
  fun en p e s m args below meth c T locs r X K hz hF hR hL => by
  obtain ⟨hd, rfl, h3, h4⟩ := hd
  by_cases q : x = 0
  · exact (h2 q en p e s m args below meth c T locs r X K hz hF hR hL).pre (fun _ q => q) fun t k => XS.ifNo X.here K.1 rfl (hb K.by hd) rfl ((if0 _ _).trans (teq q).2) k
  · exact (h1 q en p e s m args below meth c T locs r X K hz hF hR hL).pre (fun _ q => q) fun t k => XS.ifYes X.here K.1 rfl rfl (hb K.by hd) rfl ((if0 _ _).trans (feq q).2) h3 h4 k
theorem Wk.tswIn {dflt low high o : Int} {offs : Array Int} {len pt : Nat} {x z : Int32} (hd : InsB md pc (.tableswitch dflt low high offs) len pc' o pt) (hx : x = z) (hin : ¬ (z.toInt < low ∨ z.toInt > high)) (hoff : offs[(z.toInt - low).toNat]? = some o) (h : Wk l Z M md pt L S w cu su Q) : Wk l Z M md pc L (.int x :: S) w cu su Q :=
  fun en p e s m args below meth c T locs r X K hz hF hR hL => by
  obtain ⟨hd, rfl, h3, h4⟩ := hd
  subst hx
  exact (h en p e s m args below meth c T locs r X K hz hF hR hL).pre (fun _ q => q) fun t k => XS.tswIn X.here K.1 rfl rfl (hb K.by hd) rfl hin hoff h3 h4 k
theorem Wk.tswOut {dflt low high : Int} {offs : Array Int} {len pt : Nat} {x : Int32} (hd : InsB md pc (.tableswitch dflt low high offs) len pc' dflt pt) (hout : x.toInt < low ∨ x.toInt > high) (h : Wk l Z M md pt L S w cu su Q) : Wk l Z M md pc L (.int x :: S) w cu su Q :=
  fun en p e s m args below meth c T locs r X K hz hF hR hL => by
  obtain ⟨hd, rfl, h3, h4⟩ := hd
  exact (h en p e s m args below meth c T locs r X K hz hF hR hL).pre (fun _ q => q) fun t k => XS.tswOut X.here K.1 rfl rfl (hb K.by hd) rfl hout h3 h4 k
theorem Wk.ldc {idx : Nat} {z : Int32} {a0 : Array Value} (hd : InsA md pc (.ldc idx) 2 pc') (wd : (Cond.constant M.own idx z).before a0 Z = true) (h : Wk l Z M md pc' L (.int z :: S) w cu su Q) : Wk l Z M md pc L S w cu su Q :=
  fun en p e s m args below meth c T locs r X K hz hF hR hL => by
  obtain ⟨hd, rfl⟩ := hd
  have hc : (Cond.constant M.own idx z).before args s = true := mvT K.2.1 wd
  exact (h en p e s m args below meth c T locs r X K hz hF hR hL).pre (fun _ q => q) fun t k => X.ldcInt K.1 K.2.2.1 hc (g := mkF m pc r (S.map (rv (M.rho en)))) rfl (hb K.by hd) t k
theorem Wk.ldcw {idx : Nat} {z : Int32} {a0 : Array Value} (hd : InsA md pc (.ldc_w idx) 3 pc') (wd : (Cond.constant M.own idx z).before a0 Z = true) (h : Wk l Z M md pc' L (.int z :: S) w cu su Q) : Wk l Z M md pc L S w cu su Q :=
  fun en p e s m args below meth c T locs r X K hz hF hR hL => by
  obtain ⟨hd, rfl⟩ := hd
  have hc : (Cond.constant M.own idx z).before args s = true := mvT K.2.1 wd
  exact (h en p e s m args below meth c T locs r X K hz hF hR hL).pre (fun _ q => q) fun t k => X.ldcwInt K.1 K.2.2.1 hc (g := mkF m pc r (S.map (rv (M.rho en)))) rfl (hb K.by hd) t k
theorem Wk.ldc2 {idx : Nat} {z : Int64} {a0 : Array Value} (hd : InsA md pc (.ldc2_w idx) 3 pc') (wd : (Cond.constantLong M.own idx z).before a0 Z = true) (h : Wk l Z M md pc' L (.long z :: S) w cu su Q) : Wk l Z M md pc L S w cu su Q :=
  fun en p e s m args below meth c T locs r X K hz hF hR hL => by
  obtain ⟨hd, rfl⟩ := hd
  have hc : (Cond.constantLong M.own idx z).before args s = true := mvT K.2.1 wd
  exact (h en p e s m args below meth c T locs r X K hz hF hR hL).pre (fun _ q => q) fun t k => X.ldc2Long K.1 K.2.2.1 hc (g := mkF m pc r (S.map (rv (M.rho en)))) rfl (hb K.by hd) t k
/-! returns -/
theorem Wk.ireturn {x : Int32} (hM : ∀ en h, M.frm en h h) (hret : rtOf md = some .int) (hd : InsA md pc .ireturn 1 pc') (hc : cu = exOf md) (hc2 : exOf md ≤ (rmOf md).cells) (hs : su ≤ (rmOf md).slots) (hq : Q (some (.int x)) w) : Wk l Z M md pc L (.int x :: S) w cu su Q :=
  fun en p e s m args below meth c T locs r X K hz hF hR hL => by
  subst hc
  have hr := K.2.2.2.2.1.trans hret
  exact ⟨T, locs, su, _, w, X, hc2, hs, hz, hF, hR, hM _ _, fun q => (by rw [hr] at q; cases q), fun ρ y e => (by cases e; rfl), hq, fun fs hf => retI X K.1 hr (hb K.by hd.1) hf⟩
theorem Wk.zreturn {x y : Int32} (hM : ∀ en h, M.frm en h h) (hret : rtOf md = some .boolean) (hd : InsA md pc .ireturn 1 pc') (hc : cu = exOf md) (hc2 : exOf md ≤ (rmOf md).cells) (hs : su ≤ (rmOf md).slots) (hy : nar .boolean x = y) (hq : Q (some (.int y)) w) : Wk l Z M md pc L (.int x :: S) w cu su Q :=
  fun en p e s m args below meth c T locs r X K hz hF hR hL => by
  subst hc hy
  have hr := K.2.2.2.2.1.trans hret
  exact ⟨T, locs, su, _, w, X, hc2, hs, hz, hF, hR, hM _ _, fun q => (by rw [hr] at q; cases q), fun ρ y e => (by cases e; rfl), hq, fun fs hf => retN X K.1 (t := .boolean) hr (by simp) (hb K.by hd.1) hf⟩
theorem Wk.lreturn {x : Int64} (hM : ∀ en h, M.frm en h h) (hret : rtOf md = some .long) (hd : InsA md pc .lreturn 1 pc') (hc : cu = exOf md) (hc2 : exOf md ≤ (rmOf md).cells) (hs : su ≤ (rmOf md).slots) (hq : Q (some (.long x)) w) : Wk l Z M md pc L [.long x] w cu su Q :=
  fun en p e s m args below meth c T locs r X K hz hF hR hL => by
  subst hc
  have hr := K.2.2.2.2.1.trans hret
  exact ⟨T, locs, su, _, w, X, hc2, hs, hz, hF, hR, hM _ _, fun q => (by rw [hr] at q; cases q), fun ρ y e => (by cases e; rfl), hq, fun fs hf => X.lreturnOut K.1 hr (hb K.by hd.1) hf⟩
theorem Wk.ret (hM : ∀ en h, M.frm en h h) (hret : rtOf md = none) (hd : InsA md pc .return_ 1 pc') (hc : cu = exOf md) (hc2 : exOf md ≤ (rmOf md).cells) (hs : su ≤ (rmOf md).slots) (hq : Q none w) : Wk l Z M md pc L [] w cu su Q :=
  fun en p e s m args below meth c T locs r X K hz hF hR hL => by
  subst hc
  have hr := K.2.2.2.2.1.trans hret
  exact ⟨T, locs, su, none, w, X, hc2, hs, hz, hF, hR, hM _ _, fun _ => rfl, fun ρ y e => (by cases e), hq, fun fs hf => X.returnOut K.1 hr (hb K.by hd.1) hf⟩
/-! a walk from the entry is a contract -/
theorem Wk.met (h : Wk l Z M md 0 L [] w 0 0 Q) (hp : plainName (nmOf md).cls = true) (ho : M.own = (nmOf md).cls) {en : E} {h0 : Heap} (hR : M.rel en w h0) (as : List Value) (hL : (argsToLocals as.toArray (mxOf md)).toList = L) (hw : wfL L = true) (ws : List Jvm.Cond) :
    MetFree l (nmOf md) (head1 (Jvm.Cond.code (nmOf md) (byOf md) (mxOf md) (rtOf md) :: ws) (rmOf md)) (fun a U => a = (as.map (rv (M.rho en))).toArray ∧ Z.Warmed39 U.vm ∧ U.heap = h0) (fun _ _ _ _ _ => True)
      (fun _ U o U' => ∃ v Lc, o = .returned v ∧ (∃ w', Q v w' ∧ M.rel en w' U'.heap ∧ M.frm en h0 U'.heap ∧ Fr (M.lo en) Lc ∧ U'.heap.size = h0.size + exOf md ∧ ∀ ρ x, v = some x → rv ρ x = x) ∧ FrameEnd U o U' Lc (rmOf md).cells (rmOf md).slots) := by
  refine MetFree.of_bodySF (plainFor_of_name hp) hisR ?_
  intro p e s m args below meth c s₁ Bd hml0 hP hK
  obtain ⟨rfl, hZ, hh⟩ := hP
  have hown : s.vm.findClass (nmOf md).cls = some m.cls := findClass_of_methodNamed Bd.named
  have hnm := (name_of_methodNamed Bd.named Bd.method).1
  have X0 : Stand p l e (rmOf md) s m (as.map (rv (M.rho en))).toArray below meth c s₁ [] 0 0 := Stand.of_body Bd
  have e0 : s₁.heap = s.heap := by rw [Bd.state]; rfl
  subst hh
  obtain ⟨T', locs', su', v, w', a1, a2, a3, a4, a5, a6, a7, a8, a9, a10, a11⟩ := h en p e s m _ below meth c s₁ [] _ X0 ⟨Bd.exec, hZ, by rw [ho]; exact hown, hnm, Bd.returns, BodyLoose.notSynchronized Bd, Bd.bytes, hml0⟩ (by rw [e0]; rfl) (Fr.nil _) (by rw [e0]; exact hR) (SR.entry (M.rho en) as (mxOf md) hL hw)
  obtain ⟨fs, hr, hrun, hended, hW, hsame⟩ := a1.leave (v := v) a8 (BodyLoose.notSynchronized Bd)
  rw [e0] at a7
  exact ⟨_, _, a11 fs hr, hrun, hended, v, locs', rfl, ⟨w', a10, a6, a7, a5, a4, a9⟩, ⟨_, rfl⟩, hW, hsame.mono a2 a3⟩
end Steps
end Jvm.Own

namespace Jvm.Own
open Jvm Jvm.ClassFile Sem Op Lib Jvm.Free Jvm.Stand Jvm.LawKit Jvm.RoadKit
/-! ## 3. One object of the project's class, with its arrays behind it -/
/-- how many arrays are made; the ints; the longs; the arrays of ints (and booleans); of longs -/
abbrev WO : Type := Nat × (Nat → Int32) × (Nat → Int64) × (Nat → Int32 → Int32) × (Nat → Int32 → Int64)
/-- the class; its fields of ints and booleans (number, name, descriptor); of longs; of arrays, in the order in which they are made -/
abbrev CD : Type := String × List (Nat × String × String) × List (Nat × String) × List (Nat × String × String × FieldType × Int32)
def ups {κ α : Type} [DecidableEq κ] (f : κ → α) (i : κ) (x : α) : κ → α := fun k => if k = i then x else f k
theorem ups_at {κ α : Type} [DecidableEq κ] (f : κ → α) (i : κ) (x : α) : ups f i x i = x := by simp [ups]
theorem ups_ne {κ α : Type} [DecidableEq κ] (f : κ → α) {i k : κ} (x : α) (h : k ≠ i) : ups f i x k = f k := by simp [ups, h]
def el : FieldType → Int32 → Int64 → Value
  | .long, _, j => .long j
  | _, i, _ => .int i
theorem el_int {ty : FieldType} (h : ty ≠ .long) (i : Int32) (j : Int64) : el ty i j = .int i := by cases ty <;> first | rfl | exact absurd rfl h
def AtA (Z : State) (h : Heap) (b : Addr) (ty : FieldType) (n : Int32) (f : Int32 → Int32) (g : Int32 → Int64) : Prop :=
  ∃ cl, Arr Z h b cl ty ∧ cl.slots.size = n.toNatClampNeg ∧ ∀ x : Int32, ¬ x < 0 → x < n → cl.slots[x.toNatClampNeg]? = some (el ty (f x) (g x))
def relC (Z : State) (cd : CD) (en : Nat × Nat) (w : WO) (h : Heap) : Prop :=
  en.2 ≤ en.1 ∧ Exa Z h en.1 cd.1 ∧ (∀ t ∈ cd.2.1, Fld Z h en.1 cd.1 t.2.1 t.2.2 (.int (w.2.1 t.1))) ∧ (∀ t ∈ cd.2.2.1, Fld Z h en.1 cd.1 t.2 "J" (.long (w.2.2.1 t.1))) ∧
  (∀ t ∈ cd.2.2.2, (t.1 < w.1 → Fld Z h en.1 cd.1 t.2.1 t.2.2.1 (.ref (en.1 + (t.1 + 1))) ∧ AtA Z h (en.1 + (t.1 + 1)) t.2.2.2.1 t.2.2.2.2 (w.2.2.2.1 t.1) (w.2.2.2.2 t.1)) ∧ (¬ t.1 < w.1 → Fld Z h en.1 cd.1 t.2.1 t.2.2.1 .null)) ∧
  (w.1 < cd.2.2.2.length → h.size = en.1 + 1 + w.1)
def frmC (cd : CD) (en : Nat × Nat) (h h' : Heap) : Prop := h.size ≤ h'.size ∧ ∀ (x : Nat) (c : Cell), h[x]? = some c → (x < en.1 ∨ en.1 + cd.2.2.2.length < x) → h'[x]? = some c
abbrev MoC (Z : State) (cd : CD) : Mode WO (Nat × Nat) := (cd.1, fun en k => en.1 + k, fun en => en.2, relC Z cd, frmC cd)
theorem nn {a b : Nat} (h : a ≠ b) : @Ne Addr a b := h
theorem frmC.refl (cd : CD) (en : Nat × Nat) (h : Heap) : frmC cd en h h := ⟨Nat.le_refl _, fun _ _ q _ => q⟩
theorem frmC.trans {cd : CD} {en : Nat × Nat} {h1 h2 h3 : Heap} (a : frmC cd en h1 h2) (b : frmC cd en h2 h3) : frmC cd en h1 h3 := ⟨Nat.le_trans a.1 b.1, fun x c q r => b.2 x c (a.2 x c q r) r⟩
theorem frmC.wr {cd : CD} {en : Nat × Nat} {h h' : Heap} {b : Nat} {sl : Nat} {v : Value} (W : Wr h h' b sl v) (h1 : en.1 ≤ b) (h2 : b ≤ en.1 + cd.2.2.2.length) : frmC cd en h h' := by
  refine ⟨Nat.le_of_eq W.size.symm, fun x c q r => ?_⟩
  obtain ⟨c', e1, -, -, -, e5, -⟩ := wr_at W q
  rw [← e5 (nn (by omega))]; exact e1
theorem frmC.ext {cd : CD} {en : Nat × Nat} {h h' : Heap} (E : Ext h h') : frmC cd en h h' := ⟨E.1, fun x c q _ => E.2 x c q⟩
def okC (cd : CD) : Prop :=
  (∀ t ∈ cd.2.1, ∀ t' ∈ cd.2.1, (t.1 = t'.1 → t = t') ∧ (t.1 ≠ t'.1 → t.2.1 ≠ t'.2.1)) ∧ (∀ t ∈ cd.2.2.1, ∀ t' ∈ cd.2.2.1, (t.1 = t'.1 → t = t') ∧ (t.1 ≠ t'.1 → t.2 ≠ t'.2)) ∧ (∀ t ∈ cd.2.2.2, ∀ t' ∈ cd.2.2.2, (t.1 = t'.1 → t = t') ∧ (t.1 ≠ t'.1 → t.2.1 ≠ t'.2.1)) ∧
  (∀ t ∈ cd.2.1, ∀ t' ∈ cd.2.2.1, t.2.1 ≠ t'.2) ∧ (∀ t ∈ cd.2.1, ∀ t' ∈ cd.2.2.2, t.2.1 ≠ t'.2.1) ∧ (∀ t ∈ cd.2.2.1, ∀ t' ∈ cd.2.2.2, t.2 ≠ t'.2.1) ∧
  (∀ t ∈ cd.2.1, parseFieldDescriptor t.2.2 = some .int ∨ parseFieldDescriptor t.2.2 = some .boolean) ∧
  (∀ t ∈ cd.2.2.2, parseFieldDescriptor t.2.2.1 = some (.array t.2.2.2.1) ∧ t.1 < cd.2.2.2.length ∧ (t.2.2.2.1 = .int ∨ t.2.2.2.1 = .boolean ∨ t.2.2.2.1 = .long) ∧ ¬ t.2.2.2.2 < 0)
/-- what the words say of the class -/
def CO (Z : State) (a0 : Array Value) (cd : CD) : Prop :=
  (∃ kk, (Cond.instantiable cd.1 kk).before a0 Z = true) ∧ (∀ t ∈ cd.2.1, Laid Z a0 cd.1 cd.1 t.2.1 t.2.2) ∧ (∀ t ∈ cd.2.2.1, Laid Z a0 cd.1 cd.1 t.2 "J") ∧ (∀ t ∈ cd.2.2.2, Laid Z a0 cd.1 cd.1 t.2.1 t.2.2.1) ∧ okC cd
theorem pJ : parseFieldDescriptor "J" = some .long := by decide +kernel
theorem snJ {Z : State} {a0 : Array Value} {C n n' d' : String} {t' : FieldType} (L : Laid Z a0 C C n "J") (L' : Laid Z a0 C C n' d') (hn : n ≠ n') (ht' : parseFieldDescriptor d' = some t') : Jvm.RoadKit.slotOf Z C n "J" ≠ Jvm.RoadKit.slotOf Z C n' d' := by
  have p := pJ
  generalize "J" = q at *
  exact slot_ne L L' hn p ht'
section Rel
variable {Z : State} {a0 : Array Value} {cd : CD} {en : Nat × Nat} {h h' : Heap} {k : Nat} {F : Nat → Int32} {G : Nat → Int64} {A : Nat → Int32 → Int32} {B : Nat → Int32 → Int64}
theorem pI (ok : CO Z a0 cd) {t : Nat × String × String} (ht : t ∈ cd.2.1) : ∃ ty, parseFieldDescriptor t.2.2 = some ty := by
  rcases ok.2.2.2.2.2.2.2.2.2.2.1 t ht with q | q <;> exact ⟨_, q⟩
theorem AtA.other {b b' : Addr} {ty : FieldType} {n : Int32} {f : Int32 → Int32} {g : Int32 → Int64} {sl : Nat} {v : Value} (W : Wr h h' b sl v) (H : AtA Z h b' ty n f g) (hne : b' ≠ b) : AtA Z h' b' ty n f g := by
  obtain ⟨cl, h1, h2, h3⟩ := H
  exact ⟨cl, h1.other W hne, h2, h3⟩
theorem AtA.ext {b' : Addr} {ty : FieldType} {n : Int32} {f : Int32 → Int32} {g : Int32 → Int64} (E : Ext h h') (H : AtA Z h b' ty n f g) : AtA Z h' b' ty n f g := by
  obtain ⟨cl, h1, h2, h3⟩ := H
  exact ⟨cl, h1.ext E, h2, h3⟩
theorem clamp_lt {x n : Int32} (h0 : ¬ x < 0) (h1 : x < n) : x.toNatClampNeg < n.toNatClampNeg := by
  simp only [Int32.lt_iff_toInt_lt, Int32.reduceToInt, Int32.toNatClampNeg] at *
  omega
theorem in_of {x n : Int32} {cl : Cell} (h2 : cl.slots.size = n.toNatClampNeg) (h0 : ¬ x < 0) (h1 : x < n) : ¬ (x < 0 ∨ cl.slots.size ≤ x.toNatClampNeg) := by
  have := clamp_lt h0 h1
  rintro (q | q)
  · exact h0 q
  · omega
theorem AtA.stI {b : Addr} {ty : FieldType} {n : Int32} {f : Int32 → Int32} {g : Int32 → Int64} {j x : Int32} (hty : ty ≠ .long) (h0 : ¬ j < 0) (h1 : j < n) (W : Wr h h' b j.toNatClampNeg (.int x)) (H : AtA Z h b ty n f g) : AtA Z h' b ty n (ups f j x) g := by
  obtain ⟨cl, g1, g2, g3⟩ := H
  refine ⟨_, g1.same W, by rw [sz_set]; exact g2, fun y y0 y1 => ?_⟩
  by_cases e : y = j
  · rw [get_hit (in_of g2 h0 h1) e, e, ups_at, el_int hty]
  · rw [get_miss h0 y0 e, ups_ne _ _ e]; exact g3 y y0 y1
theorem AtA.stJ {b : Addr} {n : Int32} {f : Int32 → Int32} {g : Int32 → Int64} {j : Int32} {x : Int64} (h0 : ¬ j < 0) (h1 : j < n) (W : Wr h h' b j.toNatClampNeg (.long x)) (H : AtA Z h b .long n f g) : AtA Z h' b .long n f (ups g j x) := by
  obtain ⟨cl, g1, g2, g3⟩ := H
  refine ⟨_, g1.same W, by rw [sz_set]; exact g2, fun y y0 y1 => ?_⟩
  by_cases e : y = j
  · rw [get_hit (in_of g2 h0 h1) e, e, ups_at]; rfl
  · rw [get_miss h0 y0 e, ups_ne _ _ e]; exact g3 y y0 y1
theorem relC.putI (ok : CO Z a0 cd) {i : Nat} {n d : String} {x : Int32} (hR : relC Z cd en (k, F, G, A, B) h) (ht : (i, n, d) ∈ cd.2.1) (W : Wr h h' en.1 (Jvm.RoadKit.slotOf Z cd.1 n d) (.int x)) : relC Z cd en (k, ups F i x, G, A, B) h' := by
  obtain ⟨r1, r2, r3, r4, r5, r6⟩ := hR
  obtain ⟨-, o2, o3, o4, q1, q2, q3, q4, q5, q6, q7, q8⟩ := ok
  obtain ⟨ty0, p0⟩ : ∃ ty, parseFieldDescriptor d = some ty := by rcases q7 _ ht with q | q <;> exact ⟨_, q⟩
  refine ⟨r1, r2.wr W, fun t m => ?_, fun t m => ?_, fun t m => ⟨fun hk => ?_, fun hk => ?_⟩, fun q => ?_⟩
  · obtain ⟨u1, u2⟩ := q1 _ m _ ht
    by_cases e : t.1 = i
    · have e2 := u1 e
      subst e2
      show Fld Z h' en.1 cd.1 n d (.int (ups F i x i))
      rw [ups_at]
      exact (r3 _ ht).same W
    · show Fld Z h' en.1 cd.1 _ _ (.int (ups F i x t.1))
      rw [ups_ne _ _ e]
      obtain ⟨ty1, p1⟩ : ∃ ty, parseFieldDescriptor t.2.2 = some ty := by rcases q7 _ m with q | q <;> exact ⟨_, q⟩
      have z0 := slot_ne (o2 _ m) (o2 _ ht) (u2 e) p1 p0
      exact (r3 t m).other W (Or.inr z0)
  · have e1 := o3 _ m
    have e2 := o2 _ ht
    have e3 := q4 _ ht _ m
    have e4 := snJ e1 e2 (Ne.symm e3) p0
    have e5 := r4 t m
    exact e5.other W (Or.inr e4)
  · obtain ⟨a1, a2⟩ := (r5 t m).1 hk
    have z0 := slot_ne (o4 _ m) (o2 _ ht) (Ne.symm (q5 _ ht _ m)) (q8 _ m).1 p0
    exact ⟨a1.other W (Or.inr z0), a2.other W (nn (by omega))⟩
  · have z0 := slot_ne (o4 _ m) (o2 _ ht) (Ne.symm (q5 _ ht _ m)) (q8 _ m).1 p0
    exact ((r5 t m).2 hk).other W (Or.inr z0)
  · rw [W.size]; exact r6 q
theorem relC.putJ (ok : CO Z a0 cd) {i : Nat} {n : String} {x : Int64} (hR : relC Z cd en (k, F, G, A, B) h) (ht : (i, n) ∈ cd.2.2.1) (W : Wr h h' en.1 (Jvm.RoadKit.slotOf Z cd.1 n "J") (.long x)) : relC Z cd en (k, F, ups G i x, A, B) h' := by
  obtain ⟨r1, r2, r3, r4, r5, r6⟩ := hR
  obtain ⟨-, o2, o3, o4, q1, q2, q3, q4, q5, q6, q7, q8⟩ := ok
  refine ⟨r1, r2.wr W, fun t m => ?_, fun t m => ?_, fun t m => ⟨fun hk => ?_, fun hk => ?_⟩, fun q => ?_⟩
  · obtain ⟨ty1, p1⟩ : ∃ ty, parseFieldDescriptor t.2.2 = some ty := by rcases q7 _ m with q | q <;> exact ⟨_, q⟩
    have z0 := Ne.symm (snJ (o3 _ ht) (o2 _ m) (Ne.symm (q4 _ m _ ht)) p1)
    exact (r3 t m).other W (Or.inr z0)
  · obtain ⟨u1, u2⟩ := q2 _ m _ ht
    by_cases e : t.1 = i
    · have e2 := u1 e
      subst e2
      show Fld Z h' en.1 cd.1 n "J" (.long (ups G i x i))
      rw [ups_at]
      exact (r4 _ ht).same W
    · show Fld Z h' en.1 cd.1 _ _ (.long (ups G i x t.1))
      rw [ups_ne _ _ e]
      have z0 := snJ (o3 _ m) (o3 _ ht) (u2 e) pJ
      exact (r4 t m).other W (Or.inr z0)
  · obtain ⟨a1, a2⟩ := (r5 t m).1 hk
    have z0 := Ne.symm (snJ (o3 _ ht) (o4 _ m) (q6 _ ht _ m) (q8 _ m).1)
    exact ⟨a1.other W (Or.inr z0), a2.other W (nn (by omega))⟩
  · have z0 := Ne.symm (snJ (o3 _ ht) (o4 _ m) (q6 _ ht _ m) (q8 _ m).1)
    exact ((r5 t m).2 hk).other W (Or.inr z0)
  · rw [W.size]; exact r6 q
theorem relC.stI (ok : CO Z a0 cd) {i : Nat} {n d : String} {ty : FieldType} {len j x : Int32} (hty : ty ≠ .long) (h0 : ¬ j < 0) (h1 : j < len) (hR : relC Z cd en (k, F, G, A, B) h) (ht : (i, n, d, ty, len) ∈ cd.2.2.2) (W : Wr h h' (en.1 + (i + 1)) j.toNatClampNeg (.int x)) : relC Z cd en (k, F, G, ups A i (ups (A i) j x), B) h' := by
  obtain ⟨r1, r2, r3, r4, r5, r6⟩ := hR
  obtain ⟨-, o2, o3, o4, q1, q2, q3, q4, q5, q6, q7, q8⟩ := ok
  refine ⟨r1, r2.wr W, fun t m => (r3 t m).other W (Or.inl (nn (by omega))), fun t m => (r4 t m).other W (Or.inl (nn (by omega))), fun t m => ⟨fun hk => ?_, fun hk => ((r5 t m).2 hk).other W (Or.inl (nn (by omega)))⟩, fun q => by rw [W.size]; exact r6 q⟩
  obtain ⟨a1, a2⟩ := (r5 t m).1 hk
  refine ⟨a1.other W (Or.inl (nn (by omega))), ?_⟩
  obtain ⟨u1, u2⟩ := q3 _ m _ ht
  show AtA Z h' _ _ _ (ups A i (ups (A i) j x) t.1) (B t.1)
  by_cases e : t.1 = i
  · have e2 := u1 e
    subst e2
    rw [ups_at]
    exact a2.stI hty h0 h1 W
  · rw [ups_ne _ _ e]
    exact a2.other W (nn (by omega))
theorem relC.stJ (ok : CO Z a0 cd) {i : Nat} {n d : String} {len j : Int32} {x : Int64} (h0 : ¬ j < 0) (h1 : j < len) (hR : relC Z cd en (k, F, G, A, B) h) (ht : (i, n, d, .long, len) ∈ cd.2.2.2) (W : Wr h h' (en.1 + (i + 1)) j.toNatClampNeg (.long x)) : relC Z cd en (k, F, G, A, ups B i (ups (B i) j x)) h' := by
  obtain ⟨r1, r2, r3, r4, r5, r6⟩ := hR
  obtain ⟨-, o2, o3, o4, q1, q2, q3, q4, q5, q6, q7, q8⟩ := ok
  refine ⟨r1, r2.wr W, fun t m => (r3 t m).other W (Or.inl (nn (by omega))), fun t m => (r4 t m).other W (Or.inl (nn (by omega))), fun t m => ⟨fun hk => ?_, fun hk => ((r5 t m).2 hk).other W (Or.inl (nn (by omega)))⟩, fun q => by rw [W.size]; exact r6 q⟩
  obtain ⟨a1, a2⟩ := (r5 t m).1 hk
  refine ⟨a1.other W (Or.inl (nn (by omega))), ?_⟩
  obtain ⟨u1, u2⟩ := q3 _ m _ ht
  show AtA Z h' _ _ _ (A t.1) (ups B i (ups (B i) j x) t.1)
  by_cases e : t.1 = i
  · have e2 := u1 e
    subst e2
    rw [ups_at]
    exact a2.stJ h0 h1 W
  · rw [ups_ne _ _ e]
    exact a2.other W (nn (by omega))
theorem relC.newA (ok : CO Z a0 cd) {h1 : Heap} {n d : String} {ty : FieldType} {len : Int32} {cA : ClassId} (hR : relC Z cd en (k, F, G, A, B) h) (ht : (k, n, d, ty, len) ∈ cd.2.2.2) (hA : A k = fun _ => 0) (hB : B k = fun _ => 0) (E : Ext h h1) (N : Arr Z h1 h.size (Jvm.RoadKit.newA cA ty len) ty) (W : Wr h1 h' en.1 (Jvm.RoadKit.slotOf Z cd.1 n d) (.ref h.size)) (hz : h'.size = h.size + 1) : relC Z cd en (k + 1, F, G, A, B) h' := by
  obtain ⟨r1, r2, r3, r4, r5, r6⟩ := hR
  obtain ⟨-, o2, o3, o4, q1, q2, q3, q4, q5, q6, q7, q8⟩ := ok
  have hsz : h.size = en.1 + 1 + k := r6 (q8 _ ht).2.1
  refine ⟨r1, (r2.ext E).wr W, fun t m => ?_, fun t m => ?_, fun t m => ⟨fun hk => ?_, fun hk => ?_⟩, fun q => ?_⟩
  · obtain ⟨ty1, p1⟩ : ∃ ty, parseFieldDescriptor t.2.2 = some ty := by rcases q7 _ m with q | q <;> exact ⟨_, q⟩
    have z0 := slot_ne (o2 _ m) (o4 _ ht) (q5 _ m _ ht) p1 (q8 _ ht).1
    exact ((r3 t m).ext E).other W (Or.inr z0)
  · have z0 := snJ (o3 _ m) (o4 _ ht) (q6 _ m _ ht) (q8 _ ht).1
    exact ((r4 t m).ext E).other W (Or.inr z0)
  · obtain ⟨u1, u2⟩ := q3 _ m _ ht
    by_cases e : t.1 = k
    · have e2 := u1 e
      subst e2
      have f0 := ((r5 _ ht).2 (Nat.lt_irrefl k)).ext E
      refine ⟨?_, ?_⟩
      · have := f0.same W
        rw [hsz] at this
        show Fld Z h' en.1 cd.1 n d (.ref (en.1 + (k + 1)))
        rw [show en.1 + (k + 1) = en.1 + 1 + k by omega]
        exact this
      · show AtA Z h' (en.1 + (k + 1)) ty len (A k) (B k)
        rw [hA, hB, show en.1 + (k + 1) = h.size by omega]
        refine AtA.other W ⟨_, N, sz_new _ _ _, fun x x0 x1 => ?_⟩ (nn (by omega))
        rw [get_new (in_of (cl := Jvm.RoadKit.newA cA ty len) (sz_new _ _ _) x0 x1 |> fun q => by rwa [sz_new] at q)]
        have o := (q8 _ ht).2.2.1
        rcases o with o | o | o <;> (have o' : ty = _ := o; subst o'; rfl)
    · obtain ⟨a1, a2⟩ := (r5 t m).1 (by show t.1 < k; have : t.1 < k + 1 := hk; omega)
      have z0 := slot_ne (o4 _ m) (o4 _ ht) (u2 e) (q8 _ m).1 (q8 _ ht).1
      exact ⟨(a1.ext E).other W (Or.inr z0), (a2.ext E).other W (nn (by omega))⟩
  · obtain ⟨u1, u2⟩ := q3 _ m _ ht
    have hk' : ¬ t.1 < k + 1 := hk
    have z0 := slot_ne (o4 _ m) (o4 _ ht) (u2 (by show t.1 ≠ k; omega)) (q8 _ m).1 (q8 _ ht).1
    exact (((r5 t m).2 (by show ¬ t.1 < k; omega)).ext E).other W (Or.inr z0)
  · show h'.size = en.1 + 1 + (k + 1)
    omega
end Rel
section StepsC
variable {l : Launch} {Z : State} {a0 : Array Value} {cd : CD} {md : MD} {pc pc' pc1 : Nat} {L L' : List Slot} {S : List Value} {k : Nat} {F : Nat → Int32} {G : Nat → Int64} {A : Nat → Int32 → Int32} {B : Nat → Int32 → Int64} {cu su cu' su' : Nat} {Q : Option Value → WO → Prop} {idx : Nat}
theorem Wk.getI {i : Nat} {n d : String} {x : Int32} (ht : (i, n, d) ∈ cd.2.1) (wl : (Cond.fieldLink cd.1 idx cd.1 n d).before a0 Z = true) (hd : InsA md pc (.getfield idx) 3 pc') (hx : F i = x) (h : Wk l Z (MoC Z cd) md pc' L (.int x :: S) (k, F, G, A, B) cu su Q) : Wk l Z (MoC Z cd) md pc L (.ref 0 :: S) (k, F, G, A, B) cu su Q :=
  fun en p e s m args below meth c T locs r X K hz hF hR hL => by
  obtain ⟨hd, rfl⟩ := hd
  subst hx
  obtain ⟨T1, X1, e1, st⟩ := getF X K.1 K.2.1 K.2.2.1 (host := "") (Or.inl wl) Via.refl rfl (hR.2.2.1 _ ht) (g := mkF m pc r (.ref en.1 :: S.map (rv ((MoC Z cd).rho en)))) rfl rfl (hb K.by hd)
  refine (h en p e s m args below meth c T1 locs r X1 K (by rw [e1]; exact hz) hF (by rw [e1]; exact hR) hL).pre (fun _ q => by rw [e1] at q; exact q) fun t q => st t q
theorem Wk.getJ {i : Nat} {n : String} {x : Int64} (ht : (i, n) ∈ cd.2.2.1) (wl : (Cond.fieldLink cd.1 idx cd.1 n "J").before a0 Z = true) (hd : InsA md pc (.getfield idx) 3 pc') (hx : G i = x) (h : Wk l Z (MoC Z cd) md pc' L (.long x :: S) (k, F, G, A, B) cu su Q) : Wk l Z (MoC Z cd) md pc L (.ref 0 :: S) (k, F, G, A, B) cu su Q :=
  fun en p e s m args below meth c T locs r X K hz hF hR hL => by
  obtain ⟨hd, rfl⟩ := hd
  subst hx
  obtain ⟨T1, X1, e1, st⟩ := getF X K.1 K.2.1 K.2.2.1 (host := "") (Or.inl wl) Via.refl rfl (hR.2.2.2.1 _ ht) (g := mkF m pc r (.ref en.1 :: S.map (rv ((MoC Z cd).rho en)))) rfl rfl (hb K.by hd)
  refine (h en p e s m args below meth c T1 locs r X1 K (by rw [e1]; exact hz) hF (by rw [e1]; exact hR) hL).pre (fun _ q => by rw [e1] at q; exact q) fun t q => st t q
theorem Wk.getA {i i' : Nat} {n d : String} {ty : FieldType} {len : Int32} (ht : (i, n, d, ty, len) ∈ cd.2.2.2) (hi : i < k) (hi' : i + 1 = i') (wl : (Cond.fieldLink cd.1 idx cd.1 n d).before a0 Z = true) (hd : InsA md pc (.getfield idx) 3 pc') (h : Wk l Z (MoC Z cd) md pc' L (.ref i' :: S) (k, F, G, A, B) cu su Q) : Wk l Z (MoC Z cd) md pc L (.ref 0 :: S) (k, F, G, A, B) cu su Q :=
  fun en p e s m args below meth c T locs r X K hz hF hR hL => by
  obtain ⟨hd, rfl⟩ := hd
  subst hi'
  obtain ⟨T1, X1, e1, st⟩ := getF X K.1 K.2.1 K.2.2.1 (host := "") (Or.inl wl) Via.refl rfl ((hR.2.2.2.2.1 _ ht).1 hi).1 (g := mkF m pc r (.ref en.1 :: S.map (rv ((MoC Z cd).rho en)))) rfl rfl (hb K.by hd)
  refine (h en p e s m args below meth c T1 locs r X1 K (by rw [e1]; exact hz) hF (by rw [e1]; exact hR) hL).pre (fun _ q => by rw [e1] at q; exact q) fun t q => st t q
theorem Wk.putI (ok : CO Z a0 cd) {i : Nat} {n : String} {x : Int32} (ht : (i, n, "I") ∈ cd.2.1) (wl : (Cond.fieldLink cd.1 idx cd.1 n "I").before a0 Z = true) (wy : (Cond.lays cd.1 cd.1 n "I").before a0 Z = true ∨ ((Cond.laysFinal cd.1 cd.1 n "I").before a0 Z = true ∧ (nmOf md).name = "<init>")) (hd : InsA md pc (.putfield idx) 3 pc') (h : Wk l Z (MoC Z cd) md pc' L S (k, ups F i x, G, A, B) cu su Q) : Wk l Z (MoC Z cd) md pc L (.int x :: .ref 0 :: S) (k, F, G, A, B) cu su Q :=
  fun en p e s m args below meth c T locs r X K hz hF hR hL => by
  obtain ⟨hd, rfl⟩ := hd
  obtain ⟨kk, wi⟩ := ok.1
  obtain ⟨T1, h1, X1, e1, W1, st⟩ := putF X K.1 K.2.1 K.2.2.1 (host := "") (Or.inl wl) Via.refl rfl (hR.2.2.1 _ ht) hR.2.1 (wy.imp id fun q => ⟨q.1, rfl, K.2.2.2.1.trans q.2⟩) wi (ty := .int) (v := .int x) (by decide +kernel) rfl rfl (g := mkF m pc r (.int x :: .ref en.1 :: S.map (rv ((MoC Z cd).rho en)))) rfl rfl (hb K.by hd)
  subst e1
  exact (h en p e s m args below meth c T1 _ r X1 K (by rw [W1.size]; exact hz) (Fr.snoc X1 hF hR.1) (relC.putI ok hR ht W1) hL).pre (fun _ q => (frmC.wr W1 (Nat.le_refl _) (Nat.le_add_right _ _)).trans q) fun t q => st t q
theorem Wk.putZ (ok : CO Z a0 cd) {i : Nat} {n : String} {x y : Int32} (hy : nar .boolean x = y) (ht : (i, n, "Z") ∈ cd.2.1) (wl : (Cond.fieldLink cd.1 idx cd.1 n "Z").before a0 Z = true) (wy : (Cond.lays cd.1 cd.1 n "Z").before a0 Z = true ∨ ((Cond.laysFinal cd.1 cd.1 n "Z").before a0 Z = true ∧ (nmOf md).name = "<init>")) (hd : InsA md pc (.putfield idx) 3 pc') (h : Wk l Z (MoC Z cd) md pc' L S (k, ups F i y, G, A, B) cu su Q) : Wk l Z (MoC Z cd) md pc L (.int x :: .ref 0 :: S) (k, F, G, A, B) cu su Q :=
  fun en p e s m args below meth c T locs r X K hz hF hR hL => by
  obtain ⟨hd, rfl⟩ := hd
  subst hy
  obtain ⟨kk, wi⟩ := ok.1
  obtain ⟨T1, h1, X1, e1, W1, st⟩ := putFN X K.1 K.2.1 K.2.2.1 wl Via.refl rfl (hR.2.2.1 _ ht) hR.2.1 (wy.imp id fun q => ⟨q.1, rfl, K.2.2.2.1.trans q.2⟩) wi (ty := .boolean) (v := .int x) (v' := .int (nar .boolean x)) (by decide +kernel) rfl (fits_nar_bool x) (g := mkF m pc r (.int x :: .ref en.1 :: S.map (rv ((MoC Z cd).rho en)))) rfl rfl (hb K.by hd)
  subst e1
  exact (h en p e s m args below meth c T1 _ r X1 K (by rw [W1.size]; exact hz) (Fr.snoc X1 hF hR.1) (relC.putI ok hR ht W1) hL).pre (fun _ q => (frmC.wr W1 (Nat.le_refl _) (Nat.le_add_right _ _)).trans q) fun t q => st t q
theorem Wk.putJ (ok : CO Z a0 cd) {i : Nat} {n : String} {x : Int64} (ht : (i, n) ∈ cd.2.2.1) (wl : (Cond.fieldLink cd.1 idx cd.1 n "J").before a0 Z = true) (wy : (Cond.lays cd.1 cd.1 n "J").before a0 Z = true ∨ ((Cond.laysFinal cd.1 cd.1 n "J").before a0 Z = true ∧ (nmOf md).name = "<init>")) (hd : InsA md pc (.putfield idx) 3 pc') (h : Wk l Z (MoC Z cd) md pc' L S (k, F, ups G i x, A, B) cu su Q) : Wk l Z (MoC Z cd) md pc L (.long x :: .ref 0 :: S) (k, F, G, A, B) cu su Q :=
  fun en p e s m args below meth c T locs r X K hz hF hR hL => by
  obtain ⟨hd, rfl⟩ := hd
  obtain ⟨kk, wi⟩ := ok.1
  obtain ⟨T1, h1, X1, e1, W1, st⟩ := putF X K.1 K.2.1 K.2.2.1 (host := "") (Or.inl wl) Via.refl rfl (hR.2.2.2.1 _ ht) hR.2.1 (wy.imp id fun q => ⟨q.1, rfl, K.2.2.2.1.trans q.2⟩) wi (ty := .long) (v := .long x) (by decide +kernel) rfl rfl (g := mkF m pc r (.long x :: .ref en.1 :: S.map (rv ((MoC Z cd).rho en)))) rfl rfl (hb K.by hd)
  subst e1
  exact (h en p e s m args below meth c T1 _ r X1 K (by rw [W1.size]; exact hz) (Fr.snoc X1 hF hR.1) (relC.putJ ok hR ht W1) hL).pre (fun _ q => (frmC.wr W1 (Nat.le_refl _) (Nat.le_add_right _ _)).trans q) fun t q => st t q
/-- an array is made and laid into its field at once -/
theorem Wk.newA (ok : CO Z a0 cd) {aty : ArrayType} {len : Int32} {n d : String} {ty : FieldType} {k' : Nat} (hty : newarray.typeOf aty = ty) (wa : (Cond.arrayClass (newarray.typeOf aty)).before a0 Z = true) (ht : (k, n, d, ty, len) ∈ cd.2.2.2) (wl : (Cond.fieldLink cd.1 idx cd.1 n d).before a0 Z = true)
    (wy : (Cond.lays cd.1 cd.1 n d).before a0 Z = true ∨ ((Cond.laysFinal cd.1 cd.1 n d).before a0 Z = true ∧ (nmOf md).name = "<init>")) (hd : InsA md pc (.newarray aty) 2 pc1) (hd2 : InsA md pc1 (.putfield idx) 3 pc') (hA : A k = fun _ => 0) (hB : B k = fun _ => 0) (hk : k + 1 = k') (hcu : cu + 1 = cu') (hsu : su + len.toNatClampNeg = su')
    (hcap : len.toNatClampNeg * 8 ≤ 536870912) (hc : cu' ≤ (rmOf md).cells) (hs : su' ≤ (rmOf md).slots) (h : Wk l Z (MoC Z cd) md pc' L S (k', F, G, A, B) cu' su' Q) : Wk l Z (MoC Z cd) md pc L (.int len :: .ref 0 :: S) (k, F, G, A, B) cu su Q :=
  fun en p e s m args below meth c T locs r X K hz hF hR hL => by
  obtain ⟨hd, rfl⟩ := hd
  obtain ⟨hd2, rfl⟩ := hd2
  subst hk hcu hsu hty
  obtain ⟨kk, wi⟩ := ok.1
  have p8 := ok.2.2.2.2.2.2.2.2.2.2.2 _ ht
  obtain ⟨T1, h1, cA, X1, e1, E1, N1, st1⟩ := newP X K.1 K.2.1 wa rfl (g := mkF m pc r (.int len :: .ref en.1 :: S.map (rv ((MoC Z cd).rho en)))) rfl (hb K.by hd) rfl p8.2.2.2 (cap := len.toNatClampNeg) (Nat.le_refl _) hcap hc hs
  subst e1
  obtain ⟨T2, h2, X2, e2, W2, st2⟩ := putF X1 K.1 K.2.1 K.2.2.1 (host := "") (Or.inl wl) Via.refl rfl (((hR.2.2.2.2.1 _ ht).2 (Nat.lt_irrefl k)).ext E1) (hR.2.1.ext E1) (wy.imp id fun q => ⟨q.1, rfl, K.2.2.2.1.trans q.2⟩) wi (v := .ref T.heap.size) p8.1 rfl rfl (g := mkF m (pc + 2) r (.ref T.heap.size :: .ref en.1 :: S.map (rv ((MoC Z cd).rho en)))) rfl rfl (hb K.by hd2)
  subst e2
  have z1 := X1.heapSize
  have z2 : (T.heap.size : Nat) < T1.heap.size := N1.lt
  have z3 := W2.size
  exact (h en p e s m args below meth c T2 _ r X2 K (by omega) (Fr.snoc X2 hF hR.1) (relC.newA ok hR ht hA hB E1 N1 W2 (by omega)) hL).pre (fun _ q => ((frmC.ext E1).trans (frmC.wr W2 (Nat.le_refl _) (Nat.le_add_right _ _))).trans q) fun t q => st1 t (st2 t q)
theorem relC.arr {en : Nat × Nat} {h : Heap} {i : Nat} {n d : String} {ty : FieldType} {len : Int32} (hR : relC Z cd en (k, F, G, A, B) h) (ht : (i, n, d, ty, len) ∈ cd.2.2.2) (hi : i < k) : AtA Z h (en.1 + (i + 1)) ty len (A i) (B i) := ((hR.2.2.2.2.1 _ ht).1 hi).2
theorem Wk.iaload {i i' : Nat} {n d : String} {len x : Int32} {y : Int32} (ht : (i, n, d, .int, len) ∈ cd.2.2.2) (hi : i < k) (hi' : i + 1 = i') (h0 : ¬ x < 0) (h1 : x < len) (hd : InsA md pc .iaload 1 pc') (hy : A i x = y) (h : Wk l Z (MoC Z cd) md pc' L (.int y :: S) (k, F, G, A, B) cu su Q) : Wk l Z (MoC Z cd) md pc L (.int x :: .ref i' :: S) (k, F, G, A, B) cu su Q :=
  fun en p e s m args below meth c T locs r X K hz hF hR hL => by
  obtain ⟨hd, rfl⟩ := hd
  subst hi' hy
  obtain ⟨cl, g1, g2, g3⟩ := relC.arr hR ht hi
  exact (h en p e s m args below meth c T locs r X K hz hF hR hL).pre (fun _ q => q) fun t q => X.iaload K.1 (j := x) (v := .int (A i x)) g1.1 (State.isArrayOf_alike K.2.1.alike g1.2.1) g1.2.2 (in_of g2 h0 h1) (g3 x h0 h1) (g := mkF m pc r (.int x :: .ref (en.1 + (i + 1)) :: S.map (rv ((MoC Z cd).rho en)))) rfl rfl (hb K.by hd) _ q
theorem Wk.baload {i i' : Nat} {n d : String} {len x : Int32} {y : Int32} (ht : (i, n, d, .boolean, len) ∈ cd.2.2.2) (hi : i < k) (hi' : i + 1 = i') (h0 : ¬ x < 0) (h1 : x < len) (hd : InsA md pc .baload 1 pc') (hy : A i x = y) (h : Wk l Z (MoC Z cd) md pc' L (.int y :: S) (k, F, G, A, B) cu su Q) : Wk l Z (MoC Z cd) md pc L (.int x :: .ref i' :: S) (k, F, G, A, B) cu su Q :=
  fun en p e s m args below meth c T locs r X K hz hF hR hL => by
  obtain ⟨hd, rfl⟩ := hd
  subst hi' hy
  obtain ⟨cl, g1, g2, g3⟩ := relC.arr hR ht hi
  exact (h en p e s m args below meth c T locs r X K hz hF hR hL).pre (fun _ q => q) fun t q => X.baloadBooleans K.1 (j := x) (v := .int (A i x)) g1.1 (State.isArrayOf_alike K.2.1.alike g1.2.1) g1.2.2 (in_of g2 h0 h1) (g3 x h0 h1) (g := mkF m pc r (.int x :: .ref (en.1 + (i + 1)) :: S.map (rv ((MoC Z cd).rho en)))) rfl rfl (hb K.by hd) _ q
theorem Wk.laload {i i' : Nat} {n d : String} {len x : Int32} {y : Int64} (ht : (i, n, d, .long, len) ∈ cd.2.2.2) (hi : i < k) (hi' : i + 1 = i') (h0 : ¬ x < 0) (h1 : x < len) (hd : InsA md pc .laload 1 pc') (hy : B i x = y) (h : Wk l Z (MoC Z cd) md pc' L (.long y :: S) (k, F, G, A, B) cu su Q) : Wk l Z (MoC Z cd) md pc L (.int x :: .ref i' :: S) (k, F, G, A, B) cu su Q :=
  fun en p e s m args below meth c T locs r X K hz hF hR hL => by
  obtain ⟨hd, rfl⟩ := hd
  subst hi' hy
  obtain ⟨cl, g1, g2, g3⟩ := relC.arr hR ht hi
  exact (h en p e s m args below meth c T locs r X K hz hF hR hL).pre (fun _ q => q) fun t q => X.laload K.1 (j := x) (v := .long (B i x)) g1.1 (State.isArrayOf_alike K.2.1.alike g1.2.1) g1.2.2 (in_of g2 h0 h1) (g3 x h0 h1) (g := mkF m pc r (.int x :: .ref (en.1 + (i + 1)) :: S.map (rv ((MoC Z cd).rho en)))) rfl rfl (hb K.by hd) _ q
theorem Wk.iastore (ok : CO Z a0 cd) {f : Int32 → Int32} {i i' : Nat} {n d : String} {len x v : Int32} (ht : (i, n, d, .int, len) ∈ cd.2.2.2) (hf : A i = f) (hi : i < k) (hi' : i + 1 = i') (h0 : ¬ x < 0) (h1 : x < len) (hd : InsA md pc .iastore 1 pc') (h : Wk l Z (MoC Z cd) md pc' L S (k, F, G, ups A i (ups f x v), B) cu su Q) : Wk l Z (MoC Z cd) md pc L (.int v :: .int x :: .ref i' :: S) (k, F, G, A, B) cu su Q :=
  fun en p e s m args below meth c T locs r X K hz hF hR hL => by
  obtain ⟨hd, rfl⟩ := hd
  subst hi' hf
  obtain ⟨cl, g1, g2, g3⟩ := relC.arr hR ht hi
  obtain ⟨T1, e1', X1, e1, W1, st⟩ := stI X K.1 K.2.1 rfl g1 (in_of g2 h0 h1) (g := mkF m pc r (.int v :: .int x :: .ref (en.1 + (i + 1)) :: S.map (rv ((MoC Z cd).rho en)))) rfl rfl (hb K.by hd)
  subst e1
  have p8 := (ok.2.2.2.2.2.2.2.2.2.2.2 _ ht).2.1
  exact (h en p e s m args below meth c T1 _ r X1 K (by rw [W1.size]; exact hz) (Fr.snoc X1 hF (Nat.le_trans hR.1 (Nat.le_add_right _ _))) (relC.stI ok (by decide) h0 h1 hR ht W1) hL).pre (fun _ q => (frmC.wr W1 (Nat.le_add_right _ _) (Nat.add_le_add_left (show i + 1 ≤ cd.2.2.2.length from p8) _)).trans q) fun t q => st t q
theorem Wk.bastore (ok : CO Z a0 cd) {f : Int32 → Int32} {i i' : Nat} {n d : String} {len x v v' : Int32} (hv : nar .boolean v = v') (ht : (i, n, d, .boolean, len) ∈ cd.2.2.2) (hf : A i = f) (hi : i < k) (hi' : i + 1 = i') (h0 : ¬ x < 0) (h1 : x < len) (hd : InsA md pc .bastore 1 pc') (h : Wk l Z (MoC Z cd) md pc' L S (k, F, G, ups A i (ups f x v'), B) cu su Q) : Wk l Z (MoC Z cd) md pc L (.int v :: .int x :: .ref i' :: S) (k, F, G, A, B) cu su Q :=
  fun en p e s m args below meth c T locs r X K hz hF hR hL => by
  obtain ⟨hd, rfl⟩ := hd
  subst hi' hv hf
  obtain ⟨cl, g1, g2, g3⟩ := relC.arr hR ht hi
  obtain ⟨T1, e1', X1, e1, W1, st⟩ := stZ X K.1 K.2.1 rfl g1 (in_of g2 h0 h1) (g := mkF m pc r (.int v :: .int x :: .ref (en.1 + (i + 1)) :: S.map (rv ((MoC Z cd).rho en)))) rfl rfl (hb K.by hd)
  subst e1
  have p8 := (ok.2.2.2.2.2.2.2.2.2.2.2 _ ht).2.1
  exact (h en p e s m args below meth c T1 _ r X1 K (by rw [W1.size]; exact hz) (Fr.snoc X1 hF (Nat.le_trans hR.1 (Nat.le_add_right _ _))) (relC.stI ok (by decide) h0 h1 hR ht W1) hL).pre (fun _ q => (frmC.wr W1 (Nat.le_add_right _ _) (Nat.add_le_add_left (show i + 1 ≤ cd.2.2.2.length from p8) _)).trans q) fun t q => st t q
theorem Wk.lastore (ok : CO Z a0 cd) {f : Int32 → Int64} {i i' : Nat} {n d : String} {len x : Int32} {v : Int64} (ht : (i, n, d, .long, len) ∈ cd.2.2.2) (hf : B i = f) (hi : i < k) (hi' : i + 1 = i') (h0 : ¬ x < 0) (h1 : x < len) (hd : InsA md pc .lastore 1 pc') (h : Wk l Z (MoC Z cd) md pc' L S (k, F, G, A, ups B i (ups f x v)) cu su Q) : Wk l Z (MoC Z cd) md pc L (.long v :: .int x :: .ref i' :: S) (k, F, G, A, B) cu su Q :=
  fun en p e s m args below meth c T locs r X K hz hF hR hL => by
  obtain ⟨hd, rfl⟩ := hd
  subst hi' hf
  obtain ⟨cl, g1, g2, g3⟩ := relC.arr hR ht hi
  obtain ⟨T1, e1', X1, e1, W1, st⟩ := stJ X K.1 K.2.1 rfl g1 (in_of g2 h0 h1) (g := mkF m pc r (.long v :: .int x :: .ref (en.1 + (i + 1)) :: S.map (rv ((MoC Z cd).rho en)))) rfl rfl (hb K.by hd)
  subst e1
  have p8 := (ok.2.2.2.2.2.2.2.2.2.2.2 _ ht).2.1
  exact (h en p e s m args below meth c T1 _ r X1 K (by rw [W1.size]; exact hz) (Fr.snoc X1 hF (Nat.le_trans hR.1 (Nat.le_add_right _ _))) (relC.stJ ok h0 h1 hR ht W1) hL).pre (fun _ q => (frmC.wr W1 (Nat.le_add_right _ _) (Nat.add_le_add_left (show i + 1 ≤ cd.2.2.2.length from p8) _)).trans q) fun t q => st t q
/-- Object.<init> -/
theorem Wk.initO {μ E : Type} {M : Mode μ E} {w : μ} {Q : Option Value → μ → Prop} {v : Nat} (w1 : (Cond.methodLink M.own idx Lib.objectInit).before a0 Z = true) (w2 : (Cond.instanceMethod Lib.objectInit).before a0 Z = true) (w3 : (Cond.code Lib.objectInit ⟨#[0xb1]⟩ 1 none).before a0 Z = true) (hd : InsA md pc (.invokespecial idx) 3 pc') (hl : L.length = mxOf md) (hf : 1 ≤ (rmOf md).frames) (hW : (S.map fun v => v.category).sum + 12 ≤ (rmOf md).locals)
    (h : Wk l Z M md pc' L S w cu su Q) : Wk l Z M md pc L (.ref v :: S) w cu su Q :=
  fun en p e s m args below meth c T locs r X K hz hF hR hL => by
  obtain ⟨hd, rfl⟩ := hd
  have cs : ∀ S : List Value, ((S.map (rv (M.rho en))).map fun v => v.category).sum = (S.map fun v => v.category).sum := fun S => by rw [List.map_map]; congr 1; exact List.map_congr_left fun v _ => rv_cat _ v
  obtain ⟨T1, X1, e1, st⟩ := Jvm.RoadKit.initO X K.1 K.2.1 K.2.2.1 w1 w2 w3 rfl (g := mkF m pc r (.ref (M.rho en v) :: S.map (rv (M.rho en)))) rfl (by show r.size = _; rw [hL.1, hl]; exact K.2.2.2.2.2.2.2.symm) rfl (hb K.by hd) hf (W := (S.map fun v => v.category).sum) (by show 2 * 0 + _ ≤ _; rw [cs]; omega) hW
  exact (h en p e s m args below meth c T1 locs r X1 K (by rw [e1]; exact hz) hF (by rw [e1]; exact hR) hL).pre (fun _ q => by rw [e1] at q; exact q) fun t q => st t q
end StepsC
end Jvm.Own

namespace Jvm.Own
open Jvm Jvm.ClassFile Sem Op Lib Jvm.Free Jvm.Stand Jvm.LawKit Jvm.RoadKit
/-! ## 4. Calls -/
def noRef : List Value → Bool
  | [] => true
  | .ref _ :: _ => false
  | _ :: t => noRef t
theorem noRef.map : (as : List Value) → noRef as = true → ∀ ρ, as.map (rv ρ) = as
  | [], _, _ => rfl
  | .ref _ :: _, h, _ => by cases h
  | .int _ :: t, h, ρ => by rw [List.map_cons, noRef.map t h ρ]; rfl
  | .long _ :: t, h, ρ => by rw [List.map_cons, noRef.map t h ρ]; rfl
  | .float _ :: t, h, ρ => by rw [List.map_cons, noRef.map t h ρ]; rfl
  | .double _ :: t, h, ρ => by rw [List.map_cons, noRef.map t h ρ]; rfl
  | .null :: t, h, ρ => by rw [List.map_cons, noRef.map t h ρ]; rfl
  | .retAddr _ :: t, h, ρ => by rw [List.map_cons, noRef.map t h ρ]; rfl
/-- what the words say of a callee: an instance method -/
def CalV (Z : State) (a0 : Array Value) (md : MD) (n : Nat) : Prop :=
  plainName (nmOf md).cls = true ∧ ((nmOf md).cls ≠ "java/lang/invoke/MethodHandle" ∧ (nmOf md).cls ≠ "java/lang/invoke/VarHandle") ∧ (∀ sig, parseMethodDescriptor (nmOf md).desc = some sig → n = sig.parameters.length) ∧
  (Cond.instanceMethod (nmOf md)).before a0 Z = true ∧ (Cond.code (nmOf md) (byOf md) (mxOf md) (rtOf md)).before a0 Z = true ∧ (Cond.initialized (nmOf md).cls).before a0 Z = true ∧
  (((Cond.declares (nmOf md)).before a0 Z = true ∧ (Cond.selects (nmOf md).cls (nmOf md) (nmOf md)).before a0 Z = true) ∨ ((Cond.privateMethod (nmOf md)).before a0 Z = true ∧ ∃ kk, (Cond.instantiable (nmOf md).cls kk).before a0 Z = true))
/-- a constructor -/
def CalI (Z : State) (a0 : Array Value) (md : MD) (n : Nat) : Prop :=
  plainName (nmOf md).cls = true ∧ ((nmOf md).cls ≠ "java/lang/invoke/MethodHandle" ∧ (nmOf md).cls ≠ "java/lang/invoke/VarHandle") ∧ (∀ sig, parseMethodDescriptor (nmOf md).desc = some sig → n = sig.parameters.length) ∧
  (Cond.instanceMethod (nmOf md)).before a0 Z = true ∧ (Cond.code (nmOf md) (byOf md) (mxOf md) (rtOf md)).before a0 Z = true ∧ (Cond.initialized (nmOf md).cls).before a0 Z = true ∧ (nmOf md).name = "<init>" ∧ rtOf md = none
/-- a static method -/
def CalS (Z : State) (a0 : Array Value) (md : MD) (n : Nat) : Prop :=
  plainName (nmOf md).cls = true ∧ ((nmOf md).cls ≠ "java/lang/invoke/MethodHandle" ∧ (nmOf md).cls ≠ "java/lang/invoke/VarHandle") ∧ (∀ sig, parseMethodDescriptor (nmOf md).desc = some sig → n = sig.parameters.length) ∧
  (Cond.static (nmOf md)).before a0 Z = true ∧ (Cond.code (nmOf md) (byOf md) (mxOf md) (rtOf md)).before a0 Z = true ∧ (Cond.initialized (nmOf md).cls).before a0 Z = true
/-- the figures of a call: the operands under it weigh wt -/
def Fits (md md' : MD) (wt cu su cu' su' : Nat) : Prop :=
  (rmOf md').frames + 1 ≤ (rmOf md).frames ∧ wt + (mxOf md' + 11) + (rmOf md').locals ≤ (rmOf md).locals ∧ cu + (rmOf md').cells = cu' ∧ su + (rmOf md').slots = su' ∧ cu' ≤ (rmOf md).cells ∧ su' ≤ (rmOf md).slots ∧ exOf md' = (rmOf md').cells
instance (md md' : MD) (wt cu su cu' su' : Nat) : Decidable (Fits md md' wt cu su cu' su') := by unfold Fits; infer_instance
section Core
variable {μ E : Type} {l : Launch} {Z : State} {a0 : Array Value} {M' : Mode μ E} {md md' : MD} {own : String} {p : Program} {e : Env} {s : State} {m : MethodId} {args : Array Value} {below : List Frame} {meth : Method} {c : Code} {T : State} {locs : List Loc} {cu su cu' su' wt pc idx : Nat} {as : List Value} {L' : List Slot} {w : μ} {Q' : Option Value → μ → Prop} {en : E} {a : Addr} {r : Array Slot} {rest : List Value}
theorem coreV (X : Stand p l e (rmOf md) s m args below meth c T locs cu su) (K : Kn Z own md p s m meth c) (hd : decode (byOf md) pc = .ok (.invokevirtual idx, 3)) (wl : (Cond.methodLink own idx (nmOf md')).before a0 Z = true) (cv : CalV Z a0 md' as.length) (hcal : Wk l Z M' md' 0 L' [] w 0 0 Q') (ho : M'.own = (nmOf md').cls) (hR : M'.rel en w T.heap) (hE : Exa Z T.heap a (nmOf md').cls) (ha : M'.rho en 0 = a)
    (hL : (argsToLocals (.ref 0 :: as).toArray (mxOf md')).toList = L') (hw : wfL L' = true) (ft : Fits md md' wt cu su cu' su') (hr : r.size = mxOf md) (hrest : (rest.map fun v => v.category).sum ≤ wt) :
    ∃ v T1 Lc w1, Stand p l e (rmOf md) s m args below meth c T1 (locs ++ Lc) cu' su' ∧ Q' v w1 ∧ M'.rel en w1 T1.heap ∧ M'.frm en T.heap T1.heap ∧ Fr (M'.lo en) Lc ∧ T1.heap.size = T.heap.size + exOf md' ∧ (∀ ρ x, v = some x → rv ρ x = x) ∧
      ∀ t, Steps p.tables e below (T1.setTop (mkF m (pc + 3) r (v.toList ++ rest))) t → Steps p.tables e below (T.setTop (mkF m pc r ((as.map (rv (M'.rho en))).reverse ++ .ref a :: rest))) t := by
  obtain ⟨v1, v2, v3, v4, v5, v6, v7⟩ := cv
  obtain ⟨f1, f2, f3, f4, f5, f6, f7⟩ := ft
  subst f3 f4 ha
  obtain ⟨hx, hZ, hown, -, -, -, hby, hml⟩ := K
  have bk := backOf (s := s) (args := args) (p := p) (e := e) (below := below) (len := 3) (W := wt) (R := rmOf md) (Q := fun v hh Lc => ∃ w', Q' v w' ∧ M'.rel en w' hh ∧ M'.frm en T.heap hh ∧ Fr (M'.lo en) Lc ∧ hh.size = T.heap.size + exOf md' ∧ ∀ ρ x, v = some x → rv ρ x = x) (hcal.met v1 ho hR (.ref 0 :: as) hL hw []) hZ v5 v6 f1 f2
  have hlen : ∀ sig, parseMethodDescriptor (nmOf md').desc = some sig → (as.map (rv (M'.rho en))).length = sig.parameters.length := fun sig q => by rw [List.length_map]; exact v3 sig q
  rcases v7 with ⟨d1, d2⟩ | ⟨d1, kk, d2⟩
  · obtain ⟨cq, kq, qa, qb, qc⟩ := isOf (T := T) hZ rfl hE
    obtain ⟨v, _, ⟨T1, L1, k1, n1⟩, -, X1, ⟨Lc, hQ, l1, y1, z1⟩, st⟩ := X.virtualBack hx (y := nmOf md') (z := nmOf md') hown (mvT hZ wl) (mvT hZ d1) (notFace_of_selects (args := #[]) (mvT hZ d2)) (mvT hZ d2) (mvT hZ v4) v2 bk qa qc (g := mkF m pc r ((as.map (rv (M'.rho en))).reverse ++ .ref (M'.rho en 0) :: rest)) rfl (hr.trans hml.symm) (Steps.refl _) (argsL := as.map (rv (M'.rho en))) (rest := rest) hlen rfl (by show 2 * 0 + _ ≤ _; omega) (hb hby hd) (fun _ _ => ⟨rfl, rfl, f5, f6⟩)
    dsimp only [Pt.U, Pt.locs, Pt.cells, Pt.slots] at X1 l1 y1 z1 st hQ
    subst l1 y1 z1
    obtain ⟨w1, q1, q2, q3, q4, q5, q6⟩ := hQ
    exact ⟨v, T1, Lc, w1, X1, q1, q2, q3, q4, q5, q6, fun t q => st.trans q⟩
  · obtain ⟨cc, kc, i1, i2, i3, i4, -⟩ := Cond.instantiable_spec (mvT (s := s) (args := #[]) hZ d2)
    have hni : kc.isInterface = false := by cases hq : kc.isInterface <;> simp [hq] at i4 ⊢
    have pv : s.PrivateAt (nmOf md') := Cond.privateMethod_at (mvP hZ d1 (args := #[]))
    have sel : (Cond.selects (nmOf md').cls (nmOf md') (nmOf md')).before args s = true := selects_self_of_private i1 i2 hni pv (mvT hZ v4) v2
    obtain ⟨cq, q7, q7'⟩ := hE.cell
    obtain ⟨v, _, ⟨T1, L1, k1, n1⟩, -, X1, ⟨Lc, hQ, l1, y1, z1⟩, st⟩ := X.privateBack hx (y := nmOf md') hown (mvT hZ wl) (mvT hZ v4) sel pv (mvT hZ v5) v2 bk (g := mkF m pc r ((as.map (rv (M'.rho en))).reverse ++ .ref (M'.rho en 0) :: rest)) rfl (hr.trans hml.symm) (Steps.refl _) (a := M'.rho en 0) q7 q7' (argsL := as.map (rv (M'.rho en))) (rest := rest) hlen rfl (by show 2 * 0 + _ ≤ _; omega) (hb hby hd) (fun _ _ => ⟨rfl, rfl, f5, f6⟩)
    dsimp only [Pt.U, Pt.locs, Pt.cells, Pt.slots] at X1 l1 y1 z1 st hQ
    subst l1 y1 z1
    obtain ⟨w1, q1, q2, q3, q4, q5, q6⟩ := hQ
    exact ⟨v, T1, Lc, w1, X1, q1, q2, q3, q4, q5, q6, fun t q => st.trans q⟩
theorem coreI (X : Stand p l e (rmOf md) s m args below meth c T locs cu su) (K : Kn Z own md p s m meth c) (hd : decode (byOf md) pc = .ok (.invokespecial idx, 3)) (wl : (Cond.methodLink own idx (nmOf md')).before a0 Z = true) (cv : CalI Z a0 md' as.length) (hcal : Wk l Z M' md' 0 L' [] w 0 0 Q') (ho : M'.own = (nmOf md').cls) (hR : M'.rel en w T.heap) (ha : M'.rho en 0 = a)
    (hL : (argsToLocals (.ref 0 :: as).toArray (mxOf md')).toList = L') (hw : wfL L' = true) (ft : Fits md md' wt cu su cu' su') (hr : r.size = mxOf md) (hrest : (rest.map fun v => v.category).sum ≤ wt) :
    ∃ v T1 Lc w1, Stand p l e (rmOf md) s m args below meth c T1 (locs ++ Lc) cu' su' ∧ Q' v w1 ∧ M'.rel en w1 T1.heap ∧ M'.frm en T.heap T1.heap ∧ Fr (M'.lo en) Lc ∧ T1.heap.size = T.heap.size + exOf md' ∧ (∀ ρ x, v = some x → rv ρ x = x) ∧
      ∀ t, Steps p.tables e below (T1.setTop (mkF m (pc + 3) r (v.toList ++ rest))) t → Steps p.tables e below (T.setTop (mkF m pc r ((as.map (rv (M'.rho en))).reverse ++ .ref a :: rest))) t := by
  obtain ⟨v1, v2, v3, v4, v5, v6, v7, v8⟩ := cv
  obtain ⟨f1, f2, f3, f4, f5, f6, f7⟩ := ft
  subst f3 f4 ha
  obtain ⟨hx, hZ, hown, -, -, -, hby, hml⟩ := K
  have bk := backOf (s := s) (args := args) (p := p) (e := e) (below := below) (len := 3) (W := wt) (R := rmOf md) (Q := fun v hh Lc => ∃ w', Q' v w' ∧ M'.rel en w' hh ∧ M'.frm en T.heap hh ∧ Fr (M'.lo en) Lc ∧ hh.size = T.heap.size + exOf md' ∧ ∀ ρ x, v = some x → rv ρ x = x) (hcal.met v1 ho hR (.ref 0 :: as) hL hw []) hZ v5 v6 f1 f2
  have hlen : ∀ sig, parseMethodDescriptor (nmOf md').desc = some sig → (as.map (rv (M'.rho en))).length = sig.parameters.length := fun sig q => by rw [List.length_map]; exact v3 sig q
  rw [v8] at v5
  obtain ⟨v, _, ⟨T1, L1, k1, n1⟩, -, X1, ⟨Lc, hQ, l1, y1, z1⟩, st⟩ := X.specialBack hx (y := nmOf md') v7 hown (mvT hZ wl) (mvT hZ v4) (mvT hZ v5) v2 bk (g := mkF m pc r ((as.map (rv (M'.rho en))).reverse ++ .ref (M'.rho en 0) :: rest)) rfl (hr.trans hml.symm) (Steps.refl _) (a := M'.rho en 0) (argsL := as.map (rv (M'.rho en))) (rest := rest) hlen rfl (by show 2 * 0 + _ ≤ _; omega) (hb hby hd) (fun _ _ => ⟨rfl, rfl, f5, f6⟩)
  dsimp only [Pt.U, Pt.locs, Pt.cells, Pt.slots] at X1 l1 y1 z1 st hQ
  subst l1 y1 z1
  obtain ⟨w1, q1, q2, q3, q4, q5, q6⟩ := hQ
  exact ⟨v, T1, Lc, w1, X1, q1, q2, q3, q4, q5, q6, fun t q => st.trans q⟩
theorem coreS (X : Stand p l e (rmOf md) s m args below meth c T locs cu su) (K : Kn Z own md p s m meth c) (hd : decode (byOf md) pc = .ok (.invokestatic idx, 3)) (wl : (Cond.methodLink own idx (nmOf md')).before a0 Z = true) (cv : CalS Z a0 md' as.length) (hcal : Wk l Z M' md' 0 L' [] w 0 0 Q') (ho : M'.own = (nmOf md').cls) (hR : M'.rel en w T.heap)
    (hL : (argsToLocals as.toArray (mxOf md')).toList = L') (hw : wfL L' = true) (ft : Fits md md' wt cu su cu' su') (hr : r.size = mxOf md) (hrest : (rest.map fun v => v.category).sum ≤ wt) :
    ∃ v T1 Lc w1, Stand p l e (rmOf md) s m args below meth c T1 (locs ++ Lc) cu' su' ∧ Q' v w1 ∧ M'.rel en w1 T1.heap ∧ M'.frm en T.heap T1.heap ∧ Fr (M'.lo en) Lc ∧ T1.heap.size = T.heap.size + exOf md' ∧ (∀ ρ x, v = some x → rv ρ x = x) ∧
      ∀ t, Steps p.tables e below (T1.setTop (mkF m (pc + 3) r (v.toList ++ rest))) t → Steps p.tables e below (T.setTop (mkF m pc r ((as.map (rv (M'.rho en))).reverse ++ rest))) t := by
  obtain ⟨v1, v2, v3, v4, v5, v6⟩ := cv
  obtain ⟨f1, f2, f3, f4, f5, f6, f7⟩ := ft
  subst f3 f4
  obtain ⟨hx, hZ, hown, -, -, -, hby, hml⟩ := K
  have bk := backOf (s := s) (args := args) (p := p) (e := e) (below := below) (len := 3) (W := wt) (R := rmOf md) (Q := fun v hh Lc => ∃ w', Q' v w' ∧ M'.rel en w' hh ∧ M'.frm en T.heap hh ∧ Fr (M'.lo en) Lc ∧ hh.size = T.heap.size + exOf md' ∧ ∀ ρ x, v = some x → rv ρ x = x) (hcal.met v1 ho hR as hL hw []) hZ v5 v6 f1 f2
  have hlen : ∀ sig, parseMethodDescriptor (nmOf md').desc = some sig → (as.map (rv (M'.rho en))).length = sig.parameters.length := fun sig q => by rw [List.length_map]; exact v3 sig q
  obtain ⟨v, _, ⟨T1, L1, k1, n1⟩, -, X1, ⟨Lc, hQ, l1, y1, z1⟩, st⟩ := Jvm.LawKit.callS X hx (y := nmOf md') hown (mvT hZ wl) (mvT hZ v4) (mvT hZ v6) (mvT hZ v5) v2 bk (g := mkF m pc r ((as.map (rv (M'.rho en))).reverse ++ rest)) rfl (hr.trans hml.symm) (argsL := as.map (rv (M'.rho en))) (rest := rest) hlen rfl (by show 2 * 0 + _ ≤ _; omega) (hb hby hd) (fun _ _ => ⟨rfl, rfl, f5, f6⟩)
  dsimp only [Pt.U, Pt.locs, Pt.cells, Pt.slots] at X1 l1 y1 z1 st hQ
  subst l1 y1 z1
  obtain ⟨w1, q1, q2, q3, q4, q5, q6⟩ := hQ
  exact ⟨v, T1, Lc, w1, X1, q1, q2, q3, q4, q5, q6, fun t q => st t q⟩
end Core
theorem cat_map (ρ : Nat → Addr) (S : List Value) : ((S.map (rv ρ)).map fun v => v.category).sum = (S.map fun v => v.category).sum := by
  rw [List.map_map]; congr 1; exact List.map_congr_left fun v _ => rv_cat _ v
theorem res_map {ρ : Nat → Addr} {v : Option Value} (h : ∀ ρ x, v = some x → rv ρ x = x) (S : List Value) : (v.toList ++ S).map (rv ρ) = v.toList ++ S.map (rv ρ) := by
  cases v with
  | none => rfl
  | some x => simp [h ρ x rfl]
section CallsC
variable {l : Launch} {Z : State} {a0 : Array Value} {cd : CD} {md md' : MD} {pc pc' wt idx : Nat} {L L' : List Slot} {S stk as : List Value} {w : WO} {cu su cu' su' : Nat} {Q Q' : Option Value → WO → Prop}
/-- a method of the same object -/
theorem Wk.callC (as : List Value) (S : List Value) (hs : stk = as.reverse ++ .ref 0 :: S) (wl : (Cond.methodLink cd.1 idx (nmOf md')).before a0 Z = true) (cv : CalV Z a0 md' as.length) (hc : (nmOf md').cls = cd.1) (nr : noRef as = true) (hcal : Wk l Z (MoC Z cd) md' 0 L' [] w 0 0 Q') (hL' : (argsToLocals (.ref 0 :: as).toArray (mxOf md')).toList = L') (hw : wfL L' = true) (hl : L.length = mxOf md)
    (hwt : (S.map fun v => v.category).sum = wt) (ft : Fits md md' wt cu su cu' su') (hd : InsA md pc (.invokevirtual idx) 3 pc') (h : ∀ v w', Q' v w' → Wk l Z (MoC Z cd) md pc' L (v.toList ++ S) w' cu' su' Q) : Wk l Z (MoC Z cd) md pc L stk w cu su Q :=
  fun en p e s m args below meth c T locs r X K hz hF hR hL => by
  obtain ⟨hd, rfl⟩ := hd
  subst hs
  obtain ⟨v, T1, Lc, w1, X1, q1, q2, q3, q4, q5, q6, st⟩ := coreV (M' := MoC Z cd) (en := en) (r := r) (rest := S.map (rv ((MoC Z cd).rho en))) X K hd wl cv hcal hc.symm hR (by rw [hc]; exact hR.2.1) rfl hL' hw ft (hL.1.trans hl) (by rw [cat_map]; omega)
  have f7 := ft.2.2.1
  have f8 := ft.2.2.2.2.2.2
  have em : (as.reverse ++ .ref 0 :: S).map (rv ((MoC Z cd).rho en)) = (as.map (rv ((MoC Z cd).rho en))).reverse ++ .ref ((MoC Z cd).rho en 0) :: S.map (rv ((MoC Z cd).rho en)) := by rw [List.map_append, List.map_reverse]; rfl
  have D := h v w1 q1 en p e s m args below meth c T1 _ r X1 K (by omega) (hF.app q4) q2 hL
  rw [res_map q6] at D
  rw [em]
  exact D.pre (fun _ q => frmC.trans q3 q) st
end CallsC
section CallsS
variable {μ E : Type} {l : Launch} {Z : State} {a0 : Array Value} {M : Mode μ E} {md md' : MD} {pc pc' wt idx : Nat} {L L' : List Slot} {S stk as : List Value} {w : μ} {cu su cu' su' : Nat} {Q Q' : Option Value → μ → Prop}
/-- a static method, in the same mode -/
theorem Wk.callS (hM : ∀ en h1 h2 h3, M.frm en h1 h2 → M.frm en h2 h3 → M.frm en h1 h3) (as : List Value) (S : List Value) (hs : stk = as.reverse ++ S) (wl : (Cond.methodLink M.own idx (nmOf md')).before a0 Z = true) (cv : CalS Z a0 md' as.length) (hc : (nmOf md').cls = M.own) (hcal : Wk l Z M md' 0 L' [] w 0 0 Q') (hL' : (argsToLocals as.toArray (mxOf md')).toList = L') (hw : wfL L' = true) (hl : L.length = mxOf md)
    (hwt : (S.map fun v => v.category).sum = wt) (ft : Fits md md' wt cu su cu' su') (hd : InsA md pc (.invokestatic idx) 3 pc') (h : ∀ v w', Q' v w' → Wk l Z M md pc' L (v.toList ++ S) w' cu' su' Q) : Wk l Z M md pc L stk w cu su Q :=
  fun en p e s m args below meth c T locs r X K hz hF hR hL => by
  obtain ⟨hd, rfl⟩ := hd
  subst hs
  obtain ⟨v, T1, Lc, w1, X1, q1, q2, q3, q4, q5, q6, st⟩ := coreS (M' := M) (en := en) (r := r) (rest := S.map (rv (M.rho en))) X K hd wl cv hcal hc.symm hR hL' hw ft (hL.1.trans hl) (by rw [cat_map]; omega)
  have f7 := ft.2.2.1
  have f8 := ft.2.2.2.2.2.2
  have em : (as.reverse ++ S).map (rv (M.rho en)) = (as.map (rv (M.rho en))).reverse ++ S.map (rv (M.rho en)) := by rw [List.map_append, List.map_reverse]
  have D := h v w1 q1 en p e s m args below meth c T1 _ r X1 K (by omega) (hF.app q4) q2 hL
  rw [res_map q6] at D
  rw [em]
  exact D.pre (fun _ q => hM _ _ _ _ q3 q) st
end CallsS
/-! ## 5. The law's own level: a script of ints (or none) and some objects, made one behind the other -/
abbrev WL : Type := Int32 × (Int32 → Int32) × List WO
def w0 : WO := (0, fun _ => 0, fun _ => 0, fun _ _ => 0, fun _ _ => 0)
def rhoL (cd : CD) (en : Nat × Nat) : Nat → Addr
  | 0 => en.2
  | i + 1 => en.1 + i * (cd.2.2.2.length + 1)
def relL (Z : State) (cd : CD) (sc : Bool) (en : Nat × Nat) (w : WL) (h : Heap) : Prop :=
  (sc = true → en.2 < en.1 ∧ ¬ w.1 < 0 ∧ AtA Z h en.2 .int w.1 w.2.1 (fun _ => 0)) ∧ (∀ i x, w.2.2[i]? = some x → relC Z cd (en.1 + i * (cd.2.2.2.length + 1), en.1) x h) ∧ h.size = en.1 + (w.2.2.map fun x => x.1 + 1).sum
abbrev MoL (Z : State) (cd : CD) (own : String) (sc : Bool) : Mode WL (Nat × Nat) := (own, rhoL cd, fun en => en.1, relL Z cd sc, fun _ _ _ => True)
def allK (n : Nat) : List WO → Prop
  | [] => True
  | x :: t => x.1 = n ∧ allK n t
theorem allK.get {n : Nat} : (ws : List WO) → allK n ws → ∀ (i : Nat) (x : WO), ws[i]? = some x → x.1 = n
  | [], _, i, x, h => by simp at h
  | y :: t, h, i, x, e => by
    cases i with
    | zero => simp at e; rw [← e]; exact h.1
    | succ i => exact allK.get t h.2 i x (by simpa using e)
theorem allK.sum {n : Nat} : {ws : List WO} → allK n ws → (ws.map fun x => x.1 + 1).sum = ws.length * (n + 1)
  | [], _ => by simp
  | y :: t, h => by rw [List.map_cons, List.sum_cons, allK.sum (ws := t) h.2, h.1, List.length_cons, Nat.add_mul]; omega
theorem sum_set : (ws : List WO) → (i : Nat) → (x y : WO) → ws[i]? = some x → ((ws.set i y).map fun x => x.1 + 1).sum + x.1 = (ws.map fun x => x.1 + 1).sum + y.1
  | [], i, x, y, h => by simp at h
  | z :: t, 0, x, y, h => by simp at h; subst h; simp; omega
  | z :: t, i + 1, x, y, h => by have := sum_set t i x y (by simpa using h); simp only [List.set_cons_succ, List.map_cons, List.sum_cons]; omega
section Keep
variable {Z : State} {cd : CD} {en : Nat × Nat} {h h' : Heap} {w : WO}
theorem Fld.cells {a : Addr} {C n d : String} {v : Value} (H : Fld Z h a C n d v) (q : ∀ c, h[a]? = some c → h'[a]? = some c) : Fld Z h' a C n d v := by
  obtain ⟨cell, cf, k, i, f, h1, r⟩ := H; exact ⟨cell, cf, k, i, f, q _ h1, r⟩
theorem Exa.cells {a : Addr} {C : String} (H : Exa Z h a C) (q : ∀ c, h[a]? = some c → h'[a]? = some c) : Exa Z h' a C := by
  obtain ⟨cell, k, h1, r⟩ := H; exact ⟨cell, k, q _ h1, r⟩
theorem AtA.cells {b : Addr} {ty : FieldType} {n : Int32} {f : Int32 → Int32} {g : Int32 → Int64} (H : AtA Z h b ty n f g) (q : ∀ c, h[b]? = some c → h'[b]? = some c) : AtA Z h' b ty n f g := by
  obtain ⟨cl, h1, r⟩ := H; exact ⟨cl, ⟨q _ h1.1, h1.2⟩, r⟩
theorem relC.cells (okA : ∀ t ∈ cd.2.2.2, t.1 < cd.2.2.2.length) (hR : relC Z cd en w h) (hk : w.1 = cd.2.2.2.length) (q : ∀ x c, en.1 ≤ x → x ≤ en.1 + cd.2.2.2.length → h[x]? = some c → h'[x]? = some c) : relC Z cd en w h' := by
  obtain ⟨r1, r2, r3, r4, r5, r6⟩ := hR
  have q0 := fun c => q en.1 c (Nat.le_refl _) (Nat.le_add_right _ _)
  refine ⟨r1, Exa.cells r2 q0, fun t m => Fld.cells (r3 t m) q0, fun t m => Fld.cells (r4 t m) q0, fun t m => ⟨fun k => ⟨Fld.cells ((r5 t m).1 k).1 q0, AtA.cells ((r5 t m).1 k).2 fun c => q _ c (Nat.le_add_right _ _) (by have := okA t m; omega)⟩, fun k => Fld.cells ((r5 t m).2 k) q0⟩, fun k => absurd k (by omega)⟩
end Keep
theorem apart {N i j n x : Nat} (hne : j ≠ i) (h1 : n + j * (N + 1) ≤ x) (h2 : x ≤ n + j * (N + 1) + N) : x < n + i * (N + 1) ∨ n + i * (N + 1) + N < x := by
  rcases Nat.lt_or_gt_of_ne hne with q | q
  · left
    have := Nat.mul_le_mul_right (N + 1) (show j + 1 ≤ i from q)
    rw [Nat.add_mul] at this
    omega
  · right
    have := Nat.mul_le_mul_right (N + 1) (show i + 1 ≤ j from q)
    rw [Nat.add_mul] at this
    omega
/-- one object's walk, seen from the law's level -/
theorem relL.step {Z : State} {cd : CD} {sc : Bool} {en : Nat × Nat} {sl : Int32} {sv : Int32 → Int32} {ws : List WO} {h h' : Heap} {i : Nat} {x y : WO} (okA : ∀ t ∈ cd.2.2.2, t.1 < cd.2.2.2.length) (hR : relL Z cd sc en (sl, sv, ws) h) (hi : ws[i]? = some x) (hoth : ∀ j z, ws[j]? = some z → j ≠ i → z.1 = cd.2.2.2.length)
    (hy : relC Z cd (en.1 + i * (cd.2.2.2.length + 1), en.1) y h') (hf : frmC cd (en.1 + i * (cd.2.2.2.length + 1), en.1) h h') (hz : h'.size + x.1 = h.size + y.1) : relL Z cd sc en (sl, sv, ws.set i y) h' := by
  obtain ⟨r1, r2, r3⟩ := hR
  refine ⟨fun q => ?_, fun j z hj => ?_, ?_⟩
  · obtain ⟨a1, a2, a3⟩ := r1 q
    refine ⟨a1, a2, AtA.cells a3 fun c hc => hf.2 _ c hc (Or.inl ?_)⟩
    show en.2 < en.1 + i * (cd.2.2.2.length + 1)
    omega
  · have hj' : (ws.set i y)[j]? = some z := hj
    rw [List.getElem?_set] at hj'
    by_cases e : i = j
    · subst e
      have : i < ws.length := (List.getElem?_eq_some_iff.mp hi).1
      simp [this] at hj'
      subst hj'
      exact hy
    · rw [if_neg e] at hj'
      exact relC.cells okA (r2 j z hj') (hoth j z hj' (Ne.symm e)) fun a c h1 h2 hc => hf.2 a c hc (apart (Ne.symm e) h1 h2)
  · have s1 := sum_set ws i x y hi
    have s2 : h.size = en.1 + (ws.map fun x => x.1 + 1).sum := r3
    show h'.size = en.1 + ((ws.set i y).map fun x => x.1 + 1).sum
    omega
section StepsL
variable {l : Launch} {Z : State} {a0 : Array Value} {cd : CD} {own : String} {sc : Bool} {md md' : MD} {pc pc' wt idx : Nat} {L L' : List Slot} {S stk as : List Value} {sl : Int32} {sv : Int32 → Int32} {ws ws' : List WO} {cu su cu' su' : Nat} {Q : Option Value → WL → Prop} {Q' : Option Value → WO → Prop}
theorem Wk.lenL (hd : InsA md pc .arraylength 1 pc') (h : Wk l Z (MoL Z cd own true) md pc' L (.int sl :: S) (sl, sv, ws) cu su Q) : Wk l Z (MoL Z cd own true) md pc L (.ref 0 :: S) (sl, sv, ws) cu su Q :=
  fun en p e s m args below meth c T locs r X K hz hF hR hL => by
  obtain ⟨hd, rfl⟩ := hd
  obtain ⟨a1, a2, cl, g1, g2, g3⟩ := hR.1 rfl
  have e1 : cl.slots.size.toInt32 = sl := by rw [g2]; exact (back32 a2).1
  refine (h en p e s m args below meth c T locs r X K hz hF hR hL).pre (fun _ q => q) fun t q => X.arraylength K.1 g1.1 (State.isArrayOf_alike K.2.1.alike g1.2.1) (g := mkF m pc r (.ref en.2 :: S.map (rv (rhoL cd en)))) rfl rfl (hb K.by hd) _ (by rw [e1]; exact q)
theorem Wk.ialoadL {x : Int32} (h0 : ¬ x < 0) (h1 : x < sl) (hd : InsA md pc .iaload 1 pc') (h : Wk l Z (MoL Z cd own true) md pc' L (.int (sv x) :: S) (sl, sv, ws) cu su Q) : Wk l Z (MoL Z cd own true) md pc L (.int x :: .ref 0 :: S) (sl, sv, ws) cu su Q :=
  fun en p e s m args below meth c T locs r X K hz hF hR hL => by
  obtain ⟨hd, rfl⟩ := hd
  obtain ⟨a1, a2, cl, g1, g2, g3⟩ := hR.1 rfl
  exact (h en p e s m args below meth c T locs r X K hz hF hR hL).pre (fun _ q => q) fun t q => X.iaload K.1 (j := x) (v := .int (sv x)) g1.1 (State.isArrayOf_alike K.2.1.alike g1.2.1) g1.2.2 (in_of g2 h0 h1) (g3 x h0 h1) (g := mkF m pc r (.int x :: .ref en.2 :: S.map (rv (rhoL cd en)))) rfl rfl (hb K.by hd) _ q
theorem Wk.newL (ok : CO Z a0 cd) {kk i' : Nat} (wc : (Cond.classLink own idx cd.1).before a0 Z = true) (wi : (Cond.instantiable cd.1 kk).before a0 Z = true) (wz : (Cond.initialized cd.1).before a0 Z = true) (hd : InsA md pc (.new idx) 3 pc') (hall : allK cd.2.2.2.length ws) (hi : ws.length + 1 = i') (hws : ws ++ [w0] = ws') (hcu : cu + 1 = cu') (hsu : su + kk = su') (hc : cu' ≤ (rmOf md).cells) (hs : su' ≤ (rmOf md).slots)
    (h : Wk l Z (MoL Z cd own sc) md pc' L (.ref i' :: S) (sl, sv, ws') cu' su' Q) : Wk l Z (MoL Z cd own sc) md pc L S (sl, sv, ws) cu su Q :=
  fun en p e s m args below meth c T locs r X K hz hF hR hL => by
  obtain ⟨hd, rfl⟩ := hd
  subst hi hws hcu hsu
  obtain ⟨T1, h1, X1, e1, E1, A1, D1, -, st⟩ := newO X K.1 K.2.1 K.2.2.1 wc wi wz rfl (g := mkF m pc r (S.map (rv (rhoL cd en)))) rfl (hb K.by hd) hc hs
  subst e1
  obtain ⟨r1, r2, r3⟩ := hR
  have r3' : T.heap.size = en.1 + (ws.map fun x => x.1 + 1).sum := r3
  have sm := hall.sum
  have z1 := X1.heapSize
  have z2 : (T.heap.size : Nat) < T1.heap.size := A1.lt
  have ea : T.heap.size = en.1 + ws.length * (cd.2.2.2.length + 1) := by rw [r3', sm]
  have okp := ok.2.2.2.2
  obtain ⟨q1, q2, q3, q4, q5, q6, q7, q8⟩ := okp
  have rel1 : relL Z cd sc en (sl, sv, ws ++ [w0]) T1.heap := by
    refine ⟨fun q => ⟨(r1 q).1, (r1 q).2.1, (r1 q).2.2.ext E1⟩, fun j z hj => ?_, ?_⟩
    · have hj' : (ws ++ [w0])[j]? = some z := hj
      by_cases e : j < ws.length
      · rw [List.getElem?_append_left e] at hj'
        exact relC.cells (fun t m => (q8 t m).2.1) (r2 j z hj') (allK.get _ hall _ _ hj') fun a c _ _ hc => E1.2 a c hc
      · have e2 : j = ws.length := by
          have := (List.getElem?_eq_some_iff.mp hj').1
          simp at this; omega
        subst e2
        simp at hj'
        subst hj'
        rw [← ea]
        refine ⟨by show en.1 ≤ T.heap.size; omega, A1, fun t m => ?_, fun t m => ?_, fun t m => ⟨fun k => absurd k (Nat.not_lt_zero _), fun _ => ?_⟩, fun _ => by show T1.heap.size = T.heap.size + 1 + 0; omega⟩
        · rcases q7 t m with q | q
          · exact D1 (ok.2.1 t m) q
          · exact D1 (ok.2.1 t m) q
        · exact D1 (ok.2.2.1 t m) pJ
        · exact D1 (ok.2.2.2.1 t m) (q8 t m).1
    · show T1.heap.size = en.1 + ((ws ++ [w0]).map fun x => x.1 + 1).sum
      rw [List.map_append, List.sum_append]
      show T1.heap.size = en.1 + ((ws.map fun x => x.1 + 1).sum + 1)
      omega
  refine (h en p e s m args below meth c T1 locs r X1 K (by omega) hF rel1 hL).pre (fun _ _ => trivial) fun t q => st t ?_
  rw [ea]
  exact q
theorem Wk.callLC (ok : CO Z a0 cd) (as : List Value) (i : Nat) (S : List Value) {i' : Nat} {x : WO} (hi' : i + 1 = i') (hs : stk = as.reverse ++ .ref i' :: S) (hx : ws[i]? = some x) (hoth : allK cd.2.2.2.length (ws.eraseIdx i)) (wl : (Cond.methodLink own idx (nmOf md')).before a0 Z = true) (cv : CalV Z a0 md' as.length) (hc : (nmOf md').cls = cd.1) (nr : noRef as = true) (hcal : Wk l Z (MoC Z cd) md' 0 L' [] x 0 0 Q') (hL' : (argsToLocals (.ref 0 :: as).toArray (mxOf md')).toList = L') (hw : wfL L' = true) (hl : L.length = mxOf md)
    (hwt : (S.map fun v => v.category).sum = wt) (ft : Fits md md' wt cu su cu' su') (hd : InsA md pc (.invokevirtual idx) 3 pc') (hk : ∀ v y, Q' v y → y.1 = x.1 + exOf md') (h : ∀ v y, Q' v y → Wk l Z (MoL Z cd own sc) md pc' L (v.toList ++ S) (sl, sv, ws.set i y) cu' su' Q) : Wk l Z (MoL Z cd own sc) md pc L stk (sl, sv, ws) cu su Q :=
  fun en p e s m args below meth c T locs r X K hz hF hR hL => by
  obtain ⟨hd, rfl⟩ := hd
  subst hs hi'
  have rx := hR.2.1 i x hx
  obtain ⟨v, T1, Lc, w1, X1, p1, p2, p3, p4, p5, p6, st⟩ := coreV (M' := MoC Z cd) (en := (en.1 + i * (cd.2.2.2.length + 1), en.1)) (r := r) (rest := S.map (rv (rhoL cd en))) X K hd wl cv hcal hc.symm rx (by rw [hc]; exact rx.2.1) rfl hL' hw ft (hL.1.trans hl) (by rw [cat_map]; omega)
  have f7 := ft.2.2.1
  have f8 := ft.2.2.2.2.2.2
  have em : (as.reverse ++ .ref (i + 1) :: S).map (rv (rhoL cd en)) = (as.map (rv ((MoC Z cd).rho (en.1 + i * (cd.2.2.2.length + 1), en.1)))).reverse ++ .ref ((MoC Z cd).rho (en.1 + i * (cd.2.2.2.length + 1), en.1) 0) :: S.map (rv (rhoL cd en)) := by
    rw [List.map_append, List.map_reverse, noRef.map as nr, noRef.map as nr]; rfl
  have oth : ∀ j z, ws[j]? = some z → j ≠ i → z.1 = cd.2.2.2.length := by
    intro j z hj hne
    by_cases e : j < i
    · exact allK.get _ hoth j z (by rw [List.getElem?_eraseIdx]; simp [e, hj])
    · refine allK.get _ hoth (j - 1) z ?_
      rw [List.getElem?_eraseIdx, if_neg (by omega), show j - 1 + 1 = j by omega]; exact hj
  have hkk := hk v w1 p1
  have okA : ∀ t ∈ cd.2.2.2, t.1 < cd.2.2.2.length := fun t m => (ok.2.2.2.2.2.2.2.2.2.2.2 t m).2.1
  have D := h v w1 p1 en p e s m args below meth c T1 _ r X1 K (by omega) (hF.app p4) (relL.step okA hR hx oth p2 p3 (by omega)) hL
  rw [res_map p6] at D
  show Done _ _ _ _ _ _ _ _ _ _ _ _ _ _ (mkF m pc r ((as.reverse ++ .ref (i + 1) :: S).map (rv (rhoL cd en))))
  rw [em]
  exact D.pre (fun _ _ => trivial) st
theorem Wk.ctorL (ok : CO Z a0 cd) (as : List Value) (i : Nat) (S : List Value) {i' : Nat} {x : WO} (hi' : i + 1 = i') (hs : stk = as.reverse ++ .ref i' :: S) (hx : ws[i]? = some x) (hoth : allK cd.2.2.2.length (ws.eraseIdx i)) (wl : (Cond.methodLink own idx (nmOf md')).before a0 Z = true) (cv : CalI Z a0 md' as.length) (hc : (nmOf md').cls = cd.1) (nr : noRef as = true) (hcal : Wk l Z (MoC Z cd) md' 0 L' [] x 0 0 Q') (hL' : (argsToLocals (.ref 0 :: as).toArray (mxOf md')).toList = L') (hw : wfL L' = true) (hl : L.length = mxOf md)
    (hwt : (S.map fun v => v.category).sum = wt) (ft : Fits md md' wt cu su cu' su') (hd : InsA md pc (.invokespecial idx) 3 pc') (hk : ∀ v y, Q' v y → y.1 = x.1 + exOf md') (h : ∀ v y, Q' v y → Wk l Z (MoL Z cd own sc) md pc' L (v.toList ++ S) (sl, sv, ws.set i y) cu' su' Q) : Wk l Z (MoL Z cd own sc) md pc L stk (sl, sv, ws) cu su Q :=
  fun en p e s m args below meth c T locs r X K hz hF hR hL => by
  obtain ⟨hd, rfl⟩ := hd
  subst hs hi'
  have rx := hR.2.1 i x hx
  obtain ⟨v, T1, Lc, w1, X1, p1, p2, p3, p4, p5, p6, st⟩ := coreI (M' := MoC Z cd) (en := (en.1 + i * (cd.2.2.2.length + 1), en.1)) (r := r) (rest := S.map (rv (rhoL cd en))) X K hd wl cv hcal hc.symm rx rfl hL' hw ft (hL.1.trans hl) (by rw [cat_map]; omega)
  have f7 := ft.2.2.1
  have f8 := ft.2.2.2.2.2.2
  have em : (as.reverse ++ .ref (i + 1) :: S).map (rv (rhoL cd en)) = (as.map (rv ((MoC Z cd).rho (en.1 + i * (cd.2.2.2.length + 1), en.1)))).reverse ++ .ref ((MoC Z cd).rho (en.1 + i * (cd.2.2.2.length + 1), en.1) 0) :: S.map (rv (rhoL cd en)) := by
    rw [List.map_append, List.map_reverse, noRef.map as nr, noRef.map as nr]; rfl
  have oth : ∀ j z, ws[j]? = some z → j ≠ i → z.1 = cd.2.2.2.length := by
    intro j z hj hne
    by_cases e : j < i
    · exact allK.get _ hoth j z (by rw [List.getElem?_eraseIdx]; simp [e, hj])
    · refine allK.get _ hoth (j - 1) z ?_
      rw [List.getElem?_eraseIdx, if_neg (by omega), show j - 1 + 1 = j by omega]; exact hj
  have hkk := hk v w1 p1
  have okA : ∀ t ∈ cd.2.2.2, t.1 < cd.2.2.2.length := fun t m => (ok.2.2.2.2.2.2.2.2.2.2.2 t m).2.1
  have D := h v w1 p1 en p e s m args below meth c T1 _ r X1 K (by omega) (hF.app p4) (relL.step okA hR hx oth p2 p3 (by omega)) hL
  rw [res_map p6] at D
  show Done _ _ _ _ _ _ _ _ _ _ _ _ _ _ (mkF m pc r ((as.reverse ++ .ref (i + 1) :: S).map (rv (rhoL cd en))))
  rw [em]
  exact D.pre (fun _ _ => trivial) st
end StepsL
end Jvm.Own

namespace Jvm.Own
open Jvm Jvm.ClassFile Sem Op Lib Jvm.Free Jvm.Stand Jvm.LawKit Jvm.RoadKit
/-- the class's list of fields, looked at -/
def okB (cd : CD) : Bool :=
  cd.2.1.all (fun (t : Nat × String × String) => cd.2.1.all fun t' => if t.1 = t'.1 then decide (t = t') else t.2.1 != t'.2.1) && cd.2.2.1.all (fun (t : Nat × String) => cd.2.2.1.all fun t' => if t.1 = t'.1 then decide (t = t') else t.2 != t'.2) && cd.2.2.2.all (fun (t : Nat × String × String × FieldType × Int32) => cd.2.2.2.all fun t' => if t.1 = t'.1 then decide (t = t') else t.2.1 != t'.2.1) &&
  cd.2.1.all (fun (t : Nat × String × String) => cd.2.2.1.all fun (t' : Nat × String) => t.2.1 != t'.2) && cd.2.1.all (fun (t : Nat × String × String) => cd.2.2.2.all fun (t' : Nat × String × String × FieldType × Int32) => t.2.1 != t'.2.1) && cd.2.2.1.all (fun (t : Nat × String) => cd.2.2.2.all fun (t' : Nat × String × String × FieldType × Int32) => t.2 != t'.2.1) &&
  cd.2.1.all (fun (t : Nat × String × String) => decide (parseFieldDescriptor t.2.2 = some .int) || decide (parseFieldDescriptor t.2.2 = some .boolean)) &&
  cd.2.2.2.all (fun (t : Nat × String × String × FieldType × Int32) => decide (parseFieldDescriptor t.2.2.1 = some (.array t.2.2.2.1)) && decide (t.1 < cd.2.2.2.length) && (decide (t.2.2.2.1 = .int) || decide (t.2.2.2.1 = .boolean) || decide (t.2.2.2.1 = .long)) && !decide (t.2.2.2.2 < 0))
theorem pair_of {α : Type} {L : List α} {f : α → Nat} {g : α → String} [DecidableEq α] (h : L.all (fun t => L.all fun t' => if f t = f t' then decide (t = t') else g t != g t') = true) : ∀ t ∈ L, ∀ t' ∈ L, (f t = f t' → t = t') ∧ (f t ≠ f t' → g t ≠ g t') := by
  intro t m t' m'
  have q := List.all_eq_true.mp (List.all_eq_true.mp h t m) t' m'
  constructor
  · intro e; rw [if_pos e] at q; exact of_decide_eq_true q
  · intro e; rw [if_neg e] at q; simpa using q
theorem apart_of {α β : Type} {L : List α} {L' : List β} {g : α → String} {g' : β → String} (h : L.all (fun t => L'.all fun t' => g t != g' t') = true) : ∀ t ∈ L, ∀ t' ∈ L', g t ≠ g' t' := by
  intro t m t' m'
  have q := List.all_eq_true.mp (List.all_eq_true.mp h t m) t' m'
  simpa using q
theorem okC.of {cd : CD} (h : okB cd = true) : okC cd := by
  unfold okB at h
  simp only [Bool.and_eq_true] at h
  obtain ⟨⟨⟨⟨⟨⟨⟨h1, h2⟩, h3⟩, h4⟩, h5⟩, h6⟩, h7⟩, h8⟩ := h
  refine ⟨pair_of (L := cd.2.1) (f := fun (t : Nat × String × String) => t.1) (g := fun (t : Nat × String × String) => t.2.1) h1, pair_of (L := cd.2.2.1) (f := fun (t : Nat × String) => t.1) (g := fun (t : Nat × String) => t.2) h2, pair_of (L := cd.2.2.2) (f := fun (t : Nat × String × String × FieldType × Int32) => t.1) (g := fun (t : Nat × String × String × FieldType × Int32) => t.2.1) h3, apart_of (L := cd.2.1) (L' := cd.2.2.1) (g := fun (t : Nat × String × String) => t.2.1) (g' := fun (t : Nat × String) => t.2) h4, apart_of (L := cd.2.1) (L' := cd.2.2.2) (g := fun (t : Nat × String × String) => t.2.1) (g' := fun (t : Nat × String × String × FieldType × Int32) => t.2.1) h5, apart_of (L := cd.2.2.1) (L' := cd.2.2.2) (g := fun (t : Nat × String) => t.2) (g' := fun (t : Nat × String × String × FieldType × Int32) => t.2.1) h6, fun t m => ?_, fun t m => ?_⟩
  · have q := List.all_eq_true.mp h7 t m
    simpa using q
  · have q := List.all_eq_true.mp h8 t m
    simp only [Bool.and_eq_true, Bool.or_eq_true, decide_eq_true_eq, Bool.not_eq_true', decide_eq_false_iff_not] at q
    exact ⟨q.1.1.1, q.1.1.2, by rcases q.1.2 with (a | a) | a <;> simp [a], q.2⟩
theorem nar1 : nar .boolean 1 = 1 := by decide
theorem nar0 : nar .boolean 0 = 0 := by decide
theorem nar_nar (x : Int32) : nar .boolean (nar .boolean x) = nar .boolean x := by
  show (x &&& 1) &&& 1 = x &&& 1
  rw [Int32.and_assoc]; rfl
theorem ne_toInt {x n : Int32} (q : ¬ x = n) : x.toInt ≠ n.toInt := fun h => q (Int32.toInt_inj.mp h)
/-! ## 6. The same calls where the callee's answer is known as a term -/
section FunC
variable {l : Launch} {Z : State} {a0 : Array Value} {cd : CD} {md md' : MD} {pc pc' wt idx : Nat} {L L' : List Slot} {S stk as : List Value} {w w1 : WO} {cu su cu' su' : Nat} {Q : Option Value → WO → Prop} {x : Value}
theorem Wk.callF (as : List Value) (S : List Value) (wl : (Cond.methodLink cd.1 idx (nmOf md')).before a0 Z = true) (cv : CalV Z a0 md' as.length) (hd : InsA md pc (.invokevirtual idx) 3 pc') (hcal : Wk l Z (MoC Z cd) md' 0 L' [] w 0 0 (fun v w' => v = some x ∧ w' = w1)) (ft : Fits md md' wt cu su cu' su') (hs : stk = as.reverse ++ .ref 0 :: S) (hc : (nmOf md').cls = cd.1) (nr : noRef as = true) (hL' : (argsToLocals (.ref 0 :: as).toArray (mxOf md')).toList = L') (hw : wfL L' = true) (hl : L.length = mxOf md)
    (hwt : (S.map fun v => v.category).sum = wt) (h : Wk l Z (MoC Z cd) md pc' L (x :: S) w1 cu' su' Q) : Wk l Z (MoC Z cd) md pc L stk w cu su Q :=
  Wk.callC as S hs wl cv hc nr hcal hL' hw hl hwt ft hd fun v w' q => by obtain ⟨rfl, rfl⟩ := q; exact h
theorem Wk.callU (as : List Value) (S : List Value) (wl : (Cond.methodLink cd.1 idx (nmOf md')).before a0 Z = true) (cv : CalV Z a0 md' as.length) (hd : InsA md pc (.invokevirtual idx) 3 pc') (hcal : Wk l Z (MoC Z cd) md' 0 L' [] w 0 0 (fun v w' => v = none ∧ w' = w1)) (ft : Fits md md' wt cu su cu' su') (hs : stk = as.reverse ++ .ref 0 :: S) (hc : (nmOf md').cls = cd.1) (nr : noRef as = true) (hL' : (argsToLocals (.ref 0 :: as).toArray (mxOf md')).toList = L') (hw : wfL L' = true) (hl : L.length = mxOf md)
    (hwt : (S.map fun v => v.category).sum = wt) (h : Wk l Z (MoC Z cd) md pc' L S w1 cu' su' Q) : Wk l Z (MoC Z cd) md pc L stk w cu su Q :=
  Wk.callC as S hs wl cv hc nr hcal hL' hw hl hwt ft hd fun v w' q => by obtain ⟨rfl, rfl⟩ := q; exact h
end FunC
section FunS
variable {μ E : Type} {l : Launch} {Z : State} {a0 : Array Value} {M : Mode μ E} {md md' : MD} {pc pc' wt idx : Nat} {L L' : List Slot} {S stk as : List Value} {w w1 : μ} {cu su cu' su' : Nat} {Q : Option Value → μ → Prop} {x : Value}
theorem Wk.callSF (hM : ∀ en h1 h2 h3, M.frm en h1 h2 → M.frm en h2 h3 → M.frm en h1 h3) (as : List Value) (S : List Value) (wl : (Cond.methodLink M.own idx (nmOf md')).before a0 Z = true) (cv : CalS Z a0 md' as.length) (hd : InsA md pc (.invokestatic idx) 3 pc') (hcal : Wk l Z M md' 0 L' [] w 0 0 (fun v w' => v = some x ∧ w' = w1)) (ft : Fits md md' wt cu su cu' su') (hs : stk = as.reverse ++ S) (hc : (nmOf md').cls = M.own) (hL' : (argsToLocals as.toArray (mxOf md')).toList = L') (hw : wfL L' = true) (hl : L.length = mxOf md)
    (hwt : (S.map fun v => v.category).sum = wt) (h : Wk l Z M md pc' L (x :: S) w1 cu' su' Q) : Wk l Z M md pc L stk w cu su Q :=
  Wk.callS hM as S hs wl cv hc hcal hL' hw hl hwt ft hd fun v w' q => by obtain ⟨rfl, rfl⟩ := q; exact h
theorem Wk.callSU (hM : ∀ en h1 h2 h3, M.frm en h1 h2 → M.frm en h2 h3 → M.frm en h1 h3) (as : List Value) (S : List Value) (wl : (Cond.methodLink M.own idx (nmOf md')).before a0 Z = true) (cv : CalS Z a0 md' as.length) (hd : InsA md pc (.invokestatic idx) 3 pc') (hcal : Wk l Z M md' 0 L' [] w 0 0 (fun v w' => v = none ∧ w' = w1)) (ft : Fits md md' wt cu su cu' su') (hs : stk = as.reverse ++ S) (hc : (nmOf md').cls = M.own) (hL' : (argsToLocals as.toArray (mxOf md')).toList = L') (hw : wfL L' = true) (hl : L.length = mxOf md)
    (hwt : (S.map fun v => v.category).sum = wt) (h : Wk l Z M md pc' L S w1 cu' su' Q) : Wk l Z M md pc L stk w cu su Q :=
  Wk.callS hM as S hs wl cv hc hcal hL' hw hl hwt ft hd fun v w' q => by obtain ⟨rfl, rfl⟩ := q; exact h
end FunS
section FunL
variable {l : Launch} {Z : State} {a0 : Array Value} {cd : CD} {own : String} {sc : Bool} {md md' : MD} {pc pc' wt idx : Nat} {L L' : List Slot} {S stk as : List Value} {sl : Int32} {sv : Int32 → Int32} {ws ws' : List WO} {cu su cu' su' : Nat} {Q : Option Value → WL → Prop} {v : Value} {y : WO}
theorem Wk.callLF (ok : CO Z a0 cd) (as : List Value) (i : Nat) (S : List Value) {i' : Nat} {x : WO} (wl : (Cond.methodLink own idx (nmOf md')).before a0 Z = true) (cv : CalV Z a0 md' as.length) (hd : InsA md pc (.invokevirtual idx) 3 pc') (hcal : Wk l Z (MoC Z cd) md' 0 L' [] x 0 0 (fun v' w' => v' = some v ∧ w' = y)) (ft : Fits md md' wt cu su cu' su') (hoth : allK cd.2.2.2.length (ws.eraseIdx i)) (hi' : i + 1 = i') (hs : stk = as.reverse ++ .ref i' :: S) (hx : ws[i]? = some x) (hc : (nmOf md').cls = cd.1) (nr : noRef as = true) (hL' : (argsToLocals (.ref 0 :: as).toArray (mxOf md')).toList = L') (hw : wfL L' = true) (hl : L.length = mxOf md)
    (hwt : (S.map fun v => v.category).sum = wt) (hk : y.1 = x.1 + exOf md') (hws : ws.set i y = ws') (h : Wk l Z (MoL Z cd own sc) md pc' L (v :: S) (sl, sv, ws') cu' su' Q) : Wk l Z (MoL Z cd own sc) md pc L stk (sl, sv, ws) cu su Q :=
  Wk.callLC ok as i S hi' hs hx hoth wl cv hc nr hcal hL' hw hl hwt ft hd (fun v' y' q => by obtain ⟨rfl, rfl⟩ := q; exact hk) fun v' y' q => by obtain ⟨rfl, rfl⟩ := q; subst hws; exact h
theorem Wk.callLU (ok : CO Z a0 cd) (as : List Value) (i : Nat) (S : List Value) {i' : Nat} {x : WO} (wl : (Cond.methodLink own idx (nmOf md')).before a0 Z = true) (cv : CalV Z a0 md' as.length) (hd : InsA md pc (.invokevirtual idx) 3 pc') (hcal : Wk l Z (MoC Z cd) md' 0 L' [] x 0 0 (fun v' w' => v' = none ∧ w' = y)) (ft : Fits md md' wt cu su cu' su') (hoth : allK cd.2.2.2.length (ws.eraseIdx i)) (hi' : i + 1 = i') (hs : stk = as.reverse ++ .ref i' :: S) (hx : ws[i]? = some x) (hc : (nmOf md').cls = cd.1) (nr : noRef as = true) (hL' : (argsToLocals (.ref 0 :: as).toArray (mxOf md')).toList = L') (hw : wfL L' = true) (hl : L.length = mxOf md)
    (hwt : (S.map fun v => v.category).sum = wt) (hk : y.1 = x.1 + exOf md') (hws : ws.set i y = ws') (h : Wk l Z (MoL Z cd own sc) md pc' L S (sl, sv, ws') cu' su' Q) : Wk l Z (MoL Z cd own sc) md pc L stk (sl, sv, ws) cu su Q :=
  Wk.callLC ok as i S hi' hs hx hoth wl cv hc nr hcal hL' hw hl hwt ft hd (fun v' y' q => by obtain ⟨rfl, rfl⟩ := q; exact hk) fun v' y' q => by obtain ⟨rfl, rfl⟩ := q; subst hws; exact h
theorem Wk.ctorLU (ok : CO Z a0 cd) (as : List Value) (i : Nat) (S : List Value) {i' : Nat} {x : WO} (wl : (Cond.methodLink own idx (nmOf md')).before a0 Z = true) (cv : CalI Z a0 md' as.length) (hd : InsA md pc (.invokespecial idx) 3 pc') (hcal : Wk l Z (MoC Z cd) md' 0 L' [] x 0 0 (fun v' w' => v' = none ∧ w' = y)) (ft : Fits md md' wt cu su cu' su') (hoth : allK cd.2.2.2.length (ws.eraseIdx i)) (hi' : i + 1 = i') (hs : stk = as.reverse ++ .ref i' :: S) (hx : ws[i]? = some x) (hc : (nmOf md').cls = cd.1) (nr : noRef as = true) (hL' : (argsToLocals (.ref 0 :: as).toArray (mxOf md')).toList = L') (hw : wfL L' = true) (hl : L.length = mxOf md)
    (hwt : (S.map fun v => v.category).sum = wt) (hk : y.1 = x.1 + exOf md') (hws : ws.set i y = ws') (h : Wk l Z (MoL Z cd own sc) md pc' L S (sl, sv, ws') cu' su' Q) : Wk l Z (MoL Z cd own sc) md pc L stk (sl, sv, ws) cu su Q :=
  Wk.ctorL ok as i S hi' hs hx hoth wl cv hc nr hcal hL' hw hl hwt ft hd (fun v' y' q => by obtain ⟨rfl, rfl⟩ := q; exact hk) fun v' y' q => by obtain ⟨rfl, rfl⟩ := q; subst hws; exact h
end FunL
end Jvm.Own

namespace Jvm.Own
open Jvm
/-! ## 7. Plain helpers -/
theorem lt_i {x y : Int32} : x < y ↔ x.toInt < y.toInt := Int32.lt_iff_toInt_lt
theorem add_toInt {x y : Int32} (h1 : -2147483648 ≤ x.toInt + y.toInt) (h2 : x.toInt + y.toInt < 2147483648) : (x + y).toInt = x.toInt + y.toInt := by
  rw [Int32.toInt_add]
  exact Int.bmod_eq_of_le (by omega) (by omega)
theorem sub_toInt {x y : Int32} (h1 : -2147483648 ≤ x.toInt - y.toInt) (h2 : x.toInt - y.toInt < 2147483648) : (x - y).toInt = x.toInt - y.toInt := by
  rw [Int32.toInt_sub]
  exact Int.bmod_eq_of_le (by omega) (by omega)
theorem succ_toInt {i n : Int32} (h : i < n) : (i + 1).toInt = i.toInt + 1 := by
  have h1 := lt_i.mp h
  have h2 := Int32.toInt_lt n
  have h3 := Int32.le_toInt i
  exact add_toInt (x := i) (y := 1) (by show -2147483648 ≤ i.toInt + 1; omega) (by show i.toInt + 1 < 2147483648; omega)
/-- a loop that counts up to n: backwards from its end -/
theorem loopUp {n : Int32} {P : Int32 → Prop} (hend : P n) (hstep : ∀ i, ¬ i < 0 → i < n → P (i + 1) → P i) : ∀ i, ¬ i < 0 → ¬ n < i → P i := by
  have key : ∀ (k : Nat) (i : Int32), ¬ i < 0 → ¬ n < i → (n.toInt - i.toInt).toNat = k → P i := by
    intro k
    induction k with
    | zero =>
      intro i h0 h1 hk
      have e : i = n := by
        rw [lt_i] at h1
        exact Int32.toInt_inj.mp (by omega)
      subst e; exact hend
    | succ k ih =>
      intro i h0 h1 hk
      rw [lt_i] at h1
      have hlt : i < n := lt_i.mpr (by omega)
      have hs := succ_toInt hlt
      have h0' : ¬ i.toInt < 0 := fun q => h0 (lt_i.mpr q)
      refine hstep i h0 hlt (ih (i + 1) ?_ ?_ ?_)
      · rw [lt_i, hs]; show ¬ i.toInt + 1 < 0; omega
      · rw [lt_i, hs]; omega
      · rw [hs]; omega
  exact fun i h0 h1 => key _ i h0 h1 rfl
/-- the first n places hold c -/
def fill {α : Type} (f : Int32 → α) (n : Int32) (c : α) : Int32 → α := fun x => if ¬ x < 0 ∧ x < n then c else f x
theorem fill_zero {α : Type} (f : Int32 → α) (c : α) : fill f 0 c = f := by
  funext x; exact if_neg fun q => q.1 q.2
theorem fill_succ {α : Type} (f : Int32 → α) (c : α) {i n : Int32} (h0 : ¬ i < 0) (h : i < n) : ups (fill f i c) i c = fill f (i + 1) c := by
  funext x
  have hs := succ_toInt h
  have h0' : ¬ i.toInt < 0 := fun q => h0 (lt_i.mpr q)
  unfold ups fill
  by_cases e : x = i
  · rw [if_pos e, if_pos]
    subst e
    exact ⟨h0, lt_i.mpr (by omega)⟩
  · rw [if_neg e]
    have e' : x.toInt ≠ i.toInt := fun q => e (Int32.toInt_inj.mp q)
    by_cases q : ¬ x < 0 ∧ x < i
    · rw [if_pos q, if_pos ⟨q.1, lt_i.mpr (by have := lt_i.mp q.2; omega)⟩]
    · rw [if_neg q, if_neg]
      rintro ⟨a, b⟩
      exact q ⟨a, lt_i.mpr (by have := lt_i.mp b; omega)⟩
theorem fill_in {α : Type} (f : Int32 → α) (c : α) {x n : Int32} (h0 : ¬ x < 0) (h : x < n) : fill f n c x = c := if_pos ⟨h0, h⟩
theorem ups_self {κ α : Type} [DecidableEq κ] (f : κ → α) (i : κ) : ups f i (f i) = f := by
  funext k; unfold ups; by_cases e : k = i
  · rw [if_pos e, e]
  · rw [if_neg e]
theorem ups_upd {κ α : Type} [DecidableEq κ] (f : κ → α) (i : κ) (x y : α) : ups (ups f i x) i y = ups f i y := by
  funext k; unfold ups; by_cases e : k = i
  · rw [if_pos e, if_pos e]
  · rw [if_neg e, if_neg e, if_neg e]
theorem ups_comm {κ α : Type} [DecidableEq κ] (f : κ → α) {i j : κ} (x y : α) (h : i ≠ j) : ups (ups f i x) j y = ups (ups f j y) i x := by
  funext k; unfold ups; by_cases e : k = i
  · have : k ≠ j := fun q => h (e.symm.trans q)
    rw [if_neg this, if_pos e, if_pos e]
  · by_cases e2 : k = j
    · rw [if_pos e2, if_neg e, if_pos e2]
    · rw [if_neg e2, if_neg e, if_neg e, if_neg e2]
end Jvm.Own

namespace Jvm.Own
open Jvm Jvm.Free
/-! ## 8. Bits -/
theorem toNat_toInt (x : Int32) : (x.toBitVec.toNat : Int) = x.toInt % 4294967296 := by
  have h1 : x.toInt = x.toBitVec.toInt := rfl
  rw [h1, BitVec.toInt_eq_toNat_bmod]
  have h2 := x.toBitVec.isLt
  have h3 := Int.bmod_emod (x := (x.toBitVec.toNat : Int)) (m := 2 ^ 32)
  have h4 : ((2 ^ 32 : Nat) : Int) = 4294967296 := rfl
  rw [h4] at h3
  rw [h3]; omega
theorem and_mask (x m : Int32) (k : Nat) (hk : k < 31) (hm : m.toBitVec.toNat = 2 ^ k - 1) : (x &&& m).toInt = x.toInt % ((2 ^ k : Nat) : Int) := by
  have h1 : (x &&& m).toInt = (x.toBitVec &&& m.toBitVec).toInt := rfl
  have h2 : (x.toBitVec &&& m.toBitVec).toNat = x.toBitVec.toNat % 2 ^ k := by rw [BitVec.toNat_and, hm, Nat.and_two_pow_sub_one_eq_mod]
  have h3 : (2 ^ k : Nat) ≤ 2 ^ 30 := Nat.pow_le_pow_right (by decide) (by omega)
  have h4 : x.toBitVec.toNat % 2 ^ k < 2 ^ k := Nat.mod_lt _ (Nat.two_pow_pos k)
  have h5 : (2 ^ k : Nat) ∣ 4294967296 := ⟨2 ^ (32 - k), by rw [← Nat.pow_add]; have : k + (32 - k) = 32 := by omega
                                                            rw [this]⟩
  rw [h1, BitVec.toInt_eq_toNat_of_lt (by rw [h2]; omega), h2, Int.natCast_emod, toNat_toInt]
  exact Int.emod_emod_of_dvd _ (Int.natCast_dvd_natCast.mpr h5)
theorem sar_toInt (x y : Int32) (k : Nat) (hy : y.toBitVec.smod 32#32 = BitVec.ofNat 32 k) (hk : k < 32) : (x >>> y).toInt = x.toInt / ((2 ^ k : Nat) : Int) := by
  have h1 : (x >>> y).toInt = (x.toBitVec.sshiftRight' (y.toBitVec.smod 32#32)).toInt := rfl
  rw [h1, hy, BitVec.sshiftRight_eq', BitVec.toInt_sshiftRight, BitVec.toNat_ofNat, Nat.mod_eq_of_lt (by omega), Int.shiftRight_eq_div_pow]
  rfl
theorem ushr_pos (x y : Int32) (k : Nat) (hy : (y &&& 31).toBitVec.toNat = k) (hx : ¬ x < 0) : (XT.ushr x y).toInt = x.toInt / ((2 ^ k : Nat) : Int) := by
  have hx' : 0 ≤ x.toInt := by rw [lt_i] at hx; have z : (0 : Int32).toInt = 0 := rfl; omega
  have h0 : (x.toBitVec.toNat : Int) = x.toInt := by rw [toNat_toInt]; have := Int32.toInt_lt x; omega
  have hy' : k < 32 := by
    rw [← hy]
    have : (y &&& 31).toBitVec.toNat = y.toBitVec.toNat % 2 ^ 5 := by
      show (y.toBitVec &&& 31#32).toNat = _
      rw [BitVec.toNat_and]; exact Nat.and_two_pow_sub_one_eq_mod _ 5
    omega
  have h1 : (XT.ushr x y).toBitVec = x.toBitVec >>> k := by
    show x.toBitVec >>> ((y &&& 31).toBitVec % 32#32) = _
    rw [BitVec.ushiftRight_eq', BitVec.toNat_umod, hy]
    show x.toBitVec >>> (k % 32) = _
    rw [Nat.mod_eq_of_lt hy']
  have h2 : (x.toBitVec >>> k).toNat = x.toBitVec.toNat / 2 ^ k := by rw [BitVec.toNat_ushiftRight, Nat.shiftRight_eq_div_pow]
  have h3 : (XT.ushr x y).toInt = (x.toBitVec >>> k).toInt := by rw [← h1]; rfl
  have h4 : x.toBitVec.toNat / 2 ^ k ≤ x.toBitVec.toNat := Nat.div_le_self _ _
  rw [h3, BitVec.toInt_eq_toNat_of_lt (by rw [h2]; have := Int32.toInt_lt x; omega), h2, Int.natCast_ediv, h0]
end Jvm.Own
namespace Jvm.Pilot.@@N@@
open Jvm Jvm.ClassFile Sem Op Lib Jvm.Free Jvm.Stand Jvm.LawKit Jvm.RoadKit Bundle Jvm.Own Jvm.Pilot.@@N@@.Jvm.D
def OK (Z : State) (a0 : Array Value) : Prop := ∀ d ∈ tables_1, d.before a0 Z = true
theorem OK.w {Z : State} {a0 : Array Value} (H : OK Z a0) (i : Nat) {d : Jvm.Cond} (h : tables_1[i]? = some d) : d.before a0 Z = true := H _ (List.mem_of_getElem? h)
abbrev cdC : CD := ("CallGraphProf", [(0, "tick", "I"), (1, "width", "I"), (2, "pc", "I"), (3, "steps", "I"), (4, "depth", "I"), (5, "status", "I"), (6, "n", "I")], [], [(0, "cellOp", "[I", .int, 64), (1, "cellA", "[I", .int, 64), (2, "cellB", "[I", .int, 64), (3, "reg", "[I", .int, 4), (4, "stack", "[I", .int, 16), (5, "start", "[I", .int, 16), (6, "arc", "[I", .int, 256), (7, "bucket", "[I", .int, 64), (8, "self", "[I", .int, 16), (9, "reach", "[I", .int, 16), (10, "comp", "[I", .int, 16), (11, "root", "[Z", .boolean, 16), (12, "total", "[I", .int, 16), (13, "ct", "[I", .int, 16), (14, "share", "[I", .int, 256), (15, "exP", "[I", .int, 256), (16, "exQ", "[I", .int, 256), (17, "exFirst", "[I", .int, 256), (18, "exRem", "[J", .long, 256)])
theorem okcC : okC cdC := okC.of (by decide +kernel)
theorem mI_tick : (0, "tick", "I") ∈ cdC.2.1 := List.mem_of_getElem? (i := 0) rfl
theorem mI_width : (1, "width", "I") ∈ cdC.2.1 := List.mem_of_getElem? (i := 1) rfl
theorem mI_pc : (2, "pc", "I") ∈ cdC.2.1 := List.mem_of_getElem? (i := 2) rfl
theorem mI_steps : (3, "steps", "I") ∈ cdC.2.1 := List.mem_of_getElem? (i := 3) rfl
theorem mI_depth : (4, "depth", "I") ∈ cdC.2.1 := List.mem_of_getElem? (i := 4) rfl
theorem mI_status : (5, "status", "I") ∈ cdC.2.1 := List.mem_of_getElem? (i := 5) rfl
theorem mI_n : (6, "n", "I") ∈ cdC.2.1 := List.mem_of_getElem? (i := 6) rfl
theorem mA_cellOp : (0, "cellOp", "[I", FieldType.int, (64 : Int32)) ∈ cdC.2.2.2 := List.mem_of_getElem? (i := 0) rfl
theorem mA_cellA : (1, "cellA", "[I", FieldType.int, (64 : Int32)) ∈ cdC.2.2.2 := List.mem_of_getElem? (i := 1) rfl
theorem mA_cellB : (2, "cellB", "[I", FieldType.int, (64 : Int32)) ∈ cdC.2.2.2 := List.mem_of_getElem? (i := 2) rfl
theorem mA_reg : (3, "reg", "[I", FieldType.int, (4 : Int32)) ∈ cdC.2.2.2 := List.mem_of_getElem? (i := 3) rfl
theorem mA_stack : (4, "stack", "[I", FieldType.int, (16 : Int32)) ∈ cdC.2.2.2 := List.mem_of_getElem? (i := 4) rfl
theorem mA_start : (5, "start", "[I", FieldType.int, (16 : Int32)) ∈ cdC.2.2.2 := List.mem_of_getElem? (i := 5) rfl
theorem mA_arc : (6, "arc", "[I", FieldType.int, (256 : Int32)) ∈ cdC.2.2.2 := List.mem_of_getElem? (i := 6) rfl
theorem mA_bucket : (7, "bucket", "[I", FieldType.int, (64 : Int32)) ∈ cdC.2.2.2 := List.mem_of_getElem? (i := 7) rfl
theorem mA_self : (8, "self", "[I", FieldType.int, (16 : Int32)) ∈ cdC.2.2.2 := List.mem_of_getElem? (i := 8) rfl
theorem mA_reach : (9, "reach", "[I", FieldType.int, (16 : Int32)) ∈ cdC.2.2.2 := List.mem_of_getElem? (i := 9) rfl
theorem mA_comp : (10, "comp", "[I", FieldType.int, (16 : Int32)) ∈ cdC.2.2.2 := List.mem_of_getElem? (i := 10) rfl
theorem mA_root : (11, "root", "[Z", FieldType.boolean, (16 : Int32)) ∈ cdC.2.2.2 := List.mem_of_getElem? (i := 11) rfl
theorem mA_total : (12, "total", "[I", FieldType.int, (16 : Int32)) ∈ cdC.2.2.2 := List.mem_of_getElem? (i := 12) rfl
theorem mA_ct : (13, "ct", "[I", FieldType.int, (16 : Int32)) ∈ cdC.2.2.2 := List.mem_of_getElem? (i := 13) rfl
theorem mA_share : (14, "share", "[I", FieldType.int, (256 : Int32)) ∈ cdC.2.2.2 := List.mem_of_getElem? (i := 14) rfl
theorem mA_exP : (15, "exP", "[I", FieldType.int, (256 : Int32)) ∈ cdC.2.2.2 := List.mem_of_getElem? (i := 15) rfl
theorem mA_exQ : (16, "exQ", "[I", FieldType.int, (256 : Int32)) ∈ cdC.2.2.2 := List.mem_of_getElem? (i := 16) rfl
theorem mA_exFirst : (17, "exFirst", "[I", FieldType.int, (256 : Int32)) ∈ cdC.2.2.2 := List.mem_of_getElem? (i := 17) rfl
theorem mA_exRem : (18, "exRem", "[J", FieldType.long, (256 : Int32)) ∈ cdC.2.2.2 := List.mem_of_getElem? (i := 18) rfl
theorem wf_cellOp {Z : State} {a0 : Array Value} (H : OK Z a0) : (Cond.fieldLink "CallGraphProf" 7 "CallGraphProf" "cellOp" "[I").before a0 Z = true := H.w 10 rfl
theorem wf_cellA {Z : State} {a0 : Array Value} (H : OK Z a0) : (Cond.fieldLink "CallGraphProf" 13 "CallGraphProf" "cellA" "[I").before a0 Z = true := H.w 12 rfl
theorem wf_cellB {Z : State} {a0 : Array Value} (H : OK Z a0) : (Cond.fieldLink "CallGraphProf" 16 "CallGraphProf" "cellB" "[I").before a0 Z = true := H.w 14 rfl
theorem wf_reg {Z : State} {a0 : Array Value} (H : OK Z a0) : (Cond.fieldLink "CallGraphProf" 19 "CallGraphProf" "reg" "[I").before a0 Z = true := H.w 16 rfl
theorem wf_stack {Z : State} {a0 : Array Value} (H : OK Z a0) : (Cond.fieldLink "CallGraphProf" 22 "CallGraphProf" "stack" "[I").before a0 Z = true := H.w 18 rfl
theorem wf_start {Z : State} {a0 : Array Value} (H : OK Z a0) : (Cond.fieldLink "CallGraphProf" 25 "CallGraphProf" "start" "[I").before a0 Z = true := H.w 20 rfl
theorem wf_arc {Z : State} {a0 : Array Value} (H : OK Z a0) : (Cond.fieldLink "CallGraphProf" 28 "CallGraphProf" "arc" "[I").before a0 Z = true := H.w 22 rfl
theorem wf_bucket {Z : State} {a0 : Array Value} (H : OK Z a0) : (Cond.fieldLink "CallGraphProf" 31 "CallGraphProf" "bucket" "[I").before a0 Z = true := H.w 24 rfl
theorem wf_self {Z : State} {a0 : Array Value} (H : OK Z a0) : (Cond.fieldLink "CallGraphProf" 34 "CallGraphProf" "self" "[I").before a0 Z = true := H.w 26 rfl
theorem wf_reach {Z : State} {a0 : Array Value} (H : OK Z a0) : (Cond.fieldLink "CallGraphProf" 37 "CallGraphProf" "reach" "[I").before a0 Z = true := H.w 28 rfl
theorem wf_comp {Z : State} {a0 : Array Value} (H : OK Z a0) : (Cond.fieldLink "CallGraphProf" 40 "CallGraphProf" "comp" "[I").before a0 Z = true := H.w 30 rfl
theorem wf_root {Z : State} {a0 : Array Value} (H : OK Z a0) : (Cond.fieldLink "CallGraphProf" 43 "CallGraphProf" "root" "[Z").before a0 Z = true := H.w 33 rfl
theorem wf_total {Z : State} {a0 : Array Value} (H : OK Z a0) : (Cond.fieldLink "CallGraphProf" 47 "CallGraphProf" "total" "[I").before a0 Z = true := H.w 35 rfl
theorem wf_ct {Z : State} {a0 : Array Value} (H : OK Z a0) : (Cond.fieldLink "CallGraphProf" 50 "CallGraphProf" "ct" "[I").before a0 Z = true := H.w 37 rfl
theorem wf_share {Z : State} {a0 : Array Value} (H : OK Z a0) : (Cond.fieldLink "CallGraphProf" 53 "CallGraphProf" "share" "[I").before a0 Z = true := H.w 39 rfl
theorem wf_exP {Z : State} {a0 : Array Value} (H : OK Z a0) : (Cond.fieldLink "CallGraphProf" 56 "CallGraphProf" "exP" "[I").before a0 Z = true := H.w 41 rfl
theorem wf_exQ {Z : State} {a0 : Array Value} (H : OK Z a0) : (Cond.fieldLink "CallGraphProf" 59 "CallGraphProf" "exQ" "[I").before a0 Z = true := H.w 43 rfl
theorem wf_exFirst {Z : State} {a0 : Array Value} (H : OK Z a0) : (Cond.fieldLink "CallGraphProf" 62 "CallGraphProf" "exFirst" "[I").before a0 Z = true := H.w 45 rfl
theorem wf_exRem {Z : State} {a0 : Array Value} (H : OK Z a0) : (Cond.fieldLink "CallGraphProf" 65 "CallGraphProf" "exRem" "[J").before a0 Z = true := H.w 48 rfl
theorem wf_tick {Z : State} {a0 : Array Value} (H : OK Z a0) : (Cond.fieldLink "CallGraphProf" 73 "CallGraphProf" "tick" "I").before a0 Z = true := H.w 53 rfl
theorem wf_width {Z : State} {a0 : Array Value} (H : OK Z a0) : (Cond.fieldLink "CallGraphProf" 77 "CallGraphProf" "width" "I").before a0 Z = true := H.w 55 rfl
theorem wf_n {Z : State} {a0 : Array Value} (H : OK Z a0) : (Cond.fieldLink "CallGraphProf" 80 "CallGraphProf" "n" "I").before a0 Z = true := H.w 57 rfl
theorem wf_status {Z : State} {a0 : Array Value} (H : OK Z a0) : (Cond.fieldLink "CallGraphProf" 83 "CallGraphProf" "status" "I").before a0 Z = true := H.w 59 rfl
theorem wf_pc {Z : State} {a0 : Array Value} (H : OK Z a0) : (Cond.fieldLink "CallGraphProf" 96 "CallGraphProf" "pc" "I").before a0 Z = true := H.w 70 rfl
theorem wf_steps {Z : State} {a0 : Array Value} (H : OK Z a0) : (Cond.fieldLink "CallGraphProf" 86 "CallGraphProf" "steps" "I").before a0 Z = true := H.w 76 rfl
theorem wf_depth {Z : State} {a0 : Array Value} (H : OK Z a0) : (Cond.fieldLink "CallGraphProf" 110 "CallGraphProf" "depth" "I").before a0 Z = true := H.w 88 rfl
theorem wy_cellOp {Z : State} {a0 : Array Value} (H : OK Z a0) : (Cond.laysFinal "CallGraphProf" "CallGraphProf" "cellOp" "[I").before a0 Z = true := H.w 11 rfl
theorem wy_cellA {Z : State} {a0 : Array Value} (H : OK Z a0) : (Cond.laysFinal "CallGraphProf" "CallGraphProf" "cellA" "[I").before a0 Z = true := H.w 13 rfl
theorem wy_cellB {Z : State} {a0 : Array Value} (H : OK Z a0) : (Cond.laysFinal "CallGraphProf" "CallGraphProf" "cellB" "[I").before a0 Z = true := H.w 15 rfl
theorem wy_reg {Z : State} {a0 : Array Value} (H : OK Z a0) : (Cond.laysFinal "CallGraphProf" "CallGraphProf" "reg" "[I").before a0 Z = true := H.w 17 rfl
theorem wy_stack {Z : State} {a0 : Array Value} (H : OK Z a0) : (Cond.laysFinal "CallGraphProf" "CallGraphProf" "stack" "[I").before a0 Z = true := H.w 19 rfl
theorem wy_start {Z : State} {a0 : Array Value} (H : OK Z a0) : (Cond.laysFinal "CallGraphProf" "CallGraphProf" "start" "[I").before a0 Z = true := H.w 21 rfl
theorem wy_arc {Z : State} {a0 : Array Value} (H : OK Z a0) : (Cond.laysFinal "CallGraphProf" "CallGraphProf" "arc" "[I").before a0 Z = true := H.w 23 rfl
theorem wy_bucket {Z : State} {a0 : Array Value} (H : OK Z a0) : (Cond.laysFinal "CallGraphProf" "CallGraphProf" "bucket" "[I").before a0 Z = true := H.w 25 rfl
theorem wy_self {Z : State} {a0 : Array Value} (H : OK Z a0) : (Cond.laysFinal "CallGraphProf" "CallGraphProf" "self" "[I").before a0 Z = true := H.w 27 rfl
theorem wy_reach {Z : State} {a0 : Array Value} (H : OK Z a0) : (Cond.laysFinal "CallGraphProf" "CallGraphProf" "reach" "[I").before a0 Z = true := H.w 29 rfl
theorem wy_comp {Z : State} {a0 : Array Value} (H : OK Z a0) : (Cond.laysFinal "CallGraphProf" "CallGraphProf" "comp" "[I").before a0 Z = true := H.w 31 rfl
theorem wy_root {Z : State} {a0 : Array Value} (H : OK Z a0) : (Cond.laysFinal "CallGraphProf" "CallGraphProf" "root" "[Z").before a0 Z = true := H.w 34 rfl
theorem wy_total {Z : State} {a0 : Array Value} (H : OK Z a0) : (Cond.laysFinal "CallGraphProf" "CallGraphProf" "total" "[I").before a0 Z = true := H.w 36 rfl
theorem wy_ct {Z : State} {a0 : Array Value} (H : OK Z a0) : (Cond.laysFinal "CallGraphProf" "CallGraphProf" "ct" "[I").before a0 Z = true := H.w 38 rfl
theorem wy_share {Z : State} {a0 : Array Value} (H : OK Z a0) : (Cond.laysFinal "CallGraphProf" "CallGraphProf" "share" "[I").before a0 Z = true := H.w 40 rfl
theorem wy_exP {Z : State} {a0 : Array Value} (H : OK Z a0) : (Cond.laysFinal "CallGraphProf" "CallGraphProf" "exP" "[I").before a0 Z = true := H.w 42 rfl
theorem wy_exQ {Z : State} {a0 : Array Value} (H : OK Z a0) : (Cond.laysFinal "CallGraphProf" "CallGraphProf" "exQ" "[I").before a0 Z = true := H.w 44 rfl
theorem wy_exFirst {Z : State} {a0 : Array Value} (H : OK Z a0) : (Cond.laysFinal "CallGraphProf" "CallGraphProf" "exFirst" "[I").before a0 Z = true := H.w 46 rfl
theorem wy_exRem {Z : State} {a0 : Array Value} (H : OK Z a0) : (Cond.laysFinal "CallGraphProf" "CallGraphProf" "exRem" "[J").before a0 Z = true := H.w 49 rfl
theorem wy_tick {Z : State} {a0 : Array Value} (H : OK Z a0) : (Cond.lays "CallGraphProf" "CallGraphProf" "tick" "I").before a0 Z = true := H.w 54 rfl
theorem wy_width {Z : State} {a0 : Array Value} (H : OK Z a0) : (Cond.lays "CallGraphProf" "CallGraphProf" "width" "I").before a0 Z = true := H.w 56 rfl
theorem wy_n {Z : State} {a0 : Array Value} (H : OK Z a0) : (Cond.lays "CallGraphProf" "CallGraphProf" "n" "I").before a0 Z = true := H.w 58 rfl
theorem wy_status {Z : State} {a0 : Array Value} (H : OK Z a0) : (Cond.lays "CallGraphProf" "CallGraphProf" "status" "I").before a0 Z = true := H.w 60 rfl
theorem wy_pc {Z : State} {a0 : Array Value} (H : OK Z a0) : (Cond.lays "CallGraphProf" "CallGraphProf" "pc" "I").before a0 Z = true := H.w 71 rfl
theorem wy_steps {Z : State} {a0 : Array Value} (H : OK Z a0) : (Cond.lays "CallGraphProf" "CallGraphProf" "steps" "I").before a0 Z = true := H.w 77 rfl
theorem wy_depth {Z : State} {a0 : Array Value} (H : OK Z a0) : (Cond.lays "CallGraphProf" "CallGraphProf" "depth" "I").before a0 Z = true := H.w 89 rfl
theorem wa_int {Z : State} {a0 : Array Value} (H : OK Z a0) : (Cond.arrayClass (newarray.typeOf .int)).before a0 Z = true := H.w 9 rfl
theorem wa_boolean {Z : State} {a0 : Array Value} (H : OK Z a0) : (Cond.arrayClass (newarray.typeOf .boolean)).before a0 Z = true := H.w 32 rfl
theorem wa_long {Z : State} {a0 : Array Value} (H : OK Z a0) : (Cond.arrayClass (newarray.typeOf .long)).before a0 Z = true := H.w 47 rfl
theorem wz_C {Z : State} {a0 : Array Value} (H : OK Z a0) : (Cond.initialized "CallGraphProf").before a0 Z = true := H.w 2 rfl
theorem coC {Z : State} {a0 : Array Value} (H : OK Z a0) : CO Z a0 cdC := by
  refine ⟨⟨28, H.w 1 rfl⟩, ?_, ?_, ?_, okcC⟩
  · intro t m; simp only [cdC, List.mem_cons, List.not_mem_nil, or_false] at m
    rcases m with rfl | rfl | rfl | rfl | rfl | rfl | rfl
    · exact Or.inl (wy_tick H)
    · exact Or.inl (wy_width H)
    · exact Or.inl (wy_pc H)
    · exact Or.inl (wy_steps H)
    · exact Or.inl (wy_depth H)
    · exact Or.inl (wy_status H)
    · exact Or.inl (wy_n H)
  · intro t m; cases m
  · intro t m; simp only [cdC, List.mem_cons, List.not_mem_nil, or_false] at m
    rcases m with rfl | rfl | rfl | rfl | rfl | rfl | rfl | rfl | rfl | rfl | rfl | rfl | rfl | rfl | rfl | rfl | rfl | rfl | rfl
    · exact Or.inr (wy_cellOp H)
    · exact Or.inr (wy_cellA H)
    · exact Or.inr (wy_cellB H)
    · exact Or.inr (wy_reg H)
    · exact Or.inr (wy_stack H)
    · exact Or.inr (wy_start H)
    · exact Or.inr (wy_arc H)
    · exact Or.inr (wy_bucket H)
    · exact Or.inr (wy_self H)
    · exact Or.inr (wy_reach H)
    · exact Or.inr (wy_comp H)
    · exact Or.inr (wy_root H)
    · exact Or.inr (wy_total H)
    · exact Or.inr (wy_ct H)
    · exact Or.inr (wy_share H)
    · exact Or.inr (wy_exP H)
    · exact Or.inr (wy_exQ H)
    · exact Or.inr (wy_exFirst H)
    · exact Or.inr (wy_exRem H)
theorem mrC {Z : State} (en : Nat × Nat) (h : Heap) : (MoC Z cdC).frm en h h := frmC.refl _ _ _
theorem mtC {Z : State} (en : Nat × Nat) (h1 h2 h3 : Heap) (a : (MoC Z cdC).frm en h1 h2) (b : (MoC Z cdC).frm en h2 h3) : (MoC Z cdC).frm en h1 h3 := frmC.trans a b
theorem mrL {Z : State} (en : Nat × Nat) (h : Heap) : (MoL Z cdC "CallGraphProfL1" false).frm en h h := trivial
theorem mtL {Z : State} (en : Nat × Nat) (h1 h2 h3 : Heap) (a : (MoL Z cdC "CallGraphProfL1" false).frm en h1 h2) (b : (MoL Z cdC "CallGraphProfL1" false).frm en h2 h3) : (MoL Z cdC "CallGraphProfL1" false).frm en h1 h3 := trivial
theorem pn_CallGraphProf : plainName "CallGraphProf" = true := by first | (simp [plainName, overriddenIn]; done) | decide +kernel
theorem pn_CallGraphProfL1 : plainName "CallGraphProfL1" = true := by first | (simp [plainName, overriddenIn]; done) | decide +kernel
theorem pd___I : ∀ sig, parseMethodDescriptor "()I" = some sig → 0 = sig.parameters.length := fun sig h => by
  have q : parseMethodDescriptor "()I" = some ⟨[], some .int⟩ := by decide +kernel
  cases q.symm.trans h; rfl
theorem pd___V : ∀ sig, parseMethodDescriptor "()V" = some sig → 0 = sig.parameters.length := fun sig h => by
  have q : parseMethodDescriptor "()V" = some ⟨[], none⟩ := by decide +kernel
  cases q.symm.trans h; rfl
theorem pd__I_I : ∀ sig, parseMethodDescriptor "(I)I" = some sig → 1 = sig.parameters.length := fun sig h => by
  have q : parseMethodDescriptor "(I)I" = some ⟨[.int], some .int⟩ := by decide +kernel
  cases q.symm.trans h; rfl
theorem pd__II_I : ∀ sig, parseMethodDescriptor "(II)I" = some sig → 2 = sig.parameters.length := fun sig h => by
  have q : parseMethodDescriptor "(II)I" = some ⟨[.int, .int], some .int⟩ := by decide +kernel
  cases q.symm.trans h; rfl
theorem pd__II_V : ∀ sig, parseMethodDescriptor "(II)V" = some sig → 2 = sig.parameters.length := fun sig h => by
  have q : parseMethodDescriptor "(II)V" = some ⟨[.int, .int], none⟩ := by decide +kernel
  cases q.symm.trans h; rfl
theorem pd__III_V : ∀ sig, parseMethodDescriptor "(III)V" = some sig → 3 = sig.parameters.length := fun sig h => by
  have q : parseMethodDescriptor "(III)V" = some ⟨[.int, .int, .int], none⟩ := by decide +kernel
  cases q.symm.trans h; rfl
theorem pd__III_Z : ∀ sig, parseMethodDescriptor "(III)Z" = some sig → 3 = sig.parameters.length := fun sig h => by
  have q : parseMethodDescriptor "(III)Z" = some ⟨[.int, .int, .int], some .boolean⟩ := by decide +kernel
  cases q.symm.trans h; rfl
abbrev md_init : MD := (⟨"CallGraphProf", "<init>", "(II)V"⟩, prog_1_method_1_code, 3, none, { frames := 1, cells := 19, slots := 1924, locals := 14 }, 19)
theorem cv_init {Z : State} {a0 : Array Value} (H : OK Z a0) : CalI Z a0 md_init 2 := ⟨pn_CallGraphProf, by decide, pd__II_V, H.w 4 rfl, H.w 5 rfl, H.w 2 rfl, rfl, rfl⟩
theorem o_init_0 : InsA md_init 0 (.aload_n 0) 1 1 := ⟨by decide +kernel, rfl⟩
theorem o_init_1 : InsA md_init 1 (.invokespecial 1) 3 4 := ⟨by decide +kernel, rfl⟩
theorem o_init_4 : InsA md_init 4 (.aload_n 0) 1 5 := ⟨by decide +kernel, rfl⟩
theorem o_init_5 : InsA md_init 5 (.bipush 64) 2 7 := ⟨by decide +kernel, rfl⟩
theorem o_init_7 : InsA md_init 7 (.newarray .int) 2 9 := ⟨by decide +kernel, rfl⟩
theorem o_init_9 : InsA md_init 9 (.putfield 7) 3 12 := ⟨by decide +kernel, rfl⟩
theorem o_init_12 : InsA md_init 12 (.aload_n 0) 1 13 := ⟨by decide +kernel, rfl⟩
theorem o_init_13 : InsA md_init 13 (.bipush 64) 2 15 := ⟨by decide +kernel, rfl⟩
theorem o_init_15 : InsA md_init 15 (.newarray .int) 2 17 := ⟨by decide +kernel, rfl⟩
theorem o_init_17 : InsA md_init 17 (.putfield 13) 3 20 := ⟨by decide +kernel, rfl⟩
theorem o_init_20 : InsA md_init 20 (.aload_n 0) 1 21 := ⟨by decide +kernel, rfl⟩
theorem o_init_21 : InsA md_init 21 (.bipush 64) 2 23 := ⟨by decide +kernel, rfl⟩
theorem o_init_23 : InsA md_init 23 (.newarray .int) 2 25 := ⟨by decide +kernel, rfl⟩
theorem o_init_25 : InsA md_init 25 (.putfield 16) 3 28 := ⟨by decide +kernel, rfl⟩
theorem o_init_28 : InsA md_init 28 (.aload_n 0) 1 29 := ⟨by decide +kernel, rfl⟩
theorem o_init_29 : InsA md_init 29 (.iconst 4) 1 30 := ⟨by decide +kernel, rfl⟩
theorem o_init_30 : InsA md_init 30 (.newarray .int) 2 32 := ⟨by decide +kernel, rfl⟩
theorem o_init_32 : InsA md_init 32 (.putfield 19) 3 35 := ⟨by decide +kernel, rfl⟩
theorem o_init_35 : InsA md_init 35 (.aload_n 0) 1 36 := ⟨by decide +kernel, rfl⟩
theorem o_init_36 : InsA md_init 36 (.bipush 16) 2 38 := ⟨by decide +kernel, rfl⟩
theorem o_init_38 : InsA md_init 38 (.newarray .int) 2 40 := ⟨by decide +kernel, rfl⟩
theorem o_init_40 : InsA md_init 40 (.putfield 22) 3 43 := ⟨by decide +kernel, rfl⟩
theorem o_init_43 : InsA md_init 43 (.aload_n 0) 1 44 := ⟨by decide +kernel, rfl⟩
theorem o_init_44 : InsA md_init 44 (.bipush 16) 2 46 := ⟨by decide +kernel, rfl⟩
theorem o_init_46 : InsA md_init 46 (.newarray .int) 2 48 := ⟨by decide +kernel, rfl⟩
theorem o_init_48 : InsA md_init 48 (.putfield 25) 3 51 := ⟨by decide +kernel, rfl⟩
theorem o_init_51 : InsA md_init 51 (.aload_n 0) 1 52 := ⟨by decide +kernel, rfl⟩
theorem o_init_52 : InsA md_init 52 (.sipush 256) 3 55 := ⟨by decide +kernel, rfl⟩
theorem o_init_55 : InsA md_init 55 (.newarray .int) 2 57 := ⟨by decide +kernel, rfl⟩
theorem o_init_57 : InsA md_init 57 (.putfield 28) 3 60 := ⟨by decide +kernel, rfl⟩
theorem o_init_60 : InsA md_init 60 (.aload_n 0) 1 61 := ⟨by decide +kernel, rfl⟩
theorem o_init_61 : InsA md_init 61 (.bipush 64) 2 63 := ⟨by decide +kernel, rfl⟩
theorem o_init_63 : InsA md_init 63 (.newarray .int) 2 65 := ⟨by decide +kernel, rfl⟩
theorem o_init_65 : InsA md_init 65 (.putfield 31) 3 68 := ⟨by decide +kernel, rfl⟩
theorem o_init_68 : InsA md_init 68 (.aload_n 0) 1 69 := ⟨by decide +kernel, rfl⟩
theorem o_init_69 : InsA md_init 69 (.bipush 16) 2 71 := ⟨by decide +kernel, rfl⟩
theorem o_init_71 : InsA md_init 71 (.newarray .int) 2 73 := ⟨by decide +kernel, rfl⟩
theorem o_init_73 : InsA md_init 73 (.putfield 34) 3 76 := ⟨by decide +kernel, rfl⟩
theorem o_init_76 : InsA md_init 76 (.aload_n 0) 1 77 := ⟨by decide +kernel, rfl⟩
theorem o_init_77 : InsA md_init 77 (.bipush 16) 2 79 := ⟨by decide +kernel, rfl⟩
theorem o_init_79 : InsA md_init 79 (.newarray .int) 2 81 := ⟨by decide +kernel, rfl⟩
theorem o_init_81 : InsA md_init 81 (.putfield 37) 3 84 := ⟨by decide +kernel, rfl⟩
theorem o_init_84 : InsA md_init 84 (.aload_n 0) 1 85 := ⟨by decide +kernel, rfl⟩
theorem o_init_85 : InsA md_init 85 (.bipush 16) 2 87 := ⟨by decide +kernel, rfl⟩
theorem o_init_87 : InsA md_init 87 (.newarray .int) 2 89 := ⟨by decide +kernel, rfl⟩
theorem o_init_89 : InsA md_init 89 (.putfield 40) 3 92 := ⟨by decide +kernel, rfl⟩
theorem o_init_92 : InsA md_init 92 (.aload_n 0) 1 93 := ⟨by decide +kernel, rfl⟩
theorem o_init_93 : InsA md_init 93 (.bipush 16) 2 95 := ⟨by decide +kernel, rfl⟩
theorem o_init_95 : InsA md_init 95 (.newarray .boolean) 2 97 := ⟨by decide +kernel, rfl⟩
theorem o_init_97 : InsA md_init 97 (.putfield 43) 3 100 := ⟨by decide +kernel, rfl⟩
theorem o_init_100 : InsA md_init 100 (.aload_n 0) 1 101 := ⟨by decide +kernel, rfl⟩
theorem o_init_101 : InsA md_init 101 (.bipush 16) 2 103 := ⟨by decide +kernel, rfl⟩
theorem o_init_103 : InsA md_init 103 (.newarray .int) 2 105 := ⟨by decide +kernel, rfl⟩
theorem o_init_105 : InsA md_init 105 (.putfield 47) 3 108 := ⟨by decide +kernel, rfl⟩
theorem o_init_108 : InsA md_init 108 (.aload_n 0) 1 109 := ⟨by decide +kernel, rfl⟩
theorem o_init_109 : InsA md_init 109 (.bipush 16) 2 111 := ⟨by decide +kernel, rfl⟩
theorem o_init_111 : InsA md_init 111 (.newarray .int) 2 113 := ⟨by decide +kernel, rfl⟩
theorem o_init_113 : InsA md_init 113 (.putfield 50) 3 116 := ⟨by decide +kernel, rfl⟩
theorem o_init_116 : InsA md_init 116 (.aload_n 0) 1 117 := ⟨by decide +kernel, rfl⟩
theorem o_init_117 : InsA md_init 117 (.sipush 256) 3 120 := ⟨by decide +kernel, rfl⟩
theorem o_init_120 : InsA md_init 120 (.newarray .int) 2 122 := ⟨by decide +kernel, rfl⟩
theorem o_init_122 : InsA md_init 122 (.putfield 53) 3 125 := ⟨by decide +kernel, rfl⟩
theorem o_init_125 : InsA md_init 125 (.aload_n 0) 1 126 := ⟨by decide +kernel, rfl⟩
theorem o_init_126 : InsA md_init 126 (.sipush 256) 3 129 := ⟨by decide +kernel, rfl⟩
theorem o_init_129 : InsA md_init 129 (.newarray .int) 2 131 := ⟨by decide +kernel, rfl⟩
theorem o_init_131 : InsA md_init 131 (.putfield 56) 3 134 := ⟨by decide +kernel, rfl⟩
theorem o_init_134 : InsA md_init 134 (.aload_n 0) 1 135 := ⟨by decide +kernel, rfl⟩
theorem o_init_135 : InsA md_init 135 (.sipush 256) 3 138 := ⟨by decide +kernel, rfl⟩
theorem o_init_138 : InsA md_init 138 (.newarray .int) 2 140 := ⟨by decide +kernel, rfl⟩
theorem o_init_140 : InsA md_init 140 (.putfield 59) 3 143 := ⟨by decide +kernel, rfl⟩
theorem o_init_143 : InsA md_init 143 (.aload_n 0) 1 144 := ⟨by decide +kernel, rfl⟩
theorem o_init_144 : InsA md_init 144 (.sipush 256) 3 147 := ⟨by decide +kernel, rfl⟩
theorem o_init_147 : InsA md_init 147 (.newarray .int) 2 149 := ⟨by decide +kernel, rfl⟩
theorem o_init_149 : InsA md_init 149 (.putfield 62) 3 152 := ⟨by decide +kernel, rfl⟩
theorem o_init_152 : InsA md_init 152 (.aload_n 0) 1 153 := ⟨by decide +kernel, rfl⟩
theorem o_init_153 : InsA md_init 153 (.sipush 256) 3 156 := ⟨by decide +kernel, rfl⟩
theorem o_init_156 : InsA md_init 156 (.newarray .long) 2 158 := ⟨by decide +kernel, rfl⟩
theorem o_init_158 : InsA md_init 158 (.putfield 65) 3 161 := ⟨by decide +kernel, rfl⟩
theorem o_init_161 : InsA md_init 161 (.aload_n 0) 1 162 := ⟨by decide +kernel, rfl⟩
theorem o_init_162 : InsA md_init 162 (.iload_n 1) 1 163 := ⟨by decide +kernel, rfl⟩
theorem o_init_163 : InsA md_init 163 (.bipush 16) 2 165 := ⟨by decide +kernel, rfl⟩
theorem o_init_165 : InsA md_init 165 (.invokestatic 69) 3 168 := ⟨by decide +kernel, rfl⟩
theorem o_init_168 : InsA md_init 168 (.putfield 73) 3 171 := ⟨by decide +kernel, rfl⟩
theorem o_init_171 : InsA md_init 171 (.aload_n 0) 1 172 := ⟨by decide +kernel, rfl⟩
theorem o_init_172 : InsA md_init 172 (.iload_n 2) 1 173 := ⟨by decide +kernel, rfl⟩
theorem o_init_173 : InsA md_init 173 (.iconst 4) 1 174 := ⟨by decide +kernel, rfl⟩
theorem o_init_174 : InsA md_init 174 (.invokestatic 69) 3 177 := ⟨by decide +kernel, rfl⟩
theorem o_init_177 : InsA md_init 177 (.putfield 77) 3 180 := ⟨by decide +kernel, rfl⟩
theorem o_init_180 : InsA md_init 180 (.aload_n 0) 1 181 := ⟨by decide +kernel, rfl⟩
theorem o_init_181 : InsA md_init 181 (.iconst 1) 1 182 := ⟨by decide +kernel, rfl⟩
theorem o_init_182 : InsA md_init 182 (.putfield 80) 3 185 := ⟨by decide +kernel, rfl⟩
theorem o_init_185 : InsA md_init 185 (.aload_n 0) 1 186 := ⟨by decide +kernel, rfl⟩
theorem o_init_186 : InsA md_init 186 (.getfield 25) 3 189 := ⟨by decide +kernel, rfl⟩
theorem o_init_189 : InsA md_init 189 (.iconst 0) 1 190 := ⟨by decide +kernel, rfl⟩
theorem o_init_190 : InsA md_init 190 (.iconst 0) 1 191 := ⟨by decide +kernel, rfl⟩
theorem o_init_191 : InsA md_init 191 (.iastore) 1 192 := ⟨by decide +kernel, rfl⟩
theorem o_init_192 : InsA md_init 192 (.aload_n 0) 1 193 := ⟨by decide +kernel, rfl⟩
theorem o_init_193 : InsA md_init 193 (.iconst 0) 1 194 := ⟨by decide +kernel, rfl⟩
theorem o_init_194 : InsA md_init 194 (.putfield 83) 3 197 := ⟨by decide +kernel, rfl⟩
theorem o_init_197 : InsA md_init 197 (.return_) 1 198 := ⟨by decide +kernel, rfl⟩
abbrev md_clamp : MD := (⟨"CallGraphProf", "clamp", "(II)I"⟩, prog_1_method_2_code, 2, some .int, { frames := 0, cells := 0, slots := 0, locals := 0 }, 0)
theorem cv_clamp {Z : State} {a0 : Array Value} (H : OK Z a0) : CalS Z a0 md_clamp 2 := ⟨pn_CallGraphProf, by decide, pd__II_I, H.w 51 rfl, H.w 52 rfl, H.w 2 rfl⟩
theorem o_clamp_0 : InsA md_clamp 0 (.iload_n 0) 1 1 := ⟨by decide +kernel, rfl⟩
theorem o_clamp_1 : InsA md_clamp 1 (.iconst 1) 1 2 := ⟨by decide +kernel, rfl⟩
theorem o_clamp_2 : InsB md_clamp 2 (.if_icmp .ge 5) 3 5 (5) 7 := ⟨by decide +kernel, rfl, by decide, by decide⟩
theorem o_clamp_5 : InsA md_clamp 5 (.iconst 1) 1 6 := ⟨by decide +kernel, rfl⟩
theorem o_clamp_6 : InsA md_clamp 6 (.ireturn) 1 7 := ⟨by decide +kernel, rfl⟩
theorem o_clamp_7 : InsA md_clamp 7 (.iload_n 0) 1 8 := ⟨by decide +kernel, rfl⟩
theorem o_clamp_8 : InsA md_clamp 8 (.iload_n 1) 1 9 := ⟨by decide +kernel, rfl⟩
theorem o_clamp_9 : InsB md_clamp 9 (.if_icmp .le 5) 3 12 (5) 14 := ⟨by decide +kernel, rfl, by decide, by decide⟩
theorem o_clamp_12 : InsA md_clamp 12 (.iload_n 1) 1 13 := ⟨by decide +kernel, rfl⟩
theorem o_clamp_13 : InsA md_clamp 13 (.ireturn) 1 14 := ⟨by decide +kernel, rfl⟩
theorem o_clamp_14 : InsA md_clamp 14 (.iload_n 0) 1 15 := ⟨by decide +kernel, rfl⟩
theorem o_clamp_15 : InsA md_clamp 15 (.ireturn) 1 16 := ⟨by decide +kernel, rfl⟩
abbrev md_run : MD := (⟨"CallGraphProf", "run", "(I)I"⟩, prog_1_method_6_code, 4, some .int, { frames := 2, cells := 0, slots := 0, locals := 31 }, 0)
theorem cv_run {Z : State} {a0 : Array Value} (H : OK Z a0) : CalV Z a0 md_run 1 := ⟨pn_CallGraphProf, by decide, pd__I_I, H.w 63 rfl, H.w 65 rfl, H.w 2 rfl, Or.inl ⟨H.w 62 rfl, H.w 64 rfl⟩⟩
theorem o_run_0 : InsA md_run 0 (.iload_n 1) 1 1 := ⟨by decide +kernel, rfl⟩
theorem o_run_1 : InsA md_run 1 (.iconst 1) 1 2 := ⟨by decide +kernel, rfl⟩
theorem o_run_2 : InsB md_run 2 (.if_icmp .lt 10) 3 5 (10) 12 := ⟨by decide +kernel, rfl, by decide, by decide⟩
theorem o_run_5 : InsA md_run 5 (.aload_n 0) 1 6 := ⟨by decide +kernel, rfl⟩
theorem o_run_6 : InsA md_run 6 (.getfield 83) 3 9 := ⟨by decide +kernel, rfl⟩
theorem o_run_9 : InsB md_run 9 (.ifCond .eq 5) 3 12 (5) 14 := ⟨by decide +kernel, rfl, by decide, by decide⟩
theorem o_run_12 : InsA md_run 12 (.iconst 0) 1 13 := ⟨by decide +kernel, rfl⟩
theorem o_run_13 : InsA md_run 13 (.ireturn) 1 14 := ⟨by decide +kernel, rfl⟩
theorem o_run_14 : InsA md_run 14 (.iload_n 1) 1 15 := ⟨by decide +kernel, rfl⟩
theorem o_run_15 : InsA md_run 15 (.sipush 4096) 3 18 := ⟨by decide +kernel, rfl⟩
theorem o_run_18 : InsB md_run 18 (.if_icmp .le 9) 3 21 (9) 27 := ⟨by decide +kernel, rfl, by decide, by decide⟩
theorem o_run_21 : InsA md_run 21 (.sipush 4096) 3 24 := ⟨by decide +kernel, rfl⟩
theorem o_run_24 : InsB md_run 24 (.goto 4) 3 27 (4) 28 := ⟨by decide +kernel, rfl, by decide, by decide⟩
theorem o_run_27 : InsA md_run 27 (.iload_n 1) 1 28 := ⟨by decide +kernel, rfl⟩
theorem o_run_28 : InsA md_run 28 (.istore_n 2) 1 29 := ⟨by decide +kernel, rfl⟩
theorem o_run_29 : InsA md_run 29 (.iconst 0) 1 30 := ⟨by decide +kernel, rfl⟩
theorem o_run_30 : InsA md_run 30 (.istore_n 3) 1 31 := ⟨by decide +kernel, rfl⟩
theorem o_run_31 : InsA md_run 31 (.aload_n 0) 1 32 := ⟨by decide +kernel, rfl⟩
theorem o_run_32 : InsA md_run 32 (.getfield 83) 3 35 := ⟨by decide +kernel, rfl⟩
theorem o_run_35 : InsB md_run 35 (.ifCond .ne 18) 3 38 (18) 53 := ⟨by decide +kernel, rfl, by decide, by decide⟩
theorem o_run_38 : InsA md_run 38 (.iload_n 3) 1 39 := ⟨by decide +kernel, rfl⟩
theorem o_run_39 : InsA md_run 39 (.iload_n 2) 1 40 := ⟨by decide +kernel, rfl⟩
theorem o_run_40 : InsB md_run 40 (.if_icmp .ge 13) 3 43 (13) 53 := ⟨by decide +kernel, rfl, by decide, by decide⟩
theorem o_run_43 : InsA md_run 43 (.aload_n 0) 1 44 := ⟨by decide +kernel, rfl⟩
theorem o_run_44 : InsA md_run 44 (.invokevirtual 93) 3 47 := ⟨by decide +kernel, rfl⟩
theorem o_run_47 : InsA md_run 47 (.iinc 3 1) 3 50 := ⟨by decide +kernel, rfl⟩
theorem o_run_50 : InsB md_run 50 (.goto (-19)) 3 53 (-19) 31 := ⟨by decide +kernel, rfl, by decide, by decide⟩
theorem o_run_53 : InsA md_run 53 (.iload_n 3) 1 54 := ⟨by decide +kernel, rfl⟩
theorem o_run_54 : InsA md_run 54 (.ireturn) 1 55 := ⟨by decide +kernel, rfl⟩
abbrev md_step : MD := (⟨"CallGraphProf", "step", "()V"⟩, prog_1_method_7_code, 3, none, { frames := 1, cells := 0, slots := 0, locals := 17 }, 0)
theorem cv_step {Z : State} {a0 : Array Value} (H : OK Z a0) : CalV Z a0 md_step 0 := ⟨pn_CallGraphProf, by decide, pd___V, H.w 67 rfl, H.w 69 rfl, H.w 2 rfl, Or.inr ⟨H.w 68 rfl, 28, H.w 1 rfl⟩⟩
theorem o_step_0 : InsA md_step 0 (.aload_n 0) 1 1 := ⟨by decide +kernel, rfl⟩
theorem o_step_1 : InsA md_step 1 (.getfield 96) 3 4 := ⟨by decide +kernel, rfl⟩
theorem o_step_4 : InsA md_step 4 (.istore_n 1) 1 5 := ⟨by decide +kernel, rfl⟩
theorem o_step_5 : InsA md_step 5 (.iload_n 1) 1 6 := ⟨by decide +kernel, rfl⟩
theorem o_step_6 : InsB md_step 6 (.ifCond .lt 9) 3 9 (9) 15 := ⟨by decide +kernel, rfl, by decide, by decide⟩
theorem o_step_9 : InsA md_step 9 (.iload_n 1) 1 10 := ⟨by decide +kernel, rfl⟩
theorem o_step_10 : InsA md_step 10 (.bipush 63) 2 12 := ⟨by decide +kernel, rfl⟩
theorem o_step_12 : InsB md_step 12 (.if_icmp .le 9) 3 15 (9) 21 := ⟨by decide +kernel, rfl, by decide, by decide⟩
theorem o_step_15 : InsA md_step 15 (.aload_n 0) 1 16 := ⟨by decide +kernel, rfl⟩
theorem o_step_16 : InsA md_step 16 (.iconst 2) 1 17 := ⟨by decide +kernel, rfl⟩
theorem o_step_17 : InsA md_step 17 (.putfield 83) 3 20 := ⟨by decide +kernel, rfl⟩
theorem o_step_20 : InsA md_step 20 (.return_) 1 21 := ⟨by decide +kernel, rfl⟩
theorem o_step_21 : InsA md_step 21 (.aload_n 0) 1 22 := ⟨by decide +kernel, rfl⟩
theorem o_step_22 : InsA md_step 22 (.iload_n 1) 1 23 := ⟨by decide +kernel, rfl⟩
theorem o_step_23 : InsA md_step 23 (.aload_n 0) 1 24 := ⟨by decide +kernel, rfl⟩
theorem o_step_24 : InsA md_step 24 (.getfield 7) 3 27 := ⟨by decide +kernel, rfl⟩
theorem o_step_27 : InsA md_step 27 (.iload_n 1) 1 28 := ⟨by decide +kernel, rfl⟩
theorem o_step_28 : InsA md_step 28 (.iaload) 1 29 := ⟨by decide +kernel, rfl⟩
theorem o_step_29 : InsA md_step 29 (.aload_n 0) 1 30 := ⟨by decide +kernel, rfl⟩
theorem o_step_30 : InsA md_step 30 (.getfield 13) 3 33 := ⟨by decide +kernel, rfl⟩
theorem o_step_33 : InsA md_step 33 (.iload_n 1) 1 34 := ⟨by decide +kernel, rfl⟩
theorem o_step_34 : InsA md_step 34 (.iaload) 1 35 := ⟨by decide +kernel, rfl⟩
theorem o_step_35 : InsA md_step 35 (.invokevirtual 99) 3 38 := ⟨by decide +kernel, rfl⟩
theorem o_step_38 : InsA md_step 38 (.aload_n 0) 1 39 := ⟨by decide +kernel, rfl⟩
theorem o_step_39 : InsA md_step 39 (.getfield 83) 3 42 := ⟨by decide +kernel, rfl⟩
theorem o_step_42 : InsB md_step 42 (.ifCond .ne 17) 3 45 (17) 59 := ⟨by decide +kernel, rfl, by decide, by decide⟩
theorem o_step_45 : InsA md_step 45 (.aload_n 0) 1 46 := ⟨by decide +kernel, rfl⟩
theorem o_step_46 : InsA md_step 46 (.getfield 96) 3 49 := ⟨by decide +kernel, rfl⟩
theorem o_step_49 : InsA md_step 49 (.bipush 64) 2 51 := ⟨by decide +kernel, rfl⟩
theorem o_step_51 : InsB md_step 51 (.if_icmp .ne 8) 3 54 (8) 59 := ⟨by decide +kernel, rfl, by decide, by decide⟩
theorem o_step_54 : InsA md_step 54 (.aload_n 0) 1 55 := ⟨by decide +kernel, rfl⟩
theorem o_step_55 : InsA md_step 55 (.iconst 2) 1 56 := ⟨by decide +kernel, rfl⟩
theorem o_step_56 : InsA md_step 56 (.putfield 83) 3 59 := ⟨by decide +kernel, rfl⟩
theorem o_step_59 : InsA md_step 59 (.aload_n 0) 1 60 := ⟨by decide +kernel, rfl⟩
theorem o_step_60 : InsA md_step 60 (.aload_n 0) 1 61 := ⟨by decide +kernel, rfl⟩
theorem o_step_61 : InsA md_step 61 (.getfield 86) 3 64 := ⟨by decide +kernel, rfl⟩
theorem o_step_64 : InsA md_step 64 (.iconst 1) 1 65 := ⟨by decide +kernel, rfl⟩
theorem o_step_65 : InsA md_step 65 (.iadd) 1 66 := ⟨by decide +kernel, rfl⟩
theorem o_step_66 : InsA md_step 66 (.putfield 86) 3 69 := ⟨by decide +kernel, rfl⟩
theorem o_step_69 : InsA md_step 69 (.aload_n 0) 1 70 := ⟨by decide +kernel, rfl⟩
theorem o_step_70 : InsA md_step 70 (.getfield 86) 3 73 := ⟨by decide +kernel, rfl⟩
theorem o_step_73 : InsA md_step 73 (.aload_n 0) 1 74 := ⟨by decide +kernel, rfl⟩
theorem o_step_74 : InsA md_step 74 (.getfield 73) 3 77 := ⟨by decide +kernel, rfl⟩
theorem o_step_77 : InsA md_step 77 (.irem) 1 78 := ⟨by decide +kernel, rfl⟩
theorem o_step_78 : InsB md_step 78 (.ifCond .ne 34) 3 81 (34) 112 := ⟨by decide +kernel, rfl, by decide, by decide⟩
theorem o_step_81 : InsA md_step 81 (.iload_n 1) 1 82 := ⟨by decide +kernel, rfl⟩
theorem o_step_82 : InsA md_step 82 (.aload_n 0) 1 83 := ⟨by decide +kernel, rfl⟩
theorem o_step_83 : InsA md_step 83 (.getfield 77) 3 86 := ⟨by decide +kernel, rfl⟩
theorem o_step_86 : InsA md_step 86 (.idiv) 1 87 := ⟨by decide +kernel, rfl⟩
theorem o_step_87 : InsA md_step 87 (.istore_n 2) 1 88 := ⟨by decide +kernel, rfl⟩
theorem o_step_88 : InsA md_step 88 (.iload_n 2) 1 89 := ⟨by decide +kernel, rfl⟩
theorem o_step_89 : InsB md_step 89 (.ifCond .lt 23) 3 92 (23) 112 := ⟨by decide +kernel, rfl, by decide, by decide⟩
theorem o_step_92 : InsA md_step 92 (.iload_n 2) 1 93 := ⟨by decide +kernel, rfl⟩
theorem o_step_93 : InsA md_step 93 (.bipush 64) 2 95 := ⟨by decide +kernel, rfl⟩
theorem o_step_95 : InsB md_step 95 (.if_icmp .ge 17) 3 98 (17) 112 := ⟨by decide +kernel, rfl, by decide, by decide⟩
theorem o_step_98 : InsA md_step 98 (.aload_n 0) 1 99 := ⟨by decide +kernel, rfl⟩
theorem o_step_99 : InsA md_step 99 (.getfield 31) 3 102 := ⟨by decide +kernel, rfl⟩
theorem o_step_102 : InsA md_step 102 (.iload_n 2) 1 103 := ⟨by decide +kernel, rfl⟩
theorem o_step_103 : InsA md_step 103 (.aload_n 0) 1 104 := ⟨by decide +kernel, rfl⟩
theorem o_step_104 : InsA md_step 104 (.getfield 31) 3 107 := ⟨by decide +kernel, rfl⟩
theorem o_step_107 : InsA md_step 107 (.iload_n 2) 1 108 := ⟨by decide +kernel, rfl⟩
theorem o_step_108 : InsA md_step 108 (.iaload) 1 109 := ⟨by decide +kernel, rfl⟩
theorem o_step_109 : InsA md_step 109 (.iconst 1) 1 110 := ⟨by decide +kernel, rfl⟩
theorem o_step_110 : InsA md_step 110 (.iadd) 1 111 := ⟨by decide +kernel, rfl⟩
theorem o_step_111 : InsA md_step 111 (.iastore) 1 112 := ⟨by decide +kernel, rfl⟩
theorem o_step_112 : InsA md_step 112 (.return_) 1 113 := ⟨by decide +kernel, rfl⟩
abbrev md_act : MD := (⟨"CallGraphProf", "act", "(III)V"⟩, prog_1_method_8_code, 6, none, { frames := 0, cells := 0, slots := 0, locals := 0 }, 0)
theorem cv_act {Z : State} {a0 : Array Value} (H : OK Z a0) : CalV Z a0 md_act 3 := ⟨pn_CallGraphProf, by decide, pd__III_V, H.w 73 rfl, H.w 75 rfl, H.w 2 rfl, Or.inr ⟨H.w 74 rfl, 28, H.w 1 rfl⟩⟩
theorem o_act_0 : InsA md_act 0 (.aload_n 0) 1 1 := ⟨by decide +kernel, rfl⟩
theorem o_act_1 : InsA md_act 1 (.getfield 16) 3 4 := ⟨by decide +kernel, rfl⟩
theorem o_act_4 : InsA md_act 4 (.iload_n 1) 1 5 := ⟨by decide +kernel, rfl⟩
theorem o_act_5 : InsA md_act 5 (.iaload) 1 6 := ⟨by decide +kernel, rfl⟩
theorem o_act_6 : InsA md_act 6 (.istore 4) 2 8 := ⟨by decide +kernel, rfl⟩
theorem o_act_8 : InsA md_act 8 (.iload_n 2) 1 9 := ⟨by decide +kernel, rfl⟩
theorem o_act_9 : InsB md_act 9 (.ifCond .ne 11) 3 12 (11) 20 := ⟨by decide +kernel, rfl, by decide, by decide⟩
theorem o_act_12 : InsA md_act 12 (.aload_n 0) 1 13 := ⟨by decide +kernel, rfl⟩
theorem o_act_13 : InsA md_act 13 (.iconst 1) 1 14 := ⟨by decide +kernel, rfl⟩
theorem o_act_14 : InsA md_act 14 (.putfield 83) 3 17 := ⟨by decide +kernel, rfl⟩
theorem o_act_17 : InsB md_act 17 (.goto 173) 3 20 (173) 190 := ⟨by decide +kernel, rfl, by decide, by decide⟩
theorem o_act_20 : InsA md_act 20 (.iload_n 2) 1 21 := ⟨by decide +kernel, rfl⟩
theorem o_act_21 : InsA md_act 21 (.iconst 1) 1 22 := ⟨by decide +kernel, rfl⟩
theorem o_act_22 : InsB md_act 22 (.if_icmp .ne 13) 3 25 (13) 35 := ⟨by decide +kernel, rfl, by decide, by decide⟩
theorem o_act_25 : InsA md_act 25 (.aload_n 0) 1 26 := ⟨by decide +kernel, rfl⟩
theorem o_act_26 : InsA md_act 26 (.iload_n 1) 1 27 := ⟨by decide +kernel, rfl⟩
theorem o_act_27 : InsA md_act 27 (.iconst 1) 1 28 := ⟨by decide +kernel, rfl⟩
theorem o_act_28 : InsA md_act 28 (.iadd) 1 29 := ⟨by decide +kernel, rfl⟩
theorem o_act_29 : InsA md_act 29 (.putfield 96) 3 32 := ⟨by decide +kernel, rfl⟩
theorem o_act_32 : InsB md_act 32 (.goto 158) 3 35 (158) 190 := ⟨by decide +kernel, rfl, by decide, by decide⟩
theorem o_act_35 : InsA md_act 35 (.iload_n 2) 1 36 := ⟨by decide +kernel, rfl⟩
theorem o_act_36 : InsA md_act 36 (.iconst 2) 1 37 := ⟨by decide +kernel, rfl⟩
theorem o_act_37 : InsB md_act 37 (.if_icmp .ne 30) 3 40 (30) 67 := ⟨by decide +kernel, rfl, by decide, by decide⟩
theorem o_act_40 : InsA md_act 40 (.iload_n 3) 1 41 := ⟨by decide +kernel, rfl⟩
theorem o_act_41 : InsB md_act 41 (.ifCond .lt 16) 3 44 (16) 57 := ⟨by decide +kernel, rfl, by decide, by decide⟩
theorem o_act_44 : InsA md_act 44 (.iload_n 3) 1 45 := ⟨by decide +kernel, rfl⟩
theorem o_act_45 : InsA md_act 45 (.iconst 4) 1 46 := ⟨by decide +kernel, rfl⟩
theorem o_act_46 : InsB md_act 46 (.if_icmp .ge 11) 3 49 (11) 57 := ⟨by decide +kernel, rfl, by decide, by decide⟩
theorem o_act_49 : InsA md_act 49 (.aload_n 0) 1 50 := ⟨by decide +kernel, rfl⟩
theorem o_act_50 : InsA md_act 50 (.getfield 19) 3 53 := ⟨by decide +kernel, rfl⟩
theorem o_act_53 : InsA md_act 53 (.iload_n 3) 1 54 := ⟨by decide +kernel, rfl⟩
theorem o_act_54 : InsA md_act 54 (.iload 4) 2 56 := ⟨by decide +kernel, rfl⟩
theorem o_act_56 : InsA md_act 56 (.iastore) 1 57 := ⟨by decide +kernel, rfl⟩
theorem o_act_57 : InsA md_act 57 (.aload_n 0) 1 58 := ⟨by decide +kernel, rfl⟩
theorem o_act_58 : InsA md_act 58 (.iload_n 1) 1 59 := ⟨by decide +kernel, rfl⟩
theorem o_act_59 : InsA md_act 59 (.iconst 1) 1 60 := ⟨by decide +kernel, rfl⟩
theorem o_act_60 : InsA md_act 60 (.iadd) 1 61 := ⟨by decide +kernel, rfl⟩
theorem o_act_61 : InsA md_act 61 (.putfield 96) 3 64 := ⟨by decide +kernel, rfl⟩
theorem o_act_64 : InsB md_act 64 (.goto 126) 3 67 (126) 190 := ⟨by decide +kernel, rfl, by decide, by decide⟩
theorem o_act_67 : InsA md_act 67 (.iload_n 2) 1 68 := ⟨by decide +kernel, rfl⟩
theorem o_act_68 : InsA md_act 68 (.iconst 3) 1 69 := ⟨by decide +kernel, rfl⟩
theorem o_act_69 : InsB md_act 69 (.if_icmp .ne 37) 3 72 (37) 106 := ⟨by decide +kernel, rfl, by decide, by decide⟩
theorem o_act_72 : InsA md_act 72 (.iload_n 3) 1 73 := ⟨by decide +kernel, rfl⟩
theorem o_act_73 : InsB md_act 73 (.ifCond .lt 23) 3 76 (23) 96 := ⟨by decide +kernel, rfl, by decide, by decide⟩
theorem o_act_76 : InsA md_act 76 (.iload_n 3) 1 77 := ⟨by decide +kernel, rfl⟩
theorem o_act_77 : InsA md_act 77 (.iconst 4) 1 78 := ⟨by decide +kernel, rfl⟩
theorem o_act_78 : InsB md_act 78 (.if_icmp .ge 18) 3 81 (18) 96 := ⟨by decide +kernel, rfl, by decide, by decide⟩
theorem o_act_81 : InsA md_act 81 (.aload_n 0) 1 82 := ⟨by decide +kernel, rfl⟩
theorem o_act_82 : InsA md_act 82 (.getfield 19) 3 85 := ⟨by decide +kernel, rfl⟩
theorem o_act_85 : InsA md_act 85 (.iload_n 3) 1 86 := ⟨by decide +kernel, rfl⟩
theorem o_act_86 : InsA md_act 86 (.aload_n 0) 1 87 := ⟨by decide +kernel, rfl⟩
theorem o_act_87 : InsA md_act 87 (.getfield 19) 3 90 := ⟨by decide +kernel, rfl⟩
theorem o_act_90 : InsA md_act 90 (.iload_n 3) 1 91 := ⟨by decide +kernel, rfl⟩
theorem o_act_91 : InsA md_act 91 (.iaload) 1 92 := ⟨by decide +kernel, rfl⟩
theorem o_act_92 : InsA md_act 92 (.iload 4) 2 94 := ⟨by decide +kernel, rfl⟩
theorem o_act_94 : InsA md_act 94 (.iadd) 1 95 := ⟨by decide +kernel, rfl⟩
theorem o_act_95 : InsA md_act 95 (.iastore) 1 96 := ⟨by decide +kernel, rfl⟩
theorem o_act_96 : InsA md_act 96 (.aload_n 0) 1 97 := ⟨by decide +kernel, rfl⟩
theorem o_act_97 : InsA md_act 97 (.iload_n 1) 1 98 := ⟨by decide +kernel, rfl⟩
theorem o_act_98 : InsA md_act 98 (.iconst 1) 1 99 := ⟨by decide +kernel, rfl⟩
theorem o_act_99 : InsA md_act 99 (.iadd) 1 100 := ⟨by decide +kernel, rfl⟩
theorem o_act_100 : InsA md_act 100 (.putfield 96) 3 103 := ⟨by decide +kernel, rfl⟩
theorem o_act_103 : InsB md_act 103 (.goto 87) 3 106 (87) 190 := ⟨by decide +kernel, rfl, by decide, by decide⟩
theorem o_act_106 : InsA md_act 106 (.iload_n 2) 1 107 := ⟨by decide +kernel, rfl⟩
theorem o_act_107 : InsA md_act 107 (.iconst 4) 1 108 := ⟨by decide +kernel, rfl⟩
theorem o_act_108 : InsB md_act 108 (.if_icmp .ne 48) 3 111 (48) 156 := ⟨by decide +kernel, rfl, by decide, by decide⟩
theorem o_act_111 : InsA md_act 111 (.iload_n 3) 1 112 := ⟨by decide +kernel, rfl⟩
theorem o_act_112 : InsB md_act 112 (.ifCond .lt 21) 3 115 (21) 133 := ⟨by decide +kernel, rfl, by decide, by decide⟩
theorem o_act_115 : InsA md_act 115 (.iload_n 3) 1 116 := ⟨by decide +kernel, rfl⟩
theorem o_act_116 : InsA md_act 116 (.iconst 4) 1 117 := ⟨by decide +kernel, rfl⟩
theorem o_act_117 : InsB md_act 117 (.if_icmp .ge 16) 3 120 (16) 133 := ⟨by decide +kernel, rfl, by decide, by decide⟩
theorem o_act_120 : InsA md_act 120 (.aload_n 0) 1 121 := ⟨by decide +kernel, rfl⟩
theorem o_act_121 : InsA md_act 121 (.getfield 19) 3 124 := ⟨by decide +kernel, rfl⟩
theorem o_act_124 : InsA md_act 124 (.iload_n 3) 1 125 := ⟨by decide +kernel, rfl⟩
theorem o_act_125 : InsA md_act 125 (.iaload) 1 126 := ⟨by decide +kernel, rfl⟩
theorem o_act_126 : InsB md_act 126 (.ifCond .eq 7) 3 129 (7) 133 := ⟨by decide +kernel, rfl, by decide, by decide⟩
theorem o_act_129 : InsA md_act 129 (.iconst 1) 1 130 := ⟨by decide +kernel, rfl⟩
theorem o_act_130 : InsB md_act 130 (.goto 4) 3 133 (4) 134 := ⟨by decide +kernel, rfl, by decide, by decide⟩
theorem o_act_133 : InsA md_act 133 (.iconst 0) 1 134 := ⟨by decide +kernel, rfl⟩
theorem o_act_134 : InsA md_act 134 (.istore 5) 2 136 := ⟨by decide +kernel, rfl⟩
theorem o_act_136 : InsA md_act 136 (.aload_n 0) 1 137 := ⟨by decide +kernel, rfl⟩
theorem o_act_137 : InsA md_act 137 (.iload 5) 2 139 := ⟨by decide +kernel, rfl⟩
theorem o_act_139 : InsB md_act 139 (.ifCond .eq 8) 3 142 (8) 147 := ⟨by decide +kernel, rfl, by decide, by decide⟩
theorem o_act_142 : InsA md_act 142 (.iload 4) 2 144 := ⟨by decide +kernel, rfl⟩
theorem o_act_144 : InsB md_act 144 (.goto 6) 3 147 (6) 150 := ⟨by decide +kernel, rfl, by decide, by decide⟩
theorem o_act_147 : InsA md_act 147 (.iload_n 1) 1 148 := ⟨by decide +kernel, rfl⟩
theorem o_act_148 : InsA md_act 148 (.iconst 1) 1 149 := ⟨by decide +kernel, rfl⟩
theorem o_act_149 : InsA md_act 149 (.iadd) 1 150 := ⟨by decide +kernel, rfl⟩
theorem o_act_150 : InsA md_act 150 (.putfield 96) 3 153 := ⟨by decide +kernel, rfl⟩
theorem o_act_153 : InsB md_act 153 (.goto 37) 3 156 (37) 190 := ⟨by decide +kernel, rfl, by decide, by decide⟩
theorem o_act_156 : InsA md_act 156 (.iload_n 2) 1 157 := ⟨by decide +kernel, rfl⟩
theorem o_act_157 : InsA md_act 157 (.iconst 5) 1 158 := ⟨by decide +kernel, rfl⟩
theorem o_act_158 : InsB md_act 158 (.if_icmp .ne 12) 3 161 (12) 170 := ⟨by decide +kernel, rfl, by decide, by decide⟩
theorem o_act_161 : InsA md_act 161 (.aload_n 0) 1 162 := ⟨by decide +kernel, rfl⟩
theorem o_act_162 : InsA md_act 162 (.iload 4) 2 164 := ⟨by decide +kernel, rfl⟩
theorem o_act_164 : InsA md_act 164 (.putfield 96) 3 167 := ⟨by decide +kernel, rfl⟩
theorem o_act_167 : InsB md_act 167 (.goto 23) 3 170 (23) 190 := ⟨by decide +kernel, rfl, by decide, by decide⟩
theorem o_act_170 : InsA md_act 170 (.iload_n 2) 1 171 := ⟨by decide +kernel, rfl⟩
theorem o_act_171 : InsA md_act 171 (.bipush 6) 2 173 := ⟨by decide +kernel, rfl⟩
theorem o_act_173 : InsB md_act 173 (.if_icmp .ne 13) 3 176 (13) 186 := ⟨by decide +kernel, rfl, by decide, by decide⟩
theorem o_act_176 : InsA md_act 176 (.aload_n 0) 1 177 := ⟨by decide +kernel, rfl⟩
theorem o_act_177 : InsA md_act 177 (.iload_n 1) 1 178 := ⟨by decide +kernel, rfl⟩
theorem o_act_178 : InsA md_act 178 (.iload 4) 2 180 := ⟨by decide +kernel, rfl⟩
theorem o_act_180 : InsA md_act 180 (.invokevirtual 103) 3 183 := ⟨by decide +kernel, rfl⟩
theorem o_act_186 : InsA md_act 186 (.aload_n 0) 1 187 := ⟨by decide +kernel, rfl⟩
theorem o_act_187 : InsA md_act 187 (.invokevirtual 107) 3 190 := ⟨by decide +kernel, rfl⟩
theorem o_act_190 : InsA md_act 190 (.return_) 1 191 := ⟨by decide +kernel, rfl⟩
abbrev md_getReg : MD := (⟨"CallGraphProf", "getReg", "(I)I"⟩, prog_1_method_12_code, 2, some .int, { frames := 0, cells := 0, slots := 0, locals := 0 }, 0)
theorem cv_getReg {Z : State} {a0 : Array Value} (H : OK Z a0) : CalV Z a0 md_getReg 1 := ⟨pn_CallGraphProf, by decide, pd__I_I, H.w 80 rfl, H.w 82 rfl, H.w 2 rfl, Or.inl ⟨H.w 79 rfl, H.w 81 rfl⟩⟩
theorem o_getReg_0 : InsA md_getReg 0 (.iload_n 1) 1 1 := ⟨by decide +kernel, rfl⟩
theorem o_getReg_1 : InsB md_getReg 1 (.ifCond .lt 15) 3 4 (15) 16 := ⟨by decide +kernel, rfl, by decide, by decide⟩
theorem o_getReg_4 : InsA md_getReg 4 (.iload_n 1) 1 5 := ⟨by decide +kernel, rfl⟩
theorem o_getReg_5 : InsA md_getReg 5 (.iconst 4) 1 6 := ⟨by decide +kernel, rfl⟩
theorem o_getReg_6 : InsB md_getReg 6 (.if_icmp .ge 10) 3 9 (10) 16 := ⟨by decide +kernel, rfl, by decide, by decide⟩
theorem o_getReg_9 : InsA md_getReg 9 (.aload_n 0) 1 10 := ⟨by decide +kernel, rfl⟩
theorem o_getReg_10 : InsA md_getReg 10 (.getfield 19) 3 13 := ⟨by decide +kernel, rfl⟩
theorem o_getReg_13 : InsA md_getReg 13 (.iload_n 1) 1 14 := ⟨by decide +kernel, rfl⟩
theorem o_getReg_14 : InsA md_getReg 14 (.iaload) 1 15 := ⟨by decide +kernel, rfl⟩
theorem o_getReg_15 : InsA md_getReg 15 (.ireturn) 1 16 := ⟨by decide +kernel, rfl⟩
theorem o_getReg_16 : InsA md_getReg 16 (.iload_n 1) 1 17 := ⟨by decide +kernel, rfl⟩
theorem o_getReg_17 : InsA md_getReg 17 (.iconst 4) 1 18 := ⟨by decide +kernel, rfl⟩
theorem o_getReg_18 : InsB md_getReg 18 (.if_icmp .ne 8) 3 21 (8) 26 := ⟨by decide +kernel, rfl, by decide, by decide⟩
theorem o_getReg_21 : InsA md_getReg 21 (.aload_n 0) 1 22 := ⟨by decide +kernel, rfl⟩
theorem o_getReg_22 : InsA md_getReg 22 (.getfield 96) 3 25 := ⟨by decide +kernel, rfl⟩
theorem o_getReg_25 : InsA md_getReg 25 (.ireturn) 1 26 := ⟨by decide +kernel, rfl⟩
theorem o_getReg_26 : InsA md_getReg 26 (.iload_n 1) 1 27 := ⟨by decide +kernel, rfl⟩
theorem o_getReg_27 : InsA md_getReg 27 (.iconst 5) 1 28 := ⟨by decide +kernel, rfl⟩
theorem o_getReg_28 : InsB md_getReg 28 (.if_icmp .ne 8) 3 31 (8) 36 := ⟨by decide +kernel, rfl, by decide, by decide⟩
theorem o_getReg_31 : InsA md_getReg 31 (.aload_n 0) 1 32 := ⟨by decide +kernel, rfl⟩
theorem o_getReg_32 : InsA md_getReg 32 (.getfield 86) 3 35 := ⟨by decide +kernel, rfl⟩
theorem o_getReg_35 : InsA md_getReg 35 (.ireturn) 1 36 := ⟨by decide +kernel, rfl⟩
theorem o_getReg_36 : InsA md_getReg 36 (.iload_n 1) 1 37 := ⟨by decide +kernel, rfl⟩
theorem o_getReg_37 : InsA md_getReg 37 (.bipush 6) 2 39 := ⟨by decide +kernel, rfl⟩
theorem o_getReg_39 : InsB md_getReg 39 (.if_icmp .ne 8) 3 42 (8) 47 := ⟨by decide +kernel, rfl, by decide, by decide⟩
theorem o_getReg_42 : InsA md_getReg 42 (.aload_n 0) 1 43 := ⟨by decide +kernel, rfl⟩
theorem o_getReg_43 : InsA md_getReg 43 (.getfield 110) 3 46 := ⟨by decide +kernel, rfl⟩
theorem o_getReg_46 : InsA md_getReg 46 (.ireturn) 1 47 := ⟨by decide +kernel, rfl⟩
theorem o_getReg_47 : InsA md_getReg 47 (.iload_n 1) 1 48 := ⟨by decide +kernel, rfl⟩
theorem o_getReg_48 : InsA md_getReg 48 (.bipush 7) 2 50 := ⟨by decide +kernel, rfl⟩
theorem o_getReg_50 : InsB md_getReg 50 (.if_icmp .ne 8) 3 53 (8) 58 := ⟨by decide +kernel, rfl, by decide, by decide⟩
theorem o_getReg_53 : InsA md_getReg 53 (.aload_n 0) 1 54 := ⟨by decide +kernel, rfl⟩
theorem o_getReg_54 : InsA md_getReg 54 (.getfield 83) 3 57 := ⟨by decide +kernel, rfl⟩
theorem o_getReg_57 : InsA md_getReg 57 (.ireturn) 1 58 := ⟨by decide +kernel, rfl⟩
theorem o_getReg_58 : InsA md_getReg 58 (.iconst 0) 1 59 := ⟨by decide +kernel, rfl⟩
theorem o_getReg_59 : InsA md_getReg 59 (.ireturn) 1 60 := ⟨by decide +kernel, rfl⟩
abbrev md_getSamples : MD := (⟨"CallGraphProf", "getSamples", "()I"⟩, prog_1_method_19_code, 3, some .int, { frames := 0, cells := 0, slots := 0, locals := 0 }, 0)
theorem cv_getSamples {Z : State} {a0 : Array Value} (H : OK Z a0) : CalV Z a0 md_getSamples 0 := ⟨pn_CallGraphProf, by decide, pd___I, H.w 85 rfl, H.w 87 rfl, H.w 2 rfl, Or.inl ⟨H.w 84 rfl, H.w 86 rfl⟩⟩
theorem o_getSamples_0 : InsA md_getSamples 0 (.iconst 0) 1 1 := ⟨by decide +kernel, rfl⟩
theorem o_getSamples_1 : InsA md_getSamples 1 (.istore_n 1) 1 2 := ⟨by decide +kernel, rfl⟩
theorem o_getSamples_2 : InsA md_getSamples 2 (.iconst 0) 1 3 := ⟨by decide +kernel, rfl⟩
theorem o_getSamples_3 : InsA md_getSamples 3 (.istore_n 2) 1 4 := ⟨by decide +kernel, rfl⟩
theorem o_getSamples_4 : InsA md_getSamples 4 (.iload_n 2) 1 5 := ⟨by decide +kernel, rfl⟩
theorem o_getSamples_5 : InsA md_getSamples 5 (.bipush 64) 2 7 := ⟨by decide +kernel, rfl⟩
theorem o_getSamples_7 : InsB md_getSamples 7 (.if_icmp .ge 18) 3 10 (18) 25 := ⟨by decide +kernel, rfl, by decide, by decide⟩
theorem o_getSamples_10 : InsA md_getSamples 10 (.iload_n 1) 1 11 := ⟨by decide +kernel, rfl⟩
theorem o_getSamples_11 : InsA md_getSamples 11 (.aload_n 0) 1 12 := ⟨by decide +kernel, rfl⟩
theorem o_getSamples_12 : InsA md_getSamples 12 (.getfield 31) 3 15 := ⟨by decide +kernel, rfl⟩
theorem o_getSamples_15 : InsA md_getSamples 15 (.iload_n 2) 1 16 := ⟨by decide +kernel, rfl⟩
theorem o_getSamples_16 : InsA md_getSamples 16 (.iaload) 1 17 := ⟨by decide +kernel, rfl⟩
theorem o_getSamples_17 : InsA md_getSamples 17 (.iadd) 1 18 := ⟨by decide +kernel, rfl⟩
theorem o_getSamples_18 : InsA md_getSamples 18 (.istore_n 1) 1 19 := ⟨by decide +kernel, rfl⟩
theorem o_getSamples_19 : InsA md_getSamples 19 (.iinc 2 1) 3 22 := ⟨by decide +kernel, rfl⟩
theorem o_getSamples_22 : InsB md_getSamples 22 (.goto (-18)) 3 25 (-18) 4 := ⟨by decide +kernel, rfl, by decide, by decide⟩
theorem o_getSamples_25 : InsA md_getSamples 25 (.iload_n 1) 1 26 := ⟨by decide +kernel, rfl⟩
theorem o_getSamples_26 : InsA md_getSamples 26 (.ireturn) 1 27 := ⟨by decide +kernel, rfl⟩
abbrev md_L_law : MD := (x, code, maxLocals, ret, room_1, 20)
theorem o_L_law_0 : InsA md_L_law 0 (.new 7) 3 3 := ⟨at_0, rfl⟩
theorem o_L_law_3 : InsA md_L_law 3 (.dup) 1 4 := ⟨at_3, rfl⟩
theorem o_L_law_4 : InsA md_L_law 4 (.iload_n 0) 1 5 := ⟨at_4, rfl⟩
theorem o_L_law_5 : InsA md_L_law 5 (.iload_n 1) 1 6 := ⟨at_5, rfl⟩
theorem o_L_law_6 : InsA md_L_law 6 (.invokespecial 9) 3 9 := ⟨at_6, rfl⟩
theorem o_L_law_9 : InsA md_L_law 9 (.astore_n 3) 1 10 := ⟨at_9, rfl⟩
theorem o_L_law_10 : InsA md_L_law 10 (.iload_n 2) 1 11 := ⟨at_10, rfl⟩
theorem o_L_law_11 : InsA md_L_law 11 (.iconst 1) 1 12 := ⟨at_11, rfl⟩
theorem o_L_law_12 : InsB md_L_law 12 (.if_icmp .lt 7) 3 15 (7) 19 := ⟨at_12, rfl, by decide, by decide⟩
theorem o_L_law_15 : InsA md_L_law 15 (.iconst 1) 1 16 := ⟨at_15, rfl⟩
theorem o_L_law_16 : InsB md_L_law 16 (.goto 4) 3 19 (4) 20 := ⟨at_16, rfl, by decide, by decide⟩
theorem o_L_law_19 : InsA md_L_law 19 (.iconst 0) 1 20 := ⟨at_19, rfl⟩
theorem o_L_law_20 : InsA md_L_law 20 (.istore 4) 2 22 := ⟨at_20, rfl⟩
theorem o_L_law_22 : InsA md_L_law 22 (.iload 4) 2 24 := ⟨at_22, rfl⟩
theorem o_L_law_24 : InsB md_L_law 24 (.ifCond .eq 7) 3 27 (7) 31 := ⟨at_24, rfl, by decide, by decide⟩
theorem o_L_law_27 : InsA md_L_law 27 (.iconst 1) 1 28 := ⟨at_27, rfl⟩
theorem o_L_law_28 : InsB md_L_law 28 (.goto 4) 3 31 (4) 32 := ⟨at_28, rfl, by decide, by decide⟩
theorem o_L_law_31 : InsA md_L_law 31 (.iconst 0) 1 32 := ⟨at_31, rfl⟩
theorem o_L_law_32 : InsA md_L_law 32 (.istore 5) 2 34 := ⟨at_32, rfl⟩
theorem o_L_law_34 : InsA md_L_law 34 (.iload 4) 2 36 := ⟨at_34, rfl⟩
theorem o_L_law_36 : InsB md_L_law 36 (.ifCond .eq 7) 3 39 (7) 43 := ⟨at_36, rfl, by decide, by decide⟩
theorem o_L_law_39 : InsA md_L_law 39 (.iconst 1) 1 40 := ⟨at_39, rfl⟩
theorem o_L_law_40 : InsB md_L_law 40 (.goto 4) 3 43 (4) 44 := ⟨at_40, rfl, by decide, by decide⟩
theorem o_L_law_43 : InsA md_L_law 43 (.iconst 0) 1 44 := ⟨at_43, rfl⟩
theorem o_L_law_44 : InsA md_L_law 44 (.istore 6) 2 46 := ⟨at_44, rfl⟩
theorem o_L_law_46 : InsA md_L_law 46 (.iload 4) 2 48 := ⟨at_46, rfl⟩
theorem o_L_law_48 : InsB md_L_law 48 (.ifCond .eq 12) 3 51 (12) 60 := ⟨at_48, rfl, by decide, by decide⟩
theorem o_L_law_51 : InsA md_L_law 51 (.iload_n 0) 1 52 := ⟨at_51, rfl⟩
theorem o_L_law_52 : InsA md_L_law 52 (.iconst 1) 1 53 := ⟨at_52, rfl⟩
theorem o_L_law_53 : InsB md_L_law 53 (.if_icmp .gt 7) 3 56 (7) 60 := ⟨at_53, rfl, by decide, by decide⟩
theorem o_L_law_56 : InsA md_L_law 56 (.iconst 1) 1 57 := ⟨at_56, rfl⟩
theorem o_L_law_57 : InsB md_L_law 57 (.goto 4) 3 60 (4) 61 := ⟨at_57, rfl, by decide, by decide⟩
theorem o_L_law_60 : InsA md_L_law 60 (.iconst 0) 1 61 := ⟨at_60, rfl⟩
theorem o_L_law_61 : InsA md_L_law 61 (.istore 7) 2 63 := ⟨at_61, rfl⟩
theorem o_L_law_63 : InsA md_L_law 63 (.aload_n 3) 1 64 := ⟨at_63, rfl⟩
theorem o_L_law_64 : InsA md_L_law 64 (.iload_n 2) 1 65 := ⟨at_64, rfl⟩
theorem o_L_law_65 : InsA md_L_law 65 (.invokevirtual 12) 3 68 := ⟨at_65, rfl⟩
theorem o_L_law_68 : InsA md_L_law 68 (.iload 5) 2 70 := ⟨at_68, rfl⟩
theorem o_L_law_70 : InsB md_L_law 70 (.if_icmp .eq 5) 3 73 (5) 75 := ⟨at_70, rfl, by decide, by decide⟩
theorem o_L_law_73 : InsA md_L_law 73 (.iconst 0) 1 74 := ⟨at_73, rfl⟩
theorem o_L_law_74 : InsA md_L_law 74 (.ireturn) 1 75 := ⟨at_74, rfl⟩
theorem o_L_law_75 : InsA md_L_law 75 (.aload_n 3) 1 76 := ⟨at_75, rfl⟩
theorem o_L_law_76 : InsA md_L_law 76 (.bipush 7) 2 78 := ⟨at_76, rfl⟩
theorem o_L_law_78 : InsA md_L_law 78 (.invokevirtual 16) 3 81 := ⟨at_78, rfl⟩
theorem o_L_law_81 : InsA md_L_law 81 (.iload 6) 2 83 := ⟨at_81, rfl⟩
theorem o_L_law_83 : InsB md_L_law 83 (.if_icmp .eq 5) 3 86 (5) 88 := ⟨at_83, rfl, by decide, by decide⟩
theorem o_L_law_86 : InsA md_L_law 86 (.iconst 0) 1 87 := ⟨at_86, rfl⟩
theorem o_L_law_87 : InsA md_L_law 87 (.ireturn) 1 88 := ⟨at_87, rfl⟩
theorem o_L_law_88 : InsA md_L_law 88 (.aload_n 3) 1 89 := ⟨at_88, rfl⟩
theorem o_L_law_89 : InsA md_L_law 89 (.iconst 5) 1 90 := ⟨at_89, rfl⟩
theorem o_L_law_90 : InsA md_L_law 90 (.invokevirtual 16) 3 93 := ⟨at_90, rfl⟩
theorem o_L_law_93 : InsA md_L_law 93 (.iload 5) 2 95 := ⟨at_93, rfl⟩
theorem o_L_law_95 : InsB md_L_law 95 (.if_icmp .eq 5) 3 98 (5) 100 := ⟨at_95, rfl, by decide, by decide⟩
theorem o_L_law_98 : InsA md_L_law 98 (.iconst 0) 1 99 := ⟨at_98, rfl⟩
theorem o_L_law_99 : InsA md_L_law 99 (.ireturn) 1 100 := ⟨at_99, rfl⟩
theorem o_L_law_100 : InsA md_L_law 100 (.aload_n 3) 1 101 := ⟨at_100, rfl⟩
theorem o_L_law_101 : InsA md_L_law 101 (.iconst 4) 1 102 := ⟨at_101, rfl⟩
theorem o_L_law_102 : InsA md_L_law 102 (.invokevirtual 16) 3 105 := ⟨at_102, rfl⟩
theorem o_L_law_105 : InsB md_L_law 105 (.ifCond .eq 5) 3 108 (5) 110 := ⟨at_105, rfl, by decide, by decide⟩
theorem o_L_law_108 : InsA md_L_law 108 (.iconst 0) 1 109 := ⟨at_108, rfl⟩
theorem o_L_law_109 : InsA md_L_law 109 (.ireturn) 1 110 := ⟨at_109, rfl⟩
theorem o_L_law_110 : InsA md_L_law 110 (.aload_n 3) 1 111 := ⟨at_110, rfl⟩
theorem o_L_law_111 : InsA md_L_law 111 (.invokevirtual 19) 3 114 := ⟨at_111, rfl⟩
theorem o_L_law_114 : InsA md_L_law 114 (.iload 7) 2 116 := ⟨at_114, rfl⟩
theorem o_L_law_116 : InsB md_L_law 116 (.if_icmp .eq 5) 3 119 (5) 121 := ⟨at_116, rfl, by decide, by decide⟩
theorem o_L_law_119 : InsA md_L_law 119 (.iconst 0) 1 120 := ⟨at_119, rfl⟩
theorem o_L_law_120 : InsA md_L_law 120 (.ireturn) 1 121 := ⟨at_120, rfl⟩
theorem o_L_law_121 : InsA md_L_law 121 (.aload_n 3) 1 122 := ⟨at_121, rfl⟩
theorem o_L_law_122 : InsA md_L_law 122 (.iload_n 2) 1 123 := ⟨at_122, rfl⟩
theorem o_L_law_123 : InsA md_L_law 123 (.invokevirtual 12) 3 126 := ⟨at_123, rfl⟩
theorem o_L_law_126 : InsB md_L_law 126 (.ifCond .ne 7) 3 129 (7) 133 := ⟨at_126, rfl, by decide, by decide⟩
theorem o_L_law_129 : InsA md_L_law 129 (.iconst 1) 1 130 := ⟨at_129, rfl⟩
theorem o_L_law_130 : InsB md_L_law 130 (.goto 4) 3 133 (4) 134 := ⟨at_130, rfl, by decide, by decide⟩
theorem o_L_law_133 : InsA md_L_law 133 (.iconst 0) 1 134 := ⟨at_133, rfl⟩
theorem o_L_law_134 : InsA md_L_law 134 (.ireturn) 1 135 := ⟨at_134, rfl⟩
set_option maxRecDepth 65536 in
set_option maxHeartbeats 4000000 in
theorem wp_clamp {l : Launch} {Z : State} {a0 : Array Value} (H : OK Z a0) (F : Nat → Int32) (G : Nat → Int64) (A : Nat → Int32 → Int32) (B : Nat → Int32 → Int64) (p1 : Int32) (p2 : Int32) {Q : Option Value → WO → Prop} (h3 : ¬ p1 < (1 : Int32) → ¬ p2 < p1 → Q (some (.int p1)) (19, F, G, A, B)) (h4 : ¬ p1 < (1 : Int32) → p2 < p1 → Q (some (.int p2)) (19, F, G, A, B)) (h5 : p1 < (1 : Int32) → Q (some (.int (1 : Int32))) (19, F, G, A, B)) :
    Wk l Z (MoC Z cdC) md_clamp 0 [.val (.int p1), .val (.int p2)] [] (19, F, G, A, B) 0 0 Q := by
  refine Wk.iloadN o_clamp_0 rfl ?_
  refine Wk.iconst o_clamp_1 (z := (1 : Int32)) (by decide) ?_
  refine Wk.icmp_ge o_clamp_2 (fun q1 => ?_) (fun q1 => ?_)
  · refine Wk.iloadN o_clamp_7 rfl ?_
    refine Wk.iloadN o_clamp_8 rfl ?_
    refine Wk.icmp_le o_clamp_9 (fun q2 => ?_) (fun q2 => ?_)
    · refine Wk.iloadN o_clamp_14 rfl ?_
      exact Wk.ireturn mrC rfl o_clamp_15 rfl (by decide) (by decide) (h3 q1 q2)
    · refine Wk.iloadN o_clamp_12 rfl ?_
      exact Wk.ireturn mrC rfl o_clamp_13 rfl (by decide) (by decide) (h4 q1 q2)
  · refine Wk.iconst o_clamp_5 (z := (1 : Int32)) (by decide) ?_
    exact Wk.ireturn mrC rfl o_clamp_6 rfl (by decide) (by decide) (h5 q1)

def f_clamp (p1 : Int32) (p2 : Int32) : Int32 := (if p1 < (1 : Int32) then (1 : Int32) else (if p2 < p1 then p2 else p1))
theorem e_clamp (p1 : Int32) (p2 : Int32) : f_clamp p1 p2 = (if p1 < (1 : Int32) then (1 : Int32) else (if p2 < p1 then p2 else p1)) := Eq.trans rfl rfl
theorem run_clamp {l : Launch} {Z : State} {a0 : Array Value} (H : OK Z a0) (F : Nat → Int32) (G : Nat → Int64) (A : Nat → Int32 → Int32) (B : Nat → Int32 → Int64) (p1 : Int32) (p2 : Int32) :
    Wk l Z (MoC Z cdC) md_clamp 0 [.val (.int p1), .val (.int p2)] [] (19, F, G, A, B) 0 0 (fun v w' => v = some (.int (f_clamp p1 p2)) ∧ w' = (19, F, G, A, B)) :=
  wp_clamp H F G A B p1 p2 (fun q1 q2 => ⟨by simp only [e_clamp, if_neg q1, if_neg q2], rfl⟩) (fun q1 q2 => ⟨by simp only [e_clamp, if_neg q1, if_pos q2], rfl⟩) (fun q1 => ⟨by simp only [e_clamp, if_pos q1], rfl⟩)
set_option maxRecDepth 65536 in
set_option maxHeartbeats 4000000 in
theorem wp_init {l : Launch} {Z : State} {a0 : Array Value} (H : OK Z a0) (p1 : Int32) (p2 : Int32) {Q : Option Value → WO → Prop} (h1 : Q none (19, (ups (ups (ups (ups (fun _ => 0) 0 (f_clamp p1 (16 : Int32))) 1 (f_clamp p2 (4 : Int32))) 6 (1 : Int32)) 5 (0 : Int32)), (fun _ => 0), (ups (fun _ _ => 0) 5 (ups ((fun _ _ => 0) 5) (0 : Int32) (0 : Int32))), (fun _ _ => 0))) :
    Wk l Z (MoC Z cdC) md_init 0 [.val (.ref 0), .val (.int p1), .val (.int p2)] [] (0, (fun _ => 0), (fun _ => 0), (fun _ _ => 0), (fun _ _ => 0)) 0 0 Q := by
  refine Wk.aloadN o_init_0 rfl ?_
  refine Wk.initO (H.w 6 rfl) (H.w 7 rfl) (H.w 8 rfl) o_init_1 rfl (by decide) (by decide) ?_
  refine Wk.aloadN o_init_4 rfl ?_
  refine Wk.bipush o_init_5 (z := (64 : Int32)) (by decide) ?_
  refine Wk.newA (coC H) (aty := .int) rfl (wa_int H) (mA_cellOp) (wf_cellOp H) (Or.inr ⟨wy_cellOp H, rfl⟩) o_init_7 o_init_9 rfl rfl (k' := 1) rfl (cu' := 1) rfl (su' := 64) rfl (by decide) (by decide) (by decide) ?_
  refine Wk.aloadN o_init_12 rfl ?_
  refine Wk.bipush o_init_13 (z := (64 : Int32)) (by decide) ?_
  refine Wk.newA (coC H) (aty := .int) rfl (wa_int H) (mA_cellA) (wf_cellA H) (Or.inr ⟨wy_cellA H, rfl⟩) o_init_15 o_init_17 rfl rfl (k' := 2) rfl (cu' := 2) rfl (su' := 128) rfl (by decide) (by decide) (by decide) ?_
  refine Wk.aloadN o_init_20 rfl ?_
  refine Wk.bipush o_init_21 (z := (64 : Int32)) (by decide) ?_
  refine Wk.newA (coC H) (aty := .int) rfl (wa_int H) (mA_cellB) (wf_cellB H) (Or.inr ⟨wy_cellB H, rfl⟩) o_init_23 o_init_25 rfl rfl (k' := 3) rfl (cu' := 3) rfl (su' := 192) rfl (by decide) (by decide) (by decide) ?_
  refine Wk.aloadN o_init_28 rfl ?_
  refine Wk.iconst o_init_29 (z := (4 : Int32)) (by decide) ?_
  refine Wk.newA (coC H) (aty := .int) rfl (wa_int H) (mA_reg) (wf_reg H) (Or.inr ⟨wy_reg H, rfl⟩) o_init_30 o_init_32 rfl rfl (k' := 4) rfl (cu' := 4) rfl (su' := 196) rfl (by decide) (by decide) (by decide) ?_
  refine Wk.aloadN o_init_35 rfl ?_
  refine Wk.bipush o_init_36 (z := (16 : Int32)) (by decide) ?_
  refine Wk.newA (coC H) (aty := .int) rfl (wa_int H) (mA_stack) (wf_stack H) (Or.inr ⟨wy_stack H, rfl⟩) o_init_38 o_init_40 rfl rfl (k' := 5) rfl (cu' := 5) rfl (su' := 212) rfl (by decide) (by decide) (by decide) ?_
  refine Wk.aloadN o_init_43 rfl ?_
  refine Wk.bipush o_init_44 (z := (16 : Int32)) (by decide) ?_
  refine Wk.newA (coC H) (aty := .int) rfl (wa_int H) (mA_start) (wf_start H) (Or.inr ⟨wy_start H, rfl⟩) o_init_46 o_init_48 rfl rfl (k' := 6) rfl (cu' := 6) rfl (su' := 228) rfl (by decide) (by decide) (by decide) ?_
  refine Wk.aloadN o_init_51 rfl ?_
  refine Wk.sipush o_init_52 (z := (256 : Int32)) (by decide) ?_
  refine Wk.newA (coC H) (aty := .int) rfl (wa_int H) (mA_arc) (wf_arc H) (Or.inr ⟨wy_arc H, rfl⟩) o_init_55 o_init_57 rfl rfl (k' := 7) rfl (cu' := 7) rfl (su' := 484) rfl (by decide) (by decide) (by decide) ?_
  refine Wk.aloadN o_init_60 rfl ?_
  refine Wk.bipush o_init_61 (z := (64 : Int32)) (by decide) ?_
  refine Wk.newA (coC H) (aty := .int) rfl (wa_int H) (mA_bucket) (wf_bucket H) (Or.inr ⟨wy_bucket H, rfl⟩) o_init_63 o_init_65 rfl rfl (k' := 8) rfl (cu' := 8) rfl (su' := 548) rfl (by decide) (by decide) (by decide) ?_
  refine Wk.aloadN o_init_68 rfl ?_
  refine Wk.bipush o_init_69 (z := (16 : Int32)) (by decide) ?_
  refine Wk.newA (coC H) (aty := .int) rfl (wa_int H) (mA_self) (wf_self H) (Or.inr ⟨wy_self H, rfl⟩) o_init_71 o_init_73 rfl rfl (k' := 9) rfl (cu' := 9) rfl (su' := 564) rfl (by decide) (by decide) (by decide) ?_
  refine Wk.aloadN o_init_76 rfl ?_
  refine Wk.bipush o_init_77 (z := (16 : Int32)) (by decide) ?_
  refine Wk.newA (coC H) (aty := .int) rfl (wa_int H) (mA_reach) (wf_reach H) (Or.inr ⟨wy_reach H, rfl⟩) o_init_79 o_init_81 rfl rfl (k' := 10) rfl (cu' := 10) rfl (su' := 580) rfl (by decide) (by decide) (by decide) ?_
  refine Wk.aloadN o_init_84 rfl ?_
  refine Wk.bipush o_init_85 (z := (16 : Int32)) (by decide) ?_
  refine Wk.newA (coC H) (aty := .int) rfl (wa_int H) (mA_comp) (wf_comp H) (Or.inr ⟨wy_comp H, rfl⟩) o_init_87 o_init_89 rfl rfl (k' := 11) rfl (cu' := 11) rfl (su' := 596) rfl (by decide) (by decide) (by decide) ?_
  refine Wk.aloadN o_init_92 rfl ?_
  refine Wk.bipush o_init_93 (z := (16 : Int32)) (by decide) ?_
  refine Wk.newA (coC H) (aty := .boolean) rfl (wa_boolean H) (mA_root) (wf_root H) (Or.inr ⟨wy_root H, rfl⟩) o_init_95 o_init_97 rfl rfl (k' := 12) rfl (cu' := 12) rfl (su' := 612) rfl (by decide) (by decide) (by decide) ?_
  refine Wk.aloadN o_init_100 rfl ?_
  refine Wk.bipush o_init_101 (z := (16 : Int32)) (by decide) ?_
  refine Wk.newA (coC H) (aty := .int) rfl (wa_int H) (mA_total) (wf_total H) (Or.inr ⟨wy_total H, rfl⟩) o_init_103 o_init_105 rfl rfl (k' := 13) rfl (cu' := 13) rfl (su' := 628) rfl (by decide) (by decide) (by decide) ?_
  refine Wk.aloadN o_init_108 rfl ?_
  refine Wk.bipush o_init_109 (z := (16 : Int32)) (by decide) ?_
  refine Wk.newA (coC H) (aty := .int) rfl (wa_int H) (mA_ct) (wf_ct H) (Or.inr ⟨wy_ct H, rfl⟩) o_init_111 o_init_113 rfl rfl (k' := 14) rfl (cu' := 14) rfl (su' := 644) rfl (by decide) (by decide) (by decide) ?_
  refine Wk.aloadN o_init_116 rfl ?_
  refine Wk.sipush o_init_117 (z := (256 : Int32)) (by decide) ?_
  refine Wk.newA (coC H) (aty := .int) rfl (wa_int H) (mA_share) (wf_share H) (Or.inr ⟨wy_share H, rfl⟩) o_init_120 o_init_122 rfl rfl (k' := 15) rfl (cu' := 15) rfl (su' := 900) rfl (by decide) (by decide) (by decide) ?_
  refine Wk.aloadN o_init_125 rfl ?_
  refine Wk.sipush o_init_126 (z := (256 : Int32)) (by decide) ?_
  refine Wk.newA (coC H) (aty := .int) rfl (wa_int H) (mA_exP) (wf_exP H) (Or.inr ⟨wy_exP H, rfl⟩) o_init_129 o_init_131 rfl rfl (k' := 16) rfl (cu' := 16) rfl (su' := 1156) rfl (by decide) (by decide) (by decide) ?_
  refine Wk.aloadN o_init_134 rfl ?_
  refine Wk.sipush o_init_135 (z := (256 : Int32)) (by decide) ?_
  refine Wk.newA (coC H) (aty := .int) rfl (wa_int H) (mA_exQ) (wf_exQ H) (Or.inr ⟨wy_exQ H, rfl⟩) o_init_138 o_init_140 rfl rfl (k' := 17) rfl (cu' := 17) rfl (su' := 1412) rfl (by decide) (by decide) (by decide) ?_
  refine Wk.aloadN o_init_143 rfl ?_
  refine Wk.sipush o_init_144 (z := (256 : Int32)) (by decide) ?_
  refine Wk.newA (coC H) (aty := .int) rfl (wa_int H) (mA_exFirst) (wf_exFirst H) (Or.inr ⟨wy_exFirst H, rfl⟩) o_init_147 o_init_149 rfl rfl (k' := 18) rfl (cu' := 18) rfl (su' := 1668) rfl (by decide) (by decide) (by decide) ?_
  refine Wk.aloadN o_init_152 rfl ?_
  refine Wk.sipush o_init_153 (z := (256 : Int32)) (by decide) ?_
  refine Wk.newA (coC H) (aty := .long) rfl (wa_long H) (mA_exRem) (wf_exRem H) (Or.inr ⟨wy_exRem H, rfl⟩) o_init_156 o_init_158 rfl rfl (k' := 19) rfl (cu' := 19) rfl (su' := 1924) rfl (by decide) (by decide) (by decide) ?_
  refine Wk.aloadN o_init_161 rfl ?_
  refine Wk.iloadN o_init_162 rfl ?_
  refine Wk.bipush o_init_163 (z := (16 : Int32)) (by decide) ?_
  refine Wk.callSF mtC [.int p1, .int (16 : Int32)] [.ref 0] (H.w 50 rfl) (cv_clamp H) o_init_165 (run_clamp H (fun _ => 0) (fun _ => 0) (fun _ _ => 0) (fun _ _ => 0) p1 (16 : Int32)) (wt := 1) (cu' := 19) (su' := 1924) (by decide) rfl rfl rfl rfl rfl rfl ?_
  refine Wk.putI (coC H) (mI_tick) (wf_tick H) (Or.inl (wy_tick H)) o_init_168 ?_
  refine Wk.aloadN o_init_171 rfl ?_
  refine Wk.iloadN o_init_172 rfl ?_
  refine Wk.iconst o_init_173 (z := (4 : Int32)) (by decide) ?_
  refine Wk.callSF mtC [.int p2, .int (4 : Int32)] [.ref 0] (H.w 50 rfl) (cv_clamp H) o_init_174 (run_clamp H (ups (fun _ => 0) 0 (f_clamp p1 (16 : Int32))) (fun _ => 0) (fun _ _ => 0) (fun _ _ => 0) p2 (4 : Int32)) (wt := 1) (cu' := 19) (su' := 1924) (by decide) rfl rfl rfl rfl rfl rfl ?_
  refine Wk.putI (coC H) (mI_width) (wf_width H) (Or.inl (wy_width H)) o_init_177 ?_
  refine Wk.aloadN o_init_180 rfl ?_
  refine Wk.iconst o_init_181 (z := (1 : Int32)) (by decide) ?_
  refine Wk.putI (coC H) (mI_n) (wf_n H) (Or.inl (wy_n H)) o_init_182 ?_
  refine Wk.aloadN o_init_185 rfl ?_
  refine Wk.getA (mA_start) (by decide) (i' := 6) rfl (wf_start H) o_init_186 ?_
  refine Wk.iconst o_init_189 (z := (0 : Int32)) (by decide) ?_
  refine Wk.iconst o_init_190 (z := (0 : Int32)) (by decide) ?_
  refine Wk.iastore (coC H) (f := ((fun _ _ => 0) 5)) (mA_start) rfl (by decide) (i' := 6) rfl (by decide) (by decide) o_init_191 ?_
  refine Wk.aloadN o_init_192 rfl ?_
  refine Wk.iconst o_init_193 (z := (0 : Int32)) (by decide) ?_
  refine Wk.putI (coC H) (mI_status) (wf_status H) (Or.inl (wy_status H)) o_init_194 ?_
  exact Wk.ret mrC rfl o_init_197 rfl (by decide) (by decide) h1

def F_init (p1 : Int32) (p2 : Int32) : Nat → Int32 := (ups (ups (ups (ups (fun _ => 0) 0 (f_clamp p1 (16 : Int32))) 1 (f_clamp p2 (4 : Int32))) 6 (1 : Int32)) 5 (0 : Int32))
theorem eF_init (p1 : Int32) (p2 : Int32) : F_init p1 p2 = (ups (ups (ups (ups (fun _ => 0) 0 (f_clamp p1 (16 : Int32))) 1 (f_clamp p2 (4 : Int32))) 6 (1 : Int32)) 5 (0 : Int32)) := Eq.trans rfl rfl
def A_init (p1 : Int32) (p2 : Int32) : Nat → Int32 → Int32 := (ups (fun _ _ => 0) 5 (ups ((fun _ _ => 0) 5) (0 : Int32) (0 : Int32)))
theorem eA_init (p1 : Int32) (p2 : Int32) : A_init p1 p2 = (ups (fun _ _ => 0) 5 (ups ((fun _ _ => 0) 5) (0 : Int32) (0 : Int32))) := Eq.trans rfl rfl
theorem F_init_0 (p1 : Int32) (p2 : Int32) : F_init p1 p2 0 = (f_clamp p1 (16 : Int32)) := by
  exact Eq.trans rfl rfl
theorem F_init_1 (p1 : Int32) (p2 : Int32) : F_init p1 p2 1 = (f_clamp p2 (4 : Int32)) := by
  exact Eq.trans rfl rfl
theorem F_init_2 (p1 : Int32) (p2 : Int32) : F_init p1 p2 2 = ((fun _ => 0) 2) := by
  exact Eq.trans rfl rfl
theorem F_init_3 (p1 : Int32) (p2 : Int32) : F_init p1 p2 3 = ((fun _ => 0) 3) := by
  exact Eq.trans rfl rfl
theorem F_init_4 (p1 : Int32) (p2 : Int32) : F_init p1 p2 4 = ((fun _ => 0) 4) := by
  exact Eq.trans rfl rfl
theorem F_init_5 (p1 : Int32) (p2 : Int32) : F_init p1 p2 5 = (0 : Int32) := by
  exact Eq.trans rfl rfl
theorem F_init_6 (p1 : Int32) (p2 : Int32) : F_init p1 p2 6 = (1 : Int32) := by
  exact Eq.trans rfl rfl
theorem run_init {l : Launch} {Z : State} {a0 : Array Value} (H : OK Z a0)  (p1 : Int32) (p2 : Int32) :
    Wk l Z (MoC Z cdC) md_init 0 [.val (.ref 0), .val (.int p1), .val (.int p2)] [] (0, (fun _ => 0), (fun _ => 0), (fun _ _ => 0), (fun _ _ => 0)) 0 0 (fun v w' => v = none ∧ w' = (19, (F_init p1 p2), (fun _ => 0), (A_init p1 p2), (fun _ _ => 0))) :=
  wp_init H p1 p2 ⟨rfl, rfl⟩
set_option maxRecDepth 65536 in
set_option maxHeartbeats 4000000 in
theorem wp_act {l : Launch} {Z : State} {a0 : Array Value} (H : OK Z a0) (F : Nat → Int32) (G : Nat → Int64) (A : Nat → Int32 → Int32) (B : Nat → Int32 → Int64) (p1 : Int32) (p2 : Int32) (p3 : Int32) {Q : Option Value → WO → Prop} (s1 : ¬ p1 < 0) (s2 : p1 < (64 : Int32)) (h10 : ¬ p2 = 0 → ¬ p2 = (1 : Int32) → ¬ p2 = (2 : Int32) → ¬ p2 = (3 : Int32) → ¬ p2 = (4 : Int32) → ¬ p2 = (5 : Int32) → ¬ p2 = (6 : Int32) → False) (h11 : ¬ p2 = 0 → ¬ p2 = (1 : Int32) → ¬ p2 = (2 : Int32) → ¬ p2 = (3 : Int32) → ¬ p2 = (4 : Int32) → ¬ p2 = (5 : Int32) → p2 = (6 : Int32) → False) (h12 : ¬ p2 = 0 → ¬ p2 = (1 : Int32) → ¬ p2 = (2 : Int32) → ¬ p2 = (3 : Int32) → ¬ p2 = (4 : Int32) → p2 = (5 : Int32) → Q none (19, (ups F 2 ((A 2) p1)), G, A, B)) (h21 : ¬ p2 = 0 → ¬ p2 = (1 : Int32) → ¬ p2 = (2 : Int32) → ¬ p2 = (3 : Int32) → p2 = (4 : Int32) → Q none (19, (ups F 2 (if (if p3 < 0 then (0 : Int32) else (if p3 < (4 : Int32) then (if ((A 3) p3) = 0 then (0 : Int32) else (1 : Int32)) else (0 : Int32))) = 0 then (p1 + (1 : Int32)) else ((A 2) p1))), G, A, B)) (h24 : ¬ p2 = 0 → ¬ p2 = (1 : Int32) → ¬ p2 = (2 : Int32) → p2 = (3 : Int32) → p3 < 0 → Q none (19, (ups F 2 (p1 + (1 : Int32))), G, A, B)) (h26 : ¬ p2 = 0 → ¬ p2 = (1 : Int32) → ¬ p2 = (2 : Int32) → p2 = (3 : Int32) → ¬ p3 < 0 → ¬ p3 < (4 : Int32) → Q none (19, (ups F 2 (p1 + (1 : Int32))), G, A, B)) (h27 : ¬ p2 = 0 → ¬ p2 = (1 : Int32) → ¬ p2 = (2 : Int32) → p2 = (3 : Int32) → ¬ p3 < 0 → p3 < (4 : Int32) → Q none (19, (ups F 2 (p1 + (1 : Int32))), G, (ups A 3 (ups (A 3) p3 (((A 3) p3) + ((A 2) p1)))), B)) (h30 : ¬ p2 = 0 → ¬ p2 = (1 : Int32) → p2 = (2 : Int32) → p3 < 0 → Q none (19, (ups F 2 (p1 + (1 : Int32))), G, A, B)) (h32 : ¬ p2 = 0 → ¬ p2 = (1 : Int32) → p2 = (2 : Int32) → ¬ p3 < 0 → ¬ p3 < (4 : Int32) → Q none (19, (ups F 2 (p1 + (1 : Int32))), G, A, B)) (h33 : ¬ p2 = 0 → ¬ p2 = (1 : Int32) → p2 = (2 : Int32) → ¬ p3 < 0 → p3 < (4 : Int32) → Q none (19, (ups F 2 (p1 + (1 : Int32))), G, (ups A 3 (ups (A 3) p3 ((A 2) p1))), B)) (h34 : ¬ p2 = 0 → p2 = (1 : Int32) → Q none (19, (ups F 2 (p1 + (1 : Int32))), G, A, B)) (h35 : p2 = 0 → Q none (19, (ups F 5 (1 : Int32)), G, A, B)) :
    Wk l Z (MoC Z cdC) md_act 0 [.val (.ref 0), .val (.int p1), .val (.int p2), .val (.int p3), .unset, .unset] [] (19, F, G, A, B) 0 0 Q := by
  refine Wk.aloadN o_act_0 rfl ?_
  refine Wk.getA (mA_cellB) (by decide) (i' := 3) rfl (wf_cellB H) o_act_1 ?_
  refine Wk.iloadN o_act_4 rfl ?_
  refine Wk.iaload (mA_cellB) (by decide) (i' := 3) rfl s1 s2 o_act_5 (y := ((A 2) p1)) rfl ?_
  refine Wk.istore o_act_6 (Or.inl rfl) (L' := [.val (.ref 0), .val (.int p1), .val (.int p2), .val (.int p3), .val (.int ((A 2) p1)), .unset]) rfl ?_
  refine Wk.iloadN o_act_8 rfl ?_
  refine Wk.if_ne o_act_9 (fun q3 => ?_) (fun q3 => ?_)
  · refine Wk.iloadN o_act_20 rfl ?_
    refine Wk.iconst o_act_21 (z := (1 : Int32)) (by decide) ?_
    refine Wk.icmp_ne o_act_22 (fun q4 => ?_) (fun q4 => ?_)
    · refine Wk.iloadN o_act_35 rfl ?_
      refine Wk.iconst o_act_36 (z := (2 : Int32)) (by decide) ?_
      refine Wk.icmp_ne o_act_37 (fun q5 => ?_) (fun q5 => ?_)
      · refine Wk.iloadN o_act_67 rfl ?_
        refine Wk.iconst o_act_68 (z := (3 : Int32)) (by decide) ?_
        refine Wk.icmp_ne o_act_69 (fun q6 => ?_) (fun q6 => ?_)
        · refine Wk.iloadN o_act_106 rfl ?_
          refine Wk.iconst o_act_107 (z := (4 : Int32)) (by decide) ?_
          refine Wk.icmp_ne o_act_108 (fun q7 => ?_) (fun q7 => ?_)
          · refine Wk.iloadN o_act_156 rfl ?_
            refine Wk.iconst o_act_157 (z := (5 : Int32)) (by decide) ?_
            refine Wk.icmp_ne o_act_158 (fun q8 => ?_) (fun q8 => ?_)
            · refine Wk.iloadN o_act_170 rfl ?_
              refine Wk.bipush o_act_171 (z := (6 : Int32)) (by decide) ?_
              refine Wk.icmp_ne o_act_173 (fun q9 => ?_) (fun q9 => ?_)
              · refine Wk.aloadN o_act_186 rfl ?_
                exact False.elim (h10 q3 q4 q5 q6 q7 q8 q9)
              · refine Wk.aloadN o_act_176 rfl ?_
                refine Wk.iloadN o_act_177 rfl ?_
                refine Wk.iload o_act_178 rfl ?_
                exact False.elim (h11 q3 q4 q5 q6 q7 q8 q9)
            · refine Wk.aloadN o_act_161 rfl ?_
              refine Wk.iload o_act_162 rfl ?_
              refine Wk.putI (coC H) (mI_pc) (wf_pc H) (Or.inl (wy_pc H)) o_act_164 ?_
              refine Wk.goto o_act_167 ?_
              exact Wk.ret mrC rfl o_act_190 rfl (by decide) (by decide) (h12 q3 q4 q5 q6 q7 q8)
          · refine Wk.iloadN o_act_111 rfl ?_
            have J18 : Wk l Z (MoC Z cdC) md_act 134 [.val (.ref 0), .val (.int p1), .val (.int p2), .val (.int p3), .val (.int ((A 2) p1)), .unset] [.int (if p3 < 0 then (0 : Int32) else (if p3 < (4 : Int32) then (if ((A 3) p3) = 0 then (0 : Int32) else (1 : Int32)) else (0 : Int32)))] (19, F, G, A, B) 0 0 Q := by
              refine Wk.istore o_act_134 (Or.inl rfl) (L' := [.val (.ref 0), .val (.int p1), .val (.int p2), .val (.int p3), .val (.int ((A 2) p1)), .val (.int (if p3 < 0 then (0 : Int32) else (if p3 < (4 : Int32) then (if ((A 3) p3) = 0 then (0 : Int32) else (1 : Int32)) else (0 : Int32))))]) rfl ?_
              refine Wk.aloadN o_act_136 rfl ?_
              refine Wk.iload o_act_137 rfl ?_
              have J20 : Wk l Z (MoC Z cdC) md_act 150 [.val (.ref 0), .val (.int p1), .val (.int p2), .val (.int p3), .val (.int ((A 2) p1)), .val (.int (if p3 < 0 then (0 : Int32) else (if p3 < (4 : Int32) then (if ((A 3) p3) = 0 then (0 : Int32) else (1 : Int32)) else (0 : Int32))))] [.int (if (if p3 < 0 then (0 : Int32) else (if p3 < (4 : Int32) then (if ((A 3) p3) = 0 then (0 : Int32) else (1 : Int32)) else (0 : Int32))) = 0 then (p1 + (1 : Int32)) else ((A 2) p1)), .ref 0] (19, F, G, A, B) 0 0 Q := by
                refine Wk.putI (coC H) (mI_pc) (wf_pc H) (Or.inl (wy_pc H)) o_act_150 ?_
                refine Wk.goto o_act_153 ?_
                exact Wk.ret mrC rfl o_act_190 rfl (by decide) (by decide) (h21 q3 q4 q5 q6 q7)
              refine Wk.if_eq o_act_139 (fun q19 => ?_) (fun q19 => ?_)
              · refine Wk.iloadN o_act_147 rfl ?_
                refine Wk.iconst o_act_148 (z := (1 : Int32)) (by decide) ?_
                refine Wk.iadd o_act_149 ?_
                first | exact J20 | (simp only [if_pos q19] at J20 ⊢; exact J20)
              · refine Wk.iload o_act_142 rfl ?_
                refine Wk.goto o_act_144 ?_
                first | exact J20 | (simp only [if_neg q19] at J20 ⊢; exact J20)
            refine Wk.if_lt o_act_112 (fun q13 => ?_) (fun q13 => ?_)
            · refine Wk.iconst o_act_133 (z := (0 : Int32)) (by decide) ?_
              first | exact J18 | (simp only [if_pos q13] at J18 ⊢; exact J18)
            · refine Wk.iloadN o_act_115 rfl ?_
              refine Wk.iconst o_act_116 (z := (4 : Int32)) (by decide) ?_
              refine Wk.icmp_ge o_act_117 (fun q14 => ?_) (fun q14 => ?_)
              · refine Wk.iconst o_act_133 (z := (0 : Int32)) (by decide) ?_
                first | exact J18 | (simp only [if_neg q13, if_neg q14] at J18 ⊢; exact J18)
              · refine Wk.aloadN o_act_120 rfl ?_
                refine Wk.getA (mA_reg) (by decide) (i' := 4) rfl (wf_reg H) o_act_121 ?_
                refine Wk.iloadN o_act_124 rfl ?_
                refine Wk.iaload (mA_reg) (by decide) (i' := 4) rfl q13 q14 o_act_125 (y := ((A 3) p3)) rfl ?_
                refine Wk.if_eq o_act_126 (fun q15 => ?_) (fun q15 => ?_)
                · refine Wk.iconst o_act_133 (z := (0 : Int32)) (by decide) ?_
                  first | exact J18 | (simp only [if_neg q13, if_pos q14, if_pos q15] at J18 ⊢; exact J18)
                · refine Wk.iconst o_act_129 (z := (1 : Int32)) (by decide) ?_
                  refine Wk.goto o_act_130 ?_
                  first | exact J18 | (simp only [if_neg q13, if_pos q14, if_neg q15] at J18 ⊢; exact J18)
        · refine Wk.iloadN o_act_72 rfl ?_
          refine Wk.if_lt o_act_73 (fun q22 => ?_) (fun q22 => ?_)
          · refine Wk.aloadN o_act_96 rfl ?_
            refine Wk.iloadN o_act_97 rfl ?_
            refine Wk.iconst o_act_98 (z := (1 : Int32)) (by decide) ?_
            refine Wk.iadd o_act_99 ?_
            refine Wk.putI (coC H) (mI_pc) (wf_pc H) (Or.inl (wy_pc H)) o_act_100 ?_
            refine Wk.goto o_act_103 ?_
            exact Wk.ret mrC rfl o_act_190 rfl (by decide) (by decide) (h24 q3 q4 q5 q6 q22)
          · refine Wk.iloadN o_act_76 rfl ?_
            refine Wk.iconst o_act_77 (z := (4 : Int32)) (by decide) ?_
            refine Wk.icmp_ge o_act_78 (fun q25 => ?_) (fun q25 => ?_)
            · refine Wk.aloadN o_act_96 rfl ?_
              refine Wk.iloadN o_act_97 rfl ?_
              refine Wk.iconst o_act_98 (z := (1 : Int32)) (by decide) ?_
              refine Wk.iadd o_act_99 ?_
              refine Wk.putI (coC H) (mI_pc) (wf_pc H) (Or.inl (wy_pc H)) o_act_100 ?_
              refine Wk.goto o_act_103 ?_
              exact Wk.ret mrC rfl o_act_190 rfl (by decide) (by decide) (h26 q3 q4 q5 q6 q22 q25)
            · refine Wk.aloadN o_act_81 rfl ?_
              refine Wk.getA (mA_reg) (by decide) (i' := 4) rfl (wf_reg H) o_act_82 ?_
              refine Wk.iloadN o_act_85 rfl ?_
              refine Wk.aloadN o_act_86 rfl ?_
              refine Wk.getA (mA_reg) (by decide) (i' := 4) rfl (wf_reg H) o_act_87 ?_
              refine Wk.iloadN o_act_90 rfl ?_
              refine Wk.iaload (mA_reg) (by decide) (i' := 4) rfl q22 q25 o_act_91 (y := ((A 3) p3)) rfl ?_
              refine Wk.iload o_act_92 rfl ?_
              refine Wk.iadd o_act_94 ?_
              refine Wk.iastore (coC H) (f := (A 3)) (mA_reg) rfl (by decide) (i' := 4) rfl q22 q25 o_act_95 ?_
              refine Wk.aloadN o_act_96 rfl ?_
              refine Wk.iloadN o_act_97 rfl ?_
              refine Wk.iconst o_act_98 (z := (1 : Int32)) (by decide) ?_
              refine Wk.iadd o_act_99 ?_
              refine Wk.putI (coC H) (mI_pc) (wf_pc H) (Or.inl (wy_pc H)) o_act_100 ?_
              refine Wk.goto o_act_103 ?_
              exact Wk.ret mrC rfl o_act_190 rfl (by decide) (by decide) (h27 q3 q4 q5 q6 q22 q25)
      · refine Wk.iloadN o_act_40 rfl ?_
        refine Wk.if_lt o_act_41 (fun q28 => ?_) (fun q28 => ?_)
        · refine Wk.aloadN o_act_57 rfl ?_
          refine Wk.iloadN o_act_58 rfl ?_
          refine Wk.iconst o_act_59 (z := (1 : Int32)) (by decide) ?_
          refine Wk.iadd o_act_60 ?_
          refine Wk.putI (coC H) (mI_pc) (wf_pc H) (Or.inl (wy_pc H)) o_act_61 ?_
          refine Wk.goto o_act_64 ?_
          exact Wk.ret mrC rfl o_act_190 rfl (by decide) (by decide) (h30 q3 q4 q5 q28)
        · refine Wk.iloadN o_act_44 rfl ?_
          refine Wk.iconst o_act_45 (z := (4 : Int32)) (by decide) ?_
          refine Wk.icmp_ge o_act_46 (fun q31 => ?_) (fun q31 => ?_)
          · refine Wk.aloadN o_act_57 rfl ?_
            refine Wk.iloadN o_act_58 rfl ?_
            refine Wk.iconst o_act_59 (z := (1 : Int32)) (by decide) ?_
            refine Wk.iadd o_act_60 ?_
            refine Wk.putI (coC H) (mI_pc) (wf_pc H) (Or.inl (wy_pc H)) o_act_61 ?_
            refine Wk.goto o_act_64 ?_
            exact Wk.ret mrC rfl o_act_190 rfl (by decide) (by decide) (h32 q3 q4 q5 q28 q31)
          · refine Wk.aloadN o_act_49 rfl ?_
            refine Wk.getA (mA_reg) (by decide) (i' := 4) rfl (wf_reg H) o_act_50 ?_
            refine Wk.iloadN o_act_53 rfl ?_
            refine Wk.iload o_act_54 rfl ?_
            refine Wk.iastore (coC H) (f := (A 3)) (mA_reg) rfl (by decide) (i' := 4) rfl q28 q31 o_act_56 ?_
            refine Wk.aloadN o_act_57 rfl ?_
            refine Wk.iloadN o_act_58 rfl ?_
            refine Wk.iconst o_act_59 (z := (1 : Int32)) (by decide) ?_
            refine Wk.iadd o_act_60 ?_
            refine Wk.putI (coC H) (mI_pc) (wf_pc H) (Or.inl (wy_pc H)) o_act_61 ?_
            refine Wk.goto o_act_64 ?_
            exact Wk.ret mrC rfl o_act_190 rfl (by decide) (by decide) (h33 q3 q4 q5 q28 q31)
    · refine Wk.aloadN o_act_25 rfl ?_
      refine Wk.iloadN o_act_26 rfl ?_
      refine Wk.iconst o_act_27 (z := (1 : Int32)) (by decide) ?_
      refine Wk.iadd o_act_28 ?_
      refine Wk.putI (coC H) (mI_pc) (wf_pc H) (Or.inl (wy_pc H)) o_act_29 ?_
      refine Wk.goto o_act_32 ?_
      exact Wk.ret mrC rfl o_act_190 rfl (by decide) (by decide) (h34 q3 q4)
  · refine Wk.aloadN o_act_12 rfl ?_
    refine Wk.iconst o_act_13 (z := (1 : Int32)) (by decide) ?_
    refine Wk.putI (coC H) (mI_status) (wf_status H) (Or.inl (wy_status H)) o_act_14 ?_
    refine Wk.goto o_act_17 ?_
    exact Wk.ret mrC rfl o_act_190 rfl (by decide) (by decide) (h35 q3)

def F_act (F : Nat → Int32) (A : Nat → Int32 → Int32) (p1 : Int32) (p2 : Int32) (p3 : Int32) : Nat → Int32 := (if p2 = 0 then (ups F 5 (1 : Int32)) else (if p2 = (1 : Int32) then (ups F 2 (p1 + (1 : Int32))) else (if p2 = (2 : Int32) then (ups F 2 (p1 + (1 : Int32))) else (if p2 = (3 : Int32) then (ups F 2 (p1 + (1 : Int32))) else (if p2 = (4 : Int32) then (ups F 2 (if (if p3 < 0 then (0 : Int32) else (if p3 < (4 : Int32) then (if ((A 3) p3) = 0 then (0 : Int32) else (1 : Int32)) else (0 : Int32))) = 0 then (p1 + (1 : Int32)) else ((A 2) p1))) else (ups F 2 ((A 2) p1)))))))
theorem eF_act (F : Nat → Int32) (A : Nat → Int32 → Int32) (p1 : Int32) (p2 : Int32) (p3 : Int32) : F_act F A p1 p2 p3 = (if p2 = 0 then (ups F 5 (1 : Int32)) else (if p2 = (1 : Int32) then (ups F 2 (p1 + (1 : Int32))) else (if p2 = (2 : Int32) then (ups F 2 (p1 + (1 : Int32))) else (if p2 = (3 : Int32) then (ups F 2 (p1 + (1 : Int32))) else (if p2 = (4 : Int32) then (ups F 2 (if (if p3 < 0 then (0 : Int32) else (if p3 < (4 : Int32) then (if ((A 3) p3) = 0 then (0 : Int32) else (1 : Int32)) else (0 : Int32))) = 0 then (p1 + (1 : Int32)) else ((A 2) p1))) else (ups F 2 ((A 2) p1))))))) := Eq.trans rfl rfl
def A_act (A : Nat → Int32 → Int32) (p1 : Int32) (p2 : Int32) (p3 : Int32) : Nat → Int32 → Int32 := (if p2 = 0 then A else (if p2 = (1 : Int32) then A else (if p2 = (2 : Int32) then (if p3 < 0 then A else (if p3 < (4 : Int32) then (ups A 3 (ups (A 3) p3 ((A 2) p1))) else A)) else (if p2 = (3 : Int32) then (if p3 < 0 then A else (if p3 < (4 : Int32) then (ups A 3 (ups (A 3) p3 (((A 3) p3) + ((A 2) p1)))) else A)) else A))))
theorem eA_act (A : Nat → Int32 → Int32) (p1 : Int32) (p2 : Int32) (p3 : Int32) : A_act A p1 p2 p3 = (if p2 = 0 then A else (if p2 = (1 : Int32) then A else (if p2 = (2 : Int32) then (if p3 < 0 then A else (if p3 < (4 : Int32) then (ups A 3 (ups (A 3) p3 ((A 2) p1))) else A)) else (if p2 = (3 : Int32) then (if p3 < 0 then A else (if p3 < (4 : Int32) then (ups A 3 (ups (A 3) p3 (((A 3) p3) + ((A 2) p1)))) else A)) else A)))) := Eq.trans rfl rfl
theorem F_act_0 (F : Nat → Int32) (A : Nat → Int32 → Int32) (p1 : Int32) (p2 : Int32) (p3 : Int32) : F_act F A p1 p2 p3 0 = (F 0) := by
  rw [eF_act]
  by_cases q1 : p2 = 0
  · try simp only [if_pos q1]
    rfl
  · try simp only [if_neg q1]
    by_cases q2 : p2 = (1 : Int32)
    · try simp only [if_pos q2]
      rfl
    · try simp only [if_neg q2]
      by_cases q3 : p2 = (2 : Int32)
      · try simp only [if_pos q3]
        by_cases q4 : p3 < 0
        · try simp only [if_pos q4]
          rfl
        · try simp only [if_neg q4]
          by_cases q5 : p3 < (4 : Int32)
          · try simp only [if_pos q5]
            rfl
          · try simp only [if_neg q5]
            rfl
      · try simp only [if_neg q3]
        by_cases q4 : p2 = (3 : Int32)
        · try simp only [if_pos q4]
          by_cases q5 : p3 < 0
          · try simp only [if_pos q5]
            rfl
          · try simp only [if_neg q5]
            by_cases q6 : p3 < (4 : Int32)
            · try simp only [if_pos q6]
              rfl
            · try simp only [if_neg q6]
              rfl
        · try simp only [if_neg q4]
          by_cases q5 : p2 = (4 : Int32)
          · try simp only [if_pos q5]
            rfl
          · try simp only [if_neg q5]
            rfl
theorem F_act_1 (F : Nat → Int32) (A : Nat → Int32 → Int32) (p1 : Int32) (p2 : Int32) (p3 : Int32) : F_act F A p1 p2 p3 1 = (F 1) := by
  rw [eF_act]
  by_cases q1 : p2 = 0
  · try simp only [if_pos q1]
    rfl
  · try simp only [if_neg q1]
    by_cases q2 : p2 = (1 : Int32)
    · try simp only [if_pos q2]
      rfl
    · try simp only [if_neg q2]
      by_cases q3 : p2 = (2 : Int32)
      · try simp only [if_pos q3]
        by_cases q4 : p3 < 0
        · try simp only [if_pos q4]
          rfl
        · try simp only [if_neg q4]
          by_cases q5 : p3 < (4 : Int32)
          · try simp only [if_pos q5]
            rfl
          · try simp only [if_neg q5]
            rfl
      · try simp only [if_neg q3]
        by_cases q4 : p2 = (3 : Int32)
        · try simp only [if_pos q4]
          by_cases q5 : p3 < 0
          · try simp only [if_pos q5]
            rfl
          · try simp only [if_neg q5]
            by_cases q6 : p3 < (4 : Int32)
            · try simp only [if_pos q6]
              rfl
            · try simp only [if_neg q6]
              rfl
        · try simp only [if_neg q4]
          by_cases q5 : p2 = (4 : Int32)
          · try simp only [if_pos q5]
            rfl
          · try simp only [if_neg q5]
            rfl
theorem F_act_2 (F : Nat → Int32) (A : Nat → Int32 → Int32) (p1 : Int32) (p2 : Int32) (p3 : Int32) : F_act F A p1 p2 p3 2 = (if p2 = 0 then (F 2) else (if p2 = (1 : Int32) then (p1 + (1 : Int32)) else (if p2 = (2 : Int32) then (p1 + (1 : Int32)) else (if p2 = (3 : Int32) then (p1 + (1 : Int32)) else (if p2 = (4 : Int32) then (if (if p3 < 0 then (0 : Int32) else (if p3 < (4 : Int32) then (if ((A 3) p3) = 0 then (0 : Int32) else (1 : Int32)) else (0 : Int32))) = 0 then (p1 + (1 : Int32)) else ((A 2) p1)) else ((A 2) p1)))))) := by
  rw [eF_act]
  by_cases q1 : p2 = 0
  · try simp only [if_pos q1]
    rfl
  · try simp only [if_neg q1]
    by_cases q2 : p2 = (1 : Int32)
    · try simp only [if_pos q2]
      rfl
    · try simp only [if_neg q2]
      by_cases q3 : p2 = (2 : Int32)
      · try simp only [if_pos q3]
        by_cases q4 : p3 < 0
        · try simp only [if_pos q4]
          rfl
        · try simp only [if_neg q4]
          by_cases q5 : p3 < (4 : Int32)
          · try simp only [if_pos q5]
            rfl
          · try simp only [if_neg q5]
            rfl
      · try simp only [if_neg q3]
        by_cases q4 : p2 = (3 : Int32)
        · try simp only [if_pos q4]
          by_cases q5 : p3 < 0
          · try simp only [if_pos q5]
            rfl
          · try simp only [if_neg q5]
            by_cases q6 : p3 < (4 : Int32)
            · try simp only [if_pos q6]
              rfl
            · try simp only [if_neg q6]
              rfl
        · try simp only [if_neg q4]
          by_cases q5 : p2 = (4 : Int32)
          · try simp only [if_pos q5]
            rfl
          · try simp only [if_neg q5]
            rfl
theorem F_act_3 (F : Nat → Int32) (A : Nat → Int32 → Int32) (p1 : Int32) (p2 : Int32) (p3 : Int32) : F_act F A p1 p2 p3 3 = (F 3) := by
  rw [eF_act]
  by_cases q1 : p2 = 0
  · try simp only [if_pos q1]
    rfl
  · try simp only [if_neg q1]
    by_cases q2 : p2 = (1 : Int32)
    · try simp only [if_pos q2]
      rfl
    · try simp only [if_neg q2]
      by_cases q3 : p2 = (2 : Int32)
      · try simp only [if_pos q3]
        by_cases q4 : p3 < 0
        · try simp only [if_pos q4]
          rfl
        · try simp only [if_neg q4]
          by_cases q5 : p3 < (4 : Int32)
          · try simp only [if_pos q5]
            rfl
          · try simp only [if_neg q5]
            rfl
      · try simp only [if_neg q3]
        by_cases q4 : p2 = (3 : Int32)
        · try simp only [if_pos q4]
          by_cases q5 : p3 < 0
          · try simp only [if_pos q5]
            rfl
          · try simp only [if_neg q5]
            by_cases q6 : p3 < (4 : Int32)
            · try simp only [if_pos q6]
              rfl
            · try simp only [if_neg q6]
              rfl
        · try simp only [if_neg q4]
          by_cases q5 : p2 = (4 : Int32)
          · try simp only [if_pos q5]
            rfl
          · try simp only [if_neg q5]
            rfl
theorem F_act_4 (F : Nat → Int32) (A : Nat → Int32 → Int32) (p1 : Int32) (p2 : Int32) (p3 : Int32) : F_act F A p1 p2 p3 4 = (F 4) := by
  rw [eF_act]
  by_cases q1 : p2 = 0
  · try simp only [if_pos q1]
    rfl
  · try simp only [if_neg q1]
    by_cases q2 : p2 = (1 : Int32)
    · try simp only [if_pos q2]
      rfl
    · try simp only [if_neg q2]
      by_cases q3 : p2 = (2 : Int32)
      · try simp only [if_pos q3]
        by_cases q4 : p3 < 0
        · try simp only [if_pos q4]
          rfl
        · try simp only [if_neg q4]
          by_cases q5 : p3 < (4 : Int32)
          · try simp only [if_pos q5]
            rfl
          · try simp only [if_neg q5]
            rfl
      · try simp only [if_neg q3]
        by_cases q4 : p2 = (3 : Int32)
        · try simp only [if_pos q4]
          by_cases q5 : p3 < 0
          · try simp only [if_pos q5]
            rfl
          · try simp only [if_neg q5]
            by_cases q6 : p3 < (4 : Int32)
            · try simp only [if_pos q6]
              rfl
            · try simp only [if_neg q6]
              rfl
        · try simp only [if_neg q4]
          by_cases q5 : p2 = (4 : Int32)
          · try simp only [if_pos q5]
            rfl
          · try simp only [if_neg q5]
            rfl
theorem F_act_5 (F : Nat → Int32) (A : Nat → Int32 → Int32) (p1 : Int32) (p2 : Int32) (p3 : Int32) : F_act F A p1 p2 p3 5 = (if p2 = 0 then (1 : Int32) else (F 5)) := by
  rw [eF_act]
  by_cases q1 : p2 = 0
  · try simp only [if_pos q1]
    rfl
  · try simp only [if_neg q1]
    by_cases q2 : p2 = (1 : Int32)
    · try simp only [if_pos q2]
      rfl
    · try simp only [if_neg q2]
      by_cases q3 : p2 = (2 : Int32)
      · try simp only [if_pos q3]
        by_cases q4 : p3 < 0
        · try simp only [if_pos q4]
          rfl
        · try simp only [if_neg q4]
          by_cases q5 : p3 < (4 : Int32)
          · try simp only [if_pos q5]
            rfl
          · try simp only [if_neg q5]
            rfl
      · try simp only [if_neg q3]
        by_cases q4 : p2 = (3 : Int32)
        · try simp only [if_pos q4]
          by_cases q5 : p3 < 0
          · try simp only [if_pos q5]
            rfl
          · try simp only [if_neg q5]
            by_cases q6 : p3 < (4 : Int32)
            · try simp only [if_pos q6]
              rfl
            · try simp only [if_neg q6]
              rfl
        · try simp only [if_neg q4]
          by_cases q5 : p2 = (4 : Int32)
          · try simp only [if_pos q5]
            rfl
          · try simp only [if_neg q5]
            rfl
theorem F_act_6 (F : Nat → Int32) (A : Nat → Int32 → Int32) (p1 : Int32) (p2 : Int32) (p3 : Int32) : F_act F A p1 p2 p3 6 = (F 6) := by
  rw [eF_act]
  by_cases q1 : p2 = 0
  · try simp only [if_pos q1]
    rfl
  · try simp only [if_neg q1]
    by_cases q2 : p2 = (1 : Int32)
    · try simp only [if_pos q2]
      rfl
    · try simp only [if_neg q2]
      by_cases q3 : p2 = (2 : Int32)
      · try simp only [if_pos q3]
        by_cases q4 : p3 < 0
        · try simp only [if_pos q4]
          rfl
        · try simp only [if_neg q4]
          by_cases q5 : p3 < (4 : Int32)
          · try simp only [if_pos q5]
            rfl
          · try simp only [if_neg q5]
            rfl
      · try simp only [if_neg q3]
        by_cases q4 : p2 = (3 : Int32)
        · try simp only [if_pos q4]
          by_cases q5 : p3 < 0
          · try simp only [if_pos q5]
            rfl
          · try simp only [if_neg q5]
            by_cases q6 : p3 < (4 : Int32)
            · try simp only [if_pos q6]
              rfl
            · try simp only [if_neg q6]
              rfl
        · try simp only [if_neg q4]
          by_cases q5 : p2 = (4 : Int32)
          · try simp only [if_pos q5]
            rfl
          · try simp only [if_neg q5]
            rfl
theorem run_act {l : Launch} {Z : State} {a0 : Array Value} (H : OK Z a0) (F : Nat → Int32) (G : Nat → Int64) (A : Nat → Int32 → Int32) (B : Nat → Int32 → Int64) (p1 : Int32) (p2 : Int32) (p3 : Int32) (e1 : ¬ p1 < 0) (e2 : p1 < (64 : Int32)) (e3 : p2 = 0) :
    Wk l Z (MoC Z cdC) md_act 0 [.val (.ref 0), .val (.int p1), .val (.int p2), .val (.int p3), .unset, .unset] [] (19, F, G, A, B) 0 0 (fun v w' => v = none ∧ w' = (19, (F_act F A p1 p2 p3), G, (A_act A p1 p2 p3), B)) :=
  wp_act H F G A B p1 p2 p3 (by intros; first | assumption | grind) (by intros; first | assumption | grind) (by intros; first | assumption | grind) (by intros; first | assumption | grind) (fun q3 q4 q5 q6 q7 q8 => ⟨rfl, by simp only [eF_act, eA_act, if_neg q3, if_neg q4, if_neg q5, if_neg q6, if_neg q7, if_pos q8]⟩) (fun q3 q4 q5 q6 q7 => ⟨rfl, by simp only [eF_act, eA_act, if_neg q3, if_neg q4, if_neg q5, if_neg q6, if_pos q7]⟩) (fun q3 q4 q5 q6 q22 => ⟨rfl, by simp only [eF_act, eA_act, if_neg q3, if_neg q4, if_neg q5, if_pos q6, if_pos q22]⟩) (fun q3 q4 q5 q6 q22 q25 => ⟨rfl, by simp only [eF_act, eA_act, if_neg q3, if_neg q4, if_neg q5, if_pos q6, if_neg q22, if_neg q25]⟩) (fun q3 q4 q5 q6 q22 q25 => ⟨rfl, by simp only [eF_act, eA_act, if_neg q3, if_neg q4, if_neg q5, if_pos q6, if_neg q22, if_pos q25]⟩) (fun q3 q4 q5 q28 => ⟨rfl, by simp only [eF_act, eA_act, if_neg q3, if_neg q4, if_pos q5, if_pos q28]⟩) (fun q3 q4 q5 q28 q31 => ⟨rfl, by simp only [eF_act, eA_act, if_neg q3, if_neg q4, if_pos q5, if_neg q28, if_neg q31]⟩) (fun q3 q4 q5 q28 q31 => ⟨rfl, by simp only [eF_act, eA_act, if_neg q3, if_neg q4, if_pos q5, if_neg q28, if_pos q31]⟩) (fun q3 q4 => ⟨rfl, by simp only [eF_act, eA_act, if_neg q3, if_pos q4]⟩) (fun q3 => ⟨rfl, by simp only [eF_act, eA_act, if_pos q3]⟩)
set_option maxRecDepth 65536 in
set_option maxHeartbeats 4000000 in
theorem wp_step {l : Launch} {Z : State} {a0 : Array Value} (H : OK Z a0) (F : Nat → Int32) (G : Nat → Int64) (A : Nat → Int32 → Int32) (B : Nat → Int32 → Int64) {Q : Option Value → WO → Prop} (h2 : (F 2) < 0 → Q none (19, (ups F 5 (2 : Int32)), G, A, B)) (s4 : ¬ (F 2) < 0 → ¬ (63 : Int32) < (F 2) → (F 2) < (64 : Int32)) (s5 : ¬ (F 2) < 0 → ¬ (63 : Int32) < (F 2) → ((A 0) (F 2)) = 0) (s8 : ¬ (F 2) < 0 → ¬ (63 : Int32) < (F 2) → ¬ (if ((A 0) (F 2)) = 0 then (1 : Int32) else (F 5)) = 0 → ¬ (F 0) = (0 : Int32)) (h14 : ¬ (F 2) < 0 → ¬ (63 : Int32) < (F 2) → ¬ (if ((A 0) (F 2)) = 0 then (1 : Int32) else (F 5)) = 0 → ¬ (((F 3) + (1 : Int32)) % (F 0)) = 0 → Q none (19, (ups (F_act F A (F 2) ((A 0) (F 2)) ((A 1) (F 2))) 3 ((F 3) + (1 : Int32))), G, (A_act A (F 2) ((A 0) (F 2)) ((A 1) (F 2))), B)) (s15 : ¬ (F 2) < 0 → ¬ (63 : Int32) < (F 2) → ¬ (if ((A 0) (F 2)) = 0 then (1 : Int32) else (F 5)) = 0 → (((F 3) + (1 : Int32)) % (F 0)) = 0 → ¬ (F 1) = (0 : Int32)) (h18 : ¬ (F 2) < 0 → ¬ (63 : Int32) < (F 2) → ¬ (if ((A 0) (F 2)) = 0 then (1 : Int32) else (F 5)) = 0 → (((F 3) + (1 : Int32)) % (F 0)) = 0 → ((F 2) / (F 1)) < 0 → Q none (19, (ups (F_act F A (F 2) ((A 0) (F 2)) ((A 1) (F 2))) 3 ((F 3) + (1 : Int32))), G, (A_act A (F 2) ((A 0) (F 2)) ((A 1) (F 2))), B)) (h20 : ¬ (F 2) < 0 → ¬ (63 : Int32) < (F 2) → ¬ (if ((A 0) (F 2)) = 0 then (1 : Int32) else (F 5)) = 0 → (((F 3) + (1 : Int32)) % (F 0)) = 0 → ¬ ((F 2) / (F 1)) < 0 → ¬ ((F 2) / (F 1)) < (64 : Int32) → Q none (19, (ups (F_act F A (F 2) ((A 0) (F 2)) ((A 1) (F 2))) 3 ((F 3) + (1 : Int32))), G, (A_act A (F 2) ((A 0) (F 2)) ((A 1) (F 2))), B)) (h21 : ¬ (F 2) < 0 → ¬ (63 : Int32) < (F 2) → ¬ (if ((A 0) (F 2)) = 0 then (1 : Int32) else (F 5)) = 0 → (((F 3) + (1 : Int32)) % (F 0)) = 0 → ¬ ((F 2) / (F 1)) < 0 → ((F 2) / (F 1)) < (64 : Int32) → Q none (19, (ups (F_act F A (F 2) ((A 0) (F 2)) ((A 1) (F 2))) 3 ((F 3) + (1 : Int32))), G, (ups (A_act A (F 2) ((A 0) (F 2)) ((A 1) (F 2))) 7 (ups ((A_act A (F 2) ((A 0) (F 2)) ((A 1) (F 2))) 7) ((F 2) / (F 1)) ((((A_act A (F 2) ((A 0) (F 2)) ((A 1) (F 2))) 7) ((F 2) / (F 1))) + (1 : Int32)))), B)) (s23 : ¬ (F 2) < 0 → ¬ (63 : Int32) < (F 2) → (if ((A 0) (F 2)) = 0 then (1 : Int32) else (F 5)) = 0 → ¬ (if ((A 0) (F 2)) = 0 then (F 2) else (if ((A 0) (F 2)) = (1 : Int32) then ((F 2) + (1 : Int32)) else (if ((A 0) (F 2)) = (2 : Int32) then ((F 2) + (1 : Int32)) else (if ((A 0) (F 2)) = (3 : Int32) then ((F 2) + (1 : Int32)) else (if ((A 0) (F 2)) = (4 : Int32) then (if (if ((A 1) (F 2)) < 0 then (0 : Int32) else (if ((A 1) (F 2)) < (4 : Int32) then (if ((A 3) ((A 1) (F 2))) = 0 then (0 : Int32) else (1 : Int32)) else (0 : Int32))) = 0 then ((F 2) + (1 : Int32)) else ((A 2) (F 2))) else ((A 2) (F 2))))))) = (64 : Int32) → ¬ (F 0) = (0 : Int32)) (h29 : ¬ (F 2) < 0 → ¬ (63 : Int32) < (F 2) → (if ((A 0) (F 2)) = 0 then (1 : Int32) else (F 5)) = 0 → ¬ (if ((A 0) (F 2)) = 0 then (F 2) else (if ((A 0) (F 2)) = (1 : Int32) then ((F 2) + (1 : Int32)) else (if ((A 0) (F 2)) = (2 : Int32) then ((F 2) + (1 : Int32)) else (if ((A 0) (F 2)) = (3 : Int32) then ((F 2) + (1 : Int32)) else (if ((A 0) (F 2)) = (4 : Int32) then (if (if ((A 1) (F 2)) < 0 then (0 : Int32) else (if ((A 1) (F 2)) < (4 : Int32) then (if ((A 3) ((A 1) (F 2))) = 0 then (0 : Int32) else (1 : Int32)) else (0 : Int32))) = 0 then ((F 2) + (1 : Int32)) else ((A 2) (F 2))) else ((A 2) (F 2))))))) = (64 : Int32) → ¬ (((F 3) + (1 : Int32)) % (F 0)) = 0 → Q none (19, (ups (F_act F A (F 2) ((A 0) (F 2)) ((A 1) (F 2))) 3 ((F 3) + (1 : Int32))), G, (A_act A (F 2) ((A 0) (F 2)) ((A 1) (F 2))), B)) (s30 : ¬ (F 2) < 0 → ¬ (63 : Int32) < (F 2) → (if ((A 0) (F 2)) = 0 then (1 : Int32) else (F 5)) = 0 → ¬ (if ((A 0) (F 2)) = 0 then (F 2) else (if ((A 0) (F 2)) = (1 : Int32) then ((F 2) + (1 : Int32)) else (if ((A 0) (F 2)) = (2 : Int32) then ((F 2) + (1 : Int32)) else (if ((A 0) (F 2)) = (3 : Int32) then ((F 2) + (1 : Int32)) else (if ((A 0) (F 2)) = (4 : Int32) then (if (if ((A 1) (F 2)) < 0 then (0 : Int32) else (if ((A 1) (F 2)) < (4 : Int32) then (if ((A 3) ((A 1) (F 2))) = 0 then (0 : Int32) else (1 : Int32)) else (0 : Int32))) = 0 then ((F 2) + (1 : Int32)) else ((A 2) (F 2))) else ((A 2) (F 2))))))) = (64 : Int32) → (((F 3) + (1 : Int32)) % (F 0)) = 0 → ¬ (F 1) = (0 : Int32)) (h33 : ¬ (F 2) < 0 → ¬ (63 : Int32) < (F 2) → (if ((A 0) (F 2)) = 0 then (1 : Int32) else (F 5)) = 0 → ¬ (if ((A 0) (F 2)) = 0 then (F 2) else (if ((A 0) (F 2)) = (1 : Int32) then ((F 2) + (1 : Int32)) else (if ((A 0) (F 2)) = (2 : Int32) then ((F 2) + (1 : Int32)) else (if ((A 0) (F 2)) = (3 : Int32) then ((F 2) + (1 : Int32)) else (if ((A 0) (F 2)) = (4 : Int32) then (if (if ((A 1) (F 2)) < 0 then (0 : Int32) else (if ((A 1) (F 2)) < (4 : Int32) then (if ((A 3) ((A 1) (F 2))) = 0 then (0 : Int32) else (1 : Int32)) else (0 : Int32))) = 0 then ((F 2) + (1 : Int32)) else ((A 2) (F 2))) else ((A 2) (F 2))))))) = (64 : Int32) → (((F 3) + (1 : Int32)) % (F 0)) = 0 → ((F 2) / (F 1)) < 0 → Q none (19, (ups (F_act F A (F 2) ((A 0) (F 2)) ((A 1) (F 2))) 3 ((F 3) + (1 : Int32))), G, (A_act A (F 2) ((A 0) (F 2)) ((A 1) (F 2))), B)) (h35 : ¬ (F 2) < 0 → ¬ (63 : Int32) < (F 2) → (if ((A 0) (F 2)) = 0 then (1 : Int32) else (F 5)) = 0 → ¬ (if ((A 0) (F 2)) = 0 then (F 2) else (if ((A 0) (F 2)) = (1 : Int32) then ((F 2) + (1 : Int32)) else (if ((A 0) (F 2)) = (2 : Int32) then ((F 2) + (1 : Int32)) else (if ((A 0) (F 2)) = (3 : Int32) then ((F 2) + (1 : Int32)) else (if ((A 0) (F 2)) = (4 : Int32) then (if (if ((A 1) (F 2)) < 0 then (0 : Int32) else (if ((A 1) (F 2)) < (4 : Int32) then (if ((A 3) ((A 1) (F 2))) = 0 then (0 : Int32) else (1 : Int32)) else (0 : Int32))) = 0 then ((F 2) + (1 : Int32)) else ((A 2) (F 2))) else ((A 2) (F 2))))))) = (64 : Int32) → (((F 3) + (1 : Int32)) % (F 0)) = 0 → ¬ ((F 2) / (F 1)) < 0 → ¬ ((F 2) / (F 1)) < (64 : Int32) → Q none (19, (ups (F_act F A (F 2) ((A 0) (F 2)) ((A 1) (F 2))) 3 ((F 3) + (1 : Int32))), G, (A_act A (F 2) ((A 0) (F 2)) ((A 1) (F 2))), B)) (h36 : ¬ (F 2) < 0 → ¬ (63 : Int32) < (F 2) → (if ((A 0) (F 2)) = 0 then (1 : Int32) else (F 5)) = 0 → ¬ (if ((A 0) (F 2)) = 0 then (F 2) else (if ((A 0) (F 2)) = (1 : Int32) then ((F 2) + (1 : Int32)) else (if ((A 0) (F 2)) = (2 : Int32) then ((F 2) + (1 : Int32)) else (if ((A 0) (F 2)) = (3 : Int32) then ((F 2) + (1 : Int32)) else (if ((A 0) (F 2)) = (4 : Int32) then (if (if ((A 1) (F 2)) < 0 then (0 : Int32) else (if ((A 1) (F 2)) < (4 : Int32) then (if ((A 3) ((A 1) (F 2))) = 0 then (0 : Int32) else (1 : Int32)) else (0 : Int32))) = 0 then ((F 2) + (1 : Int32)) else ((A 2) (F 2))) else ((A 2) (F 2))))))) = (64 : Int32) → (((F 3) + (1 : Int32)) % (F 0)) = 0 → ¬ ((F 2) / (F 1)) < 0 → ((F 2) / (F 1)) < (64 : Int32) → Q none (19, (ups (F_act F A (F 2) ((A 0) (F 2)) ((A 1) (F 2))) 3 ((F 3) + (1 : Int32))), G, (ups (A_act A (F 2) ((A 0) (F 2)) ((A 1) (F 2))) 7 (ups ((A_act A (F 2) ((A 0) (F 2)) ((A 1) (F 2))) 7) ((F 2) / (F 1)) ((((A_act A (F 2) ((A 0) (F 2)) ((A 1) (F 2))) 7) ((F 2) / (F 1))) + (1 : Int32)))), B)) (s37 : ¬ (F 2) < 0 → ¬ (63 : Int32) < (F 2) → (if ((A 0) (F 2)) = 0 then (1 : Int32) else (F 5)) = 0 → (if ((A 0) (F 2)) = 0 then (F 2) else (if ((A 0) (F 2)) = (1 : Int32) then ((F 2) + (1 : Int32)) else (if ((A 0) (F 2)) = (2 : Int32) then ((F 2) + (1 : Int32)) else (if ((A 0) (F 2)) = (3 : Int32) then ((F 2) + (1 : Int32)) else (if ((A 0) (F 2)) = (4 : Int32) then (if (if ((A 1) (F 2)) < 0 then (0 : Int32) else (if ((A 1) (F 2)) < (4 : Int32) then (if ((A 3) ((A 1) (F 2))) = 0 then (0 : Int32) else (1 : Int32)) else (0 : Int32))) = 0 then ((F 2) + (1 : Int32)) else ((A 2) (F 2))) else ((A 2) (F 2))))))) = (64 : Int32) → ¬ (F 0) = (0 : Int32)) (h43 : ¬ (F 2) < 0 → ¬ (63 : Int32) < (F 2) → (if ((A 0) (F 2)) = 0 then (1 : Int32) else (F 5)) = 0 → (if ((A 0) (F 2)) = 0 then (F 2) else (if ((A 0) (F 2)) = (1 : Int32) then ((F 2) + (1 : Int32)) else (if ((A 0) (F 2)) = (2 : Int32) then ((F 2) + (1 : Int32)) else (if ((A 0) (F 2)) = (3 : Int32) then ((F 2) + (1 : Int32)) else (if ((A 0) (F 2)) = (4 : Int32) then (if (if ((A 1) (F 2)) < 0 then (0 : Int32) else (if ((A 1) (F 2)) < (4 : Int32) then (if ((A 3) ((A 1) (F 2))) = 0 then (0 : Int32) else (1 : Int32)) else (0 : Int32))) = 0 then ((F 2) + (1 : Int32)) else ((A 2) (F 2))) else ((A 2) (F 2))))))) = (64 : Int32) → ¬ (((F 3) + (1 : Int32)) % (F 0)) = 0 → Q none (19, (ups (ups (F_act F A (F 2) ((A 0) (F 2)) ((A 1) (F 2))) 5 (2 : Int32)) 3 ((F 3) + (1 : Int32))), G, (A_act A (F 2) ((A 0) (F 2)) ((A 1) (F 2))), B)) (s44 : ¬ (F 2) < 0 → ¬ (63 : Int32) < (F 2) → (if ((A 0) (F 2)) = 0 then (1 : Int32) else (F 5)) = 0 → (if ((A 0) (F 2)) = 0 then (F 2) else (if ((A 0) (F 2)) = (1 : Int32) then ((F 2) + (1 : Int32)) else (if ((A 0) (F 2)) = (2 : Int32) then ((F 2) + (1 : Int32)) else (if ((A 0) (F 2)) = (3 : Int32) then ((F 2) + (1 : Int32)) else (if ((A 0) (F 2)) = (4 : Int32) then (if (if ((A 1) (F 2)) < 0 then (0 : Int32) else (if ((A 1) (F 2)) < (4 : Int32) then (if ((A 3) ((A 1) (F 2))) = 0 then (0 : Int32) else (1 : Int32)) else (0 : Int32))) = 0 then ((F 2) + (1 : Int32)) else ((A 2) (F 2))) else ((A 2) (F 2))))))) = (64 : Int32) → (((F 3) + (1 : Int32)) % (F 0)) = 0 → ¬ (F 1) = (0 : Int32)) (h47 : ¬ (F 2) < 0 → ¬ (63 : Int32) < (F 2) → (if ((A 0) (F 2)) = 0 then (1 : Int32) else (F 5)) = 0 → (if ((A 0) (F 2)) = 0 then (F 2) else (if ((A 0) (F 2)) = (1 : Int32) then ((F 2) + (1 : Int32)) else (if ((A 0) (F 2)) = (2 : Int32) then ((F 2) + (1 : Int32)) else (if ((A 0) (F 2)) = (3 : Int32) then ((F 2) + (1 : Int32)) else (if ((A 0) (F 2)) = (4 : Int32) then (if (if ((A 1) (F 2)) < 0 then (0 : Int32) else (if ((A 1) (F 2)) < (4 : Int32) then (if ((A 3) ((A 1) (F 2))) = 0 then (0 : Int32) else (1 : Int32)) else (0 : Int32))) = 0 then ((F 2) + (1 : Int32)) else ((A 2) (F 2))) else ((A 2) (F 2))))))) = (64 : Int32) → (((F 3) + (1 : Int32)) % (F 0)) = 0 → ((F 2) / (F 1)) < 0 → Q none (19, (ups (ups (F_act F A (F 2) ((A 0) (F 2)) ((A 1) (F 2))) 5 (2 : Int32)) 3 ((F 3) + (1 : Int32))), G, (A_act A (F 2) ((A 0) (F 2)) ((A 1) (F 2))), B)) (h49 : ¬ (F 2) < 0 → ¬ (63 : Int32) < (F 2) → (if ((A 0) (F 2)) = 0 then (1 : Int32) else (F 5)) = 0 → (if ((A 0) (F 2)) = 0 then (F 2) else (if ((A 0) (F 2)) = (1 : Int32) then ((F 2) + (1 : Int32)) else (if ((A 0) (F 2)) = (2 : Int32) then ((F 2) + (1 : Int32)) else (if ((A 0) (F 2)) = (3 : Int32) then ((F 2) + (1 : Int32)) else (if ((A 0) (F 2)) = (4 : Int32) then (if (if ((A 1) (F 2)) < 0 then (0 : Int32) else (if ((A 1) (F 2)) < (4 : Int32) then (if ((A 3) ((A 1) (F 2))) = 0 then (0 : Int32) else (1 : Int32)) else (0 : Int32))) = 0 then ((F 2) + (1 : Int32)) else ((A 2) (F 2))) else ((A 2) (F 2))))))) = (64 : Int32) → (((F 3) + (1 : Int32)) % (F 0)) = 0 → ¬ ((F 2) / (F 1)) < 0 → ¬ ((F 2) / (F 1)) < (64 : Int32) → Q none (19, (ups (ups (F_act F A (F 2) ((A 0) (F 2)) ((A 1) (F 2))) 5 (2 : Int32)) 3 ((F 3) + (1 : Int32))), G, (A_act A (F 2) ((A 0) (F 2)) ((A 1) (F 2))), B)) (h50 : ¬ (F 2) < 0 → ¬ (63 : Int32) < (F 2) → (if ((A 0) (F 2)) = 0 then (1 : Int32) else (F 5)) = 0 → (if ((A 0) (F 2)) = 0 then (F 2) else (if ((A 0) (F 2)) = (1 : Int32) then ((F 2) + (1 : Int32)) else (if ((A 0) (F 2)) = (2 : Int32) then ((F 2) + (1 : Int32)) else (if ((A 0) (F 2)) = (3 : Int32) then ((F 2) + (1 : Int32)) else (if ((A 0) (F 2)) = (4 : Int32) then (if (if ((A 1) (F 2)) < 0 then (0 : Int32) else (if ((A 1) (F 2)) < (4 : Int32) then (if ((A 3) ((A 1) (F 2))) = 0 then (0 : Int32) else (1 : Int32)) else (0 : Int32))) = 0 then ((F 2) + (1 : Int32)) else ((A 2) (F 2))) else ((A 2) (F 2))))))) = (64 : Int32) → (((F 3) + (1 : Int32)) % (F 0)) = 0 → ¬ ((F 2) / (F 1)) < 0 → ((F 2) / (F 1)) < (64 : Int32) → Q none (19, (ups (ups (F_act F A (F 2) ((A 0) (F 2)) ((A 1) (F 2))) 5 (2 : Int32)) 3 ((F 3) + (1 : Int32))), G, (ups (A_act A (F 2) ((A 0) (F 2)) ((A 1) (F 2))) 7 (ups ((A_act A (F 2) ((A 0) (F 2)) ((A 1) (F 2))) 7) ((F 2) / (F 1)) ((((A_act A (F 2) ((A 0) (F 2)) ((A 1) (F 2))) 7) ((F 2) / (F 1))) + (1 : Int32)))), B)) (h51 : ¬ (F 2) < 0 → (63 : Int32) < (F 2) → Q none (19, (ups F 5 (2 : Int32)), G, A, B)) :
    Wk l Z (MoC Z cdC) md_step 0 [.val (.ref 0), .unset, .unset] [] (19, F, G, A, B) 0 0 Q := by
  refine Wk.aloadN o_step_0 rfl ?_
  refine Wk.getI (mI_pc) (wf_pc H) o_step_1 (x := (F 2)) rfl ?_
  refine Wk.istoreN o_step_4 (Or.inl rfl) (L' := [.val (.ref 0), .val (.int (F 2)), .unset]) rfl ?_
  refine Wk.iloadN o_step_5 rfl ?_
  refine Wk.if_lt o_step_6 (fun q1 => ?_) (fun q1 => ?_)
  · refine Wk.aloadN o_step_15 rfl ?_
    refine Wk.iconst o_step_16 (z := (2 : Int32)) (by decide) ?_
    refine Wk.putI (coC H) (mI_status) (wf_status H) (Or.inl (wy_status H)) o_step_17 ?_
    exact Wk.ret mrC rfl o_step_20 rfl (by decide) (by decide) (h2 q1)
  · refine Wk.iloadN o_step_9 rfl ?_
    refine Wk.bipush o_step_10 (z := (63 : Int32)) (by decide) ?_
    refine Wk.icmp_le o_step_12 (fun q3 => ?_) (fun q3 => ?_)
    · refine Wk.aloadN o_step_21 rfl ?_
      refine Wk.iloadN o_step_22 rfl ?_
      refine Wk.aloadN o_step_23 rfl ?_
      refine Wk.getA (mA_cellOp) (by decide) (i' := 1) rfl (wf_cellOp H) o_step_24 ?_
      refine Wk.iloadN o_step_27 rfl ?_
      refine Wk.iaload (mA_cellOp) (by decide) (i' := 1) rfl q1 (s4 q1 q3) o_step_28 (y := ((A 0) (F 2))) rfl ?_
      refine Wk.aloadN o_step_29 rfl ?_
      refine Wk.getA (mA_cellA) (by decide) (i' := 2) rfl (wf_cellA H) o_step_30 ?_
      refine Wk.iloadN o_step_33 rfl ?_
      refine Wk.iaload (mA_cellA) (by decide) (i' := 2) rfl q1 (s4 q1 q3) o_step_34 (y := ((A 1) (F 2))) rfl ?_
      refine Wk.callU [.int (F 2), .int ((A 0) (F 2)), .int ((A 1) (F 2))] [] (H.w 72 rfl) (cv_act H) o_step_35 (run_act H F G A B (F 2) ((A 0) (F 2)) ((A 1) (F 2)) q1 (s4 q1 q3) (s5 q1 q3)) (wt := 0) (cu' := 0) (su' := 0) (by decide) rfl rfl rfl rfl rfl rfl rfl ?_
      refine Wk.aloadN o_step_38 rfl ?_
      refine Wk.getI (mI_status) (wf_status H) o_step_39 (x := (if ((A 0) (F 2)) = 0 then (1 : Int32) else (F 5))) (F_act_5 F A (F 2) ((A 0) (F 2)) ((A 1) (F 2))) ?_
      refine Wk.if_ne o_step_42 (fun q6 => ?_) (fun q6 => ?_)
      · refine Wk.aloadN o_step_59 rfl ?_
        refine Wk.aloadN o_step_60 rfl ?_
        refine Wk.getI (mI_steps) (wf_steps H) o_step_61 (x := (F 3)) (F_act_3 F A (F 2) ((A 0) (F 2)) ((A 1) (F 2))) ?_
        refine Wk.iconst o_step_64 (z := (1 : Int32)) (by decide) ?_
        refine Wk.iadd o_step_65 ?_
        refine Wk.putI (coC H) (mI_steps) (wf_steps H) (Or.inl (wy_steps H)) o_step_66 ?_
        refine Wk.aloadN o_step_69 rfl ?_
        refine Wk.getI (mI_steps) (wf_steps H) o_step_70 (x := ((F 3) + (1 : Int32))) rfl ?_
        refine Wk.aloadN o_step_73 rfl ?_
        refine Wk.getI (mI_tick) (wf_tick H) o_step_74 (x := (F 0)) (F_act_0 F A (F 2) ((A 0) (F 2)) ((A 1) (F 2))) ?_
        refine Wk.irem o_step_77 (s8 q1 q3 q6) ?_
        refine Wk.if_ne o_step_78 (fun q9 => ?_) (fun q9 => ?_)
        · exact Wk.ret mrC rfl o_step_112 rfl (by decide) (by decide) (h14 q1 q3 q6 q9)
        · refine Wk.iloadN o_step_81 rfl ?_
          refine Wk.aloadN o_step_82 rfl ?_
          refine Wk.getI (mI_width) (wf_width H) o_step_83 (x := (F 1)) (F_act_1 F A (F 2) ((A 0) (F 2)) ((A 1) (F 2))) ?_
          refine Wk.idiv o_step_86 (s15 q1 q3 q6 q9) ?_
          refine Wk.istoreN o_step_87 (Or.inl rfl) (L' := [.val (.ref 0), .val (.int (F 2)), .val (.int ((F 2) / (F 1)))]) rfl ?_
          refine Wk.iloadN o_step_88 rfl ?_
          refine Wk.if_lt o_step_89 (fun q16 => ?_) (fun q16 => ?_)
          · exact Wk.ret mrC rfl o_step_112 rfl (by decide) (by decide) (h18 q1 q3 q6 q9 q16)
          · refine Wk.iloadN o_step_92 rfl ?_
            refine Wk.bipush o_step_93 (z := (64 : Int32)) (by decide) ?_
            refine Wk.icmp_ge o_step_95 (fun q19 => ?_) (fun q19 => ?_)
            · exact Wk.ret mrC rfl o_step_112 rfl (by decide) (by decide) (h20 q1 q3 q6 q9 q16 q19)
            · refine Wk.aloadN o_step_98 rfl ?_
              refine Wk.getA (mA_bucket) (by decide) (i' := 8) rfl (wf_bucket H) o_step_99 ?_
              refine Wk.iloadN o_step_102 rfl ?_
              refine Wk.aloadN o_step_103 rfl ?_
              refine Wk.getA (mA_bucket) (by decide) (i' := 8) rfl (wf_bucket H) o_step_104 ?_
              refine Wk.iloadN o_step_107 rfl ?_
              refine Wk.iaload (mA_bucket) (by decide) (i' := 8) rfl q16 q19 o_step_108 (y := (((A_act A (F 2) ((A 0) (F 2)) ((A 1) (F 2))) 7) ((F 2) / (F 1)))) rfl ?_
              refine Wk.iconst o_step_109 (z := (1 : Int32)) (by decide) ?_
              refine Wk.iadd o_step_110 ?_
              refine Wk.iastore (coC H) (f := ((A_act A (F 2) ((A 0) (F 2)) ((A 1) (F 2))) 7)) (mA_bucket) rfl (by decide) (i' := 8) rfl q16 q19 o_step_111 ?_
              exact Wk.ret mrC rfl o_step_112 rfl (by decide) (by decide) (h21 q1 q3 q6 q9 q16 q19)
      · refine Wk.aloadN o_step_45 rfl ?_
        refine Wk.getI (mI_pc) (wf_pc H) o_step_46 (x := (if ((A 0) (F 2)) = 0 then (F 2) else (if ((A 0) (F 2)) = (1 : Int32) then ((F 2) + (1 : Int32)) else (if ((A 0) (F 2)) = (2 : Int32) then ((F 2) + (1 : Int32)) else (if ((A 0) (F 2)) = (3 : Int32) then ((F 2) + (1 : Int32)) else (if ((A 0) (F 2)) = (4 : Int32) then (if (if ((A 1) (F 2)) < 0 then (0 : Int32) else (if ((A 1) (F 2)) < (4 : Int32) then (if ((A 3) ((A 1) (F 2))) = 0 then (0 : Int32) else (1 : Int32)) else (0 : Int32))) = 0 then ((F 2) + (1 : Int32)) else ((A 2) (F 2))) else ((A 2) (F 2)))))))) (F_act_2 F A (F 2) ((A 0) (F 2)) ((A 1) (F 2))) ?_
        refine Wk.bipush o_step_49 (z := (64 : Int32)) (by decide) ?_
        refine Wk.icmp_ne o_step_51 (fun q22 => ?_) (fun q22 => ?_)
        · refine Wk.aloadN o_step_59 rfl ?_
          refine Wk.aloadN o_step_60 rfl ?_
          refine Wk.getI (mI_steps) (wf_steps H) o_step_61 (x := (F 3)) (F_act_3 F A (F 2) ((A 0) (F 2)) ((A 1) (F 2))) ?_
          refine Wk.iconst o_step_64 (z := (1 : Int32)) (by decide) ?_
          refine Wk.iadd o_step_65 ?_
          refine Wk.putI (coC H) (mI_steps) (wf_steps H) (Or.inl (wy_steps H)) o_step_66 ?_
          refine Wk.aloadN o_step_69 rfl ?_
          refine Wk.getI (mI_steps) (wf_steps H) o_step_70 (x := ((F 3) + (1 : Int32))) rfl ?_
          refine Wk.aloadN o_step_73 rfl ?_
          refine Wk.getI (mI_tick) (wf_tick H) o_step_74 (x := (F 0)) (F_act_0 F A (F 2) ((A 0) (F 2)) ((A 1) (F 2))) ?_
          refine Wk.irem o_step_77 (s23 q1 q3 q6 q22) ?_
          refine Wk.if_ne o_step_78 (fun q24 => ?_) (fun q24 => ?_)
          · exact Wk.ret mrC rfl o_step_112 rfl (by decide) (by decide) (h29 q1 q3 q6 q22 q24)
          · refine Wk.iloadN o_step_81 rfl ?_
            refine Wk.aloadN o_step_82 rfl ?_
            refine Wk.getI (mI_width) (wf_width H) o_step_83 (x := (F 1)) (F_act_1 F A (F 2) ((A 0) (F 2)) ((A 1) (F 2))) ?_
            refine Wk.idiv o_step_86 (s30 q1 q3 q6 q22 q24) ?_
            refine Wk.istoreN o_step_87 (Or.inl rfl) (L' := [.val (.ref 0), .val (.int (F 2)), .val (.int ((F 2) / (F 1)))]) rfl ?_
            refine Wk.iloadN o_step_88 rfl ?_
            refine Wk.if_lt o_step_89 (fun q31 => ?_) (fun q31 => ?_)
            · exact Wk.ret mrC rfl o_step_112 rfl (by decide) (by decide) (h33 q1 q3 q6 q22 q24 q31)
            · refine Wk.iloadN o_step_92 rfl ?_
              refine Wk.bipush o_step_93 (z := (64 : Int32)) (by decide) ?_
              refine Wk.icmp_ge o_step_95 (fun q34 => ?_) (fun q34 => ?_)
              · exact Wk.ret mrC rfl o_step_112 rfl (by decide) (by decide) (h35 q1 q3 q6 q22 q24 q31 q34)
              · refine Wk.aloadN o_step_98 rfl ?_
                refine Wk.getA (mA_bucket) (by decide) (i' := 8) rfl (wf_bucket H) o_step_99 ?_
                refine Wk.iloadN o_step_102 rfl ?_
                refine Wk.aloadN o_step_103 rfl ?_
                refine Wk.getA (mA_bucket) (by decide) (i' := 8) rfl (wf_bucket H) o_step_104 ?_
                refine Wk.iloadN o_step_107 rfl ?_
                refine Wk.iaload (mA_bucket) (by decide) (i' := 8) rfl q31 q34 o_step_108 (y := (((A_act A (F 2) ((A 0) (F 2)) ((A 1) (F 2))) 7) ((F 2) / (F 1)))) rfl ?_
                refine Wk.iconst o_step_109 (z := (1 : Int32)) (by decide) ?_
                refine Wk.iadd o_step_110 ?_
                refine Wk.iastore (coC H) (f := ((A_act A (F 2) ((A 0) (F 2)) ((A 1) (F 2))) 7)) (mA_bucket) rfl (by decide) (i' := 8) rfl q31 q34 o_step_111 ?_
                exact Wk.ret mrC rfl o_step_112 rfl (by decide) (by decide) (h36 q1 q3 q6 q22 q24 q31 q34)
        · refine Wk.aloadN o_step_54 rfl ?_
          refine Wk.iconst o_step_55 (z := (2 : Int32)) (by decide) ?_
          refine Wk.putI (coC H) (mI_status) (wf_status H) (Or.inl (wy_status H)) o_step_56 ?_
          refine Wk.aloadN o_step_59 rfl ?_
          refine Wk.aloadN o_step_60 rfl ?_
          refine Wk.getI (mI_steps) (wf_steps H) o_step_61 (x := (F 3)) (F_act_3 F A (F 2) ((A 0) (F 2)) ((A 1) (F 2))) ?_
          refine Wk.iconst o_step_64 (z := (1 : Int32)) (by decide) ?_
          refine Wk.iadd o_step_65 ?_
          refine Wk.putI (coC H) (mI_steps) (wf_steps H) (Or.inl (wy_steps H)) o_step_66 ?_
          refine Wk.aloadN o_step_69 rfl ?_
          refine Wk.getI (mI_steps) (wf_steps H) o_step_70 (x := ((F 3) + (1 : Int32))) rfl ?_
          refine Wk.aloadN o_step_73 rfl ?_
          refine Wk.getI (mI_tick) (wf_tick H) o_step_74 (x := (F 0)) (F_act_0 F A (F 2) ((A 0) (F 2)) ((A 1) (F 2))) ?_
          refine Wk.irem o_step_77 (s37 q1 q3 q6 q22) ?_
          refine Wk.if_ne o_step_78 (fun q38 => ?_) (fun q38 => ?_)
          · exact Wk.ret mrC rfl o_step_112 rfl (by decide) (by decide) (h43 q1 q3 q6 q22 q38)
          · refine Wk.iloadN o_step_81 rfl ?_
            refine Wk.aloadN o_step_82 rfl ?_
            refine Wk.getI (mI_width) (wf_width H) o_step_83 (x := (F 1)) (F_act_1 F A (F 2) ((A 0) (F 2)) ((A 1) (F 2))) ?_
            refine Wk.idiv o_step_86 (s44 q1 q3 q6 q22 q38) ?_
            refine Wk.istoreN o_step_87 (Or.inl rfl) (L' := [.val (.ref 0), .val (.int (F 2)), .val (.int ((F 2) / (F 1)))]) rfl ?_
            refine Wk.iloadN o_step_88 rfl ?_
            refine Wk.if_lt o_step_89 (fun q45 => ?_) (fun q45 => ?_)
            · exact Wk.ret mrC rfl o_step_112 rfl (by decide) (by decide) (h47 q1 q3 q6 q22 q38 q45)
            · refine Wk.iloadN o_step_92 rfl ?_
              refine Wk.bipush o_step_93 (z := (64 : Int32)) (by decide) ?_
              refine Wk.icmp_ge o_step_95 (fun q48 => ?_) (fun q48 => ?_)
              · exact Wk.ret mrC rfl o_step_112 rfl (by decide) (by decide) (h49 q1 q3 q6 q22 q38 q45 q48)
              · refine Wk.aloadN o_step_98 rfl ?_
                refine Wk.getA (mA_bucket) (by decide) (i' := 8) rfl (wf_bucket H) o_step_99 ?_
                refine Wk.iloadN o_step_102 rfl ?_
                refine Wk.aloadN o_step_103 rfl ?_
                refine Wk.getA (mA_bucket) (by decide) (i' := 8) rfl (wf_bucket H) o_step_104 ?_
                refine Wk.iloadN o_step_107 rfl ?_
                refine Wk.iaload (mA_bucket) (by decide) (i' := 8) rfl q45 q48 o_step_108 (y := (((A_act A (F 2) ((A 0) (F 2)) ((A 1) (F 2))) 7) ((F 2) / (F 1)))) rfl ?_
                refine Wk.iconst o_step_109 (z := (1 : Int32)) (by decide) ?_
                refine Wk.iadd o_step_110 ?_
                refine Wk.iastore (coC H) (f := ((A_act A (F 2) ((A 0) (F 2)) ((A 1) (F 2))) 7)) (mA_bucket) rfl (by decide) (i' := 8) rfl q45 q48 o_step_111 ?_
                exact Wk.ret mrC rfl o_step_112 rfl (by decide) (by decide) (h50 q1 q3 q6 q22 q38 q45 q48)
    · refine Wk.aloadN o_step_15 rfl ?_
      refine Wk.iconst o_step_16 (z := (2 : Int32)) (by decide) ?_
      refine Wk.putI (coC H) (mI_status) (wf_status H) (Or.inl (wy_status H)) o_step_17 ?_
      exact Wk.ret mrC rfl o_step_20 rfl (by decide) (by decide) (h51 q1 q3)

def F_step (F : Nat → Int32) (A : Nat → Int32 → Int32) : Nat → Int32 := (if (F 2) < 0 then (ups F 5 (2 : Int32)) else (if (63 : Int32) < (F 2) then (ups F 5 (2 : Int32)) else (if (if ((A 0) (F 2)) = 0 then (1 : Int32) else (F 5)) = 0 then (if (if ((A 0) (F 2)) = 0 then (F 2) else (if ((A 0) (F 2)) = (1 : Int32) then ((F 2) + (1 : Int32)) else (if ((A 0) (F 2)) = (2 : Int32) then ((F 2) + (1 : Int32)) else (if ((A 0) (F 2)) = (3 : Int32) then ((F 2) + (1 : Int32)) else (if ((A 0) (F 2)) = (4 : Int32) then (if (if ((A 1) (F 2)) < 0 then (0 : Int32) else (if ((A 1) (F 2)) < (4 : Int32) then (if ((A 3) ((A 1) (F 2))) = 0 then (0 : Int32) else (1 : Int32)) else (0 : Int32))) = 0 then ((F 2) + (1 : Int32)) else ((A 2) (F 2))) else ((A 2) (F 2))))))) = (64 : Int32) then (ups (ups (F_act F A (F 2) ((A 0) (F 2)) ((A 1) (F 2))) 5 (2 : Int32)) 3 ((F 3) + (1 : Int32))) else (ups (F_act F A (F 2) ((A 0) (F 2)) ((A 1) (F 2))) 3 ((F 3) + (1 : Int32)))) else (ups (F_act F A (F 2) ((A 0) (F 2)) ((A 1) (F 2))) 3 ((F 3) + (1 : Int32))))))
theorem eF_step (F : Nat → Int32) (A : Nat → Int32 → Int32) : F_step F A = (if (F 2) < 0 then (ups F 5 (2 : Int32)) else (if (63 : Int32) < (F 2) then (ups F 5 (2 : Int32)) else (if (if ((A 0) (F 2)) = 0 then (1 : Int32) else (F 5)) = 0 then (if (if ((A 0) (F 2)) = 0 then (F 2) else (if ((A 0) (F 2)) = (1 : Int32) then ((F 2) + (1 : Int32)) else (if ((A 0) (F 2)) = (2 : Int32) then ((F 2) + (1 : Int32)) else (if ((A 0) (F 2)) = (3 : Int32) then ((F 2) + (1 : Int32)) else (if ((A 0) (F 2)) = (4 : Int32) then (if (if ((A 1) (F 2)) < 0 then (0 : Int32) else (if ((A 1) (F 2)) < (4 : Int32) then (if ((A 3) ((A 1) (F 2))) = 0 then (0 : Int32) else (1 : Int32)) else (0 : Int32))) = 0 then ((F 2) + (1 : Int32)) else ((A 2) (F 2))) else ((A 2) (F 2))))))) = (64 : Int32) then (ups (ups (F_act F A (F 2) ((A 0) (F 2)) ((A 1) (F 2))) 5 (2 : Int32)) 3 ((F 3) + (1 : Int32))) else (ups (F_act F A (F 2) ((A 0) (F 2)) ((A 1) (F 2))) 3 ((F 3) + (1 : Int32)))) else (ups (F_act F A (F 2) ((A 0) (F 2)) ((A 1) (F 2))) 3 ((F 3) + (1 : Int32)))))) := Eq.trans rfl rfl
def A_step (F : Nat → Int32) (A : Nat → Int32 → Int32) : Nat → Int32 → Int32 := (if (F 2) < 0 then A else (if (63 : Int32) < (F 2) then A else (if (((F 3) + (1 : Int32)) % (F 0)) = 0 then (if ((F 2) / (F 1)) < 0 then (A_act A (F 2) ((A 0) (F 2)) ((A 1) (F 2))) else (if ((F 2) / (F 1)) < (64 : Int32) then (ups (A_act A (F 2) ((A 0) (F 2)) ((A 1) (F 2))) 7 (ups ((A_act A (F 2) ((A 0) (F 2)) ((A 1) (F 2))) 7) ((F 2) / (F 1)) ((((A_act A (F 2) ((A 0) (F 2)) ((A 1) (F 2))) 7) ((F 2) / (F 1))) + (1 : Int32)))) else (A_act A (F 2) ((A 0) (F 2)) ((A 1) (F 2))))) else (A_act A (F 2) ((A 0) (F 2)) ((A 1) (F 2))))))
theorem eA_step (F : Nat → Int32) (A : Nat → Int32 → Int32) : A_step F A = (if (F 2) < 0 then A else (if (63 : Int32) < (F 2) then A else (if (((F 3) + (1 : Int32)) % (F 0)) = 0 then (if ((F 2) / (F 1)) < 0 then (A_act A (F 2) ((A 0) (F 2)) ((A 1) (F 2))) else (if ((F 2) / (F 1)) < (64 : Int32) then (ups (A_act A (F 2) ((A 0) (F 2)) ((A 1) (F 2))) 7 (ups ((A_act A (F 2) ((A 0) (F 2)) ((A 1) (F 2))) 7) ((F 2) / (F 1)) ((((A_act A (F 2) ((A 0) (F 2)) ((A 1) (F 2))) 7) ((F 2) / (F 1))) + (1 : Int32)))) else (A_act A (F 2) ((A 0) (F 2)) ((A 1) (F 2))))) else (A_act A (F 2) ((A 0) (F 2)) ((A 1) (F 2)))))) := Eq.trans rfl rfl
theorem F_step_0 (F : Nat → Int32) (A : Nat → Int32 → Int32) : F_step F A 0 = (F 0) := by
  rw [eF_step]
  by_cases q1 : (F 2) < 0
  · try simp only [if_pos q1]
    rfl
  · try simp only [if_neg q1]
    by_cases q2 : (63 : Int32) < (F 2)
    · try simp only [if_pos q2]
      rfl
    · try simp only [if_neg q2]
      by_cases q3 : (if ((A 0) (F 2)) = 0 then (1 : Int32) else (F 5)) = 0
      · try simp only [if_pos q3]
        by_cases q4 : (if ((A 0) (F 2)) = 0 then (F 2) else (if ((A 0) (F 2)) = (1 : Int32) then ((F 2) + (1 : Int32)) else (if ((A 0) (F 2)) = (2 : Int32) then ((F 2) + (1 : Int32)) else (if ((A 0) (F 2)) = (3 : Int32) then ((F 2) + (1 : Int32)) else (if ((A 0) (F 2)) = (4 : Int32) then (if (if ((A 1) (F 2)) < 0 then (0 : Int32) else (if ((A 1) (F 2)) < (4 : Int32) then (if ((A 3) ((A 1) (F 2))) = 0 then (0 : Int32) else (1 : Int32)) else (0 : Int32))) = 0 then ((F 2) + (1 : Int32)) else ((A 2) (F 2))) else ((A 2) (F 2))))))) = (64 : Int32)
        · try simp only [if_pos q4]
          by_cases q5 : (((F 3) + (1 : Int32)) % (F 0)) = 0
          · try simp only [if_pos q5]
            by_cases q6 : ((F 2) / (F 1)) < 0
            · try simp only [if_pos q6]
              first | rfl | exact (F_act_0 F A (F 2) ((A 0) (F 2)) ((A 1) (F 2)))
            · try simp only [if_neg q6]
              by_cases q7 : ((F 2) / (F 1)) < (64 : Int32)
              · try simp only [if_pos q7]
                first | rfl | exact (F_act_0 F A (F 2) ((A 0) (F 2)) ((A 1) (F 2)))
              · try simp only [if_neg q7]
                first | rfl | exact (F_act_0 F A (F 2) ((A 0) (F 2)) ((A 1) (F 2)))
          · try simp only [if_neg q5]
            first | rfl | exact (F_act_0 F A (F 2) ((A 0) (F 2)) ((A 1) (F 2)))
        · try simp only [if_neg q4]
          by_cases q5 : (((F 3) + (1 : Int32)) % (F 0)) = 0
          · try simp only [if_pos q5]
            by_cases q6 : ((F 2) / (F 1)) < 0
            · try simp only [if_pos q6]
              first | rfl | exact (F_act_0 F A (F 2) ((A 0) (F 2)) ((A 1) (F 2)))
            · try simp only [if_neg q6]
              by_cases q7 : ((F 2) / (F 1)) < (64 : Int32)
              · try simp only [if_pos q7]
                first | rfl | exact (F_act_0 F A (F 2) ((A 0) (F 2)) ((A 1) (F 2)))
              · try simp only [if_neg q7]
                first | rfl | exact (F_act_0 F A (F 2) ((A 0) (F 2)) ((A 1) (F 2)))
          · try simp only [if_neg q5]
            first | rfl | exact (F_act_0 F A (F 2) ((A 0) (F 2)) ((A 1) (F 2)))
      · try simp only [if_neg q3]
        by_cases q4 : (((F 3) + (1 : Int32)) % (F 0)) = 0
        · try simp only [if_pos q4]
          by_cases q5 : ((F 2) / (F 1)) < 0
          · try simp only [if_pos q5]
            first | rfl | exact (F_act_0 F A (F 2) ((A 0) (F 2)) ((A 1) (F 2)))
          · try simp only [if_neg q5]
            by_cases q6 : ((F 2) / (F 1)) < (64 : Int32)
            · try simp only [if_pos q6]
              first | rfl | exact (F_act_0 F A (F 2) ((A 0) (F 2)) ((A 1) (F 2)))
            · try simp only [if_neg q6]
              first | rfl | exact (F_act_0 F A (F 2) ((A 0) (F 2)) ((A 1) (F 2)))
        · try simp only [if_neg q4]
          first | rfl | exact (F_act_0 F A (F 2) ((A 0) (F 2)) ((A 1) (F 2)))
theorem F_step_1 (F : Nat → Int32) (A : Nat → Int32 → Int32) : F_step F A 1 = (F 1) := by
  rw [eF_step]
  by_cases q1 : (F 2) < 0
  · try simp only [if_pos q1]
    rfl
  · try simp only [if_neg q1]
    by_cases q2 : (63 : Int32) < (F 2)
    · try simp only [if_pos q2]
      rfl
    · try simp only [if_neg q2]
      by_cases q3 : (if ((A 0) (F 2)) = 0 then (1 : Int32) else (F 5)) = 0
      · try simp only [if_pos q3]
        by_cases q4 : (if ((A 0) (F 2)) = 0 then (F 2) else (if ((A 0) (F 2)) = (1 : Int32) then ((F 2) + (1 : Int32)) else (if ((A 0) (F 2)) = (2 : Int32) then ((F 2) + (1 : Int32)) else (if ((A 0) (F 2)) = (3 : Int32) then ((F 2) + (1 : Int32)) else (if ((A 0) (F 2)) = (4 : Int32) then (if (if ((A 1) (F 2)) < 0 then (0 : Int32) else (if ((A 1) (F 2)) < (4 : Int32) then (if ((A 3) ((A 1) (F 2))) = 0 then (0 : Int32) else (1 : Int32)) else (0 : Int32))) = 0 then ((F 2) + (1 : Int32)) else ((A 2) (F 2))) else ((A 2) (F 2))))))) = (64 : Int32)
        · try simp only [if_pos q4]
          by_cases q5 : (((F 3) + (1 : Int32)) % (F 0)) = 0
          · try simp only [if_pos q5]
            by_cases q6 : ((F 2) / (F 1)) < 0
            · try simp only [if_pos q6]
              first | rfl | exact (F_act_1 F A (F 2) ((A 0) (F 2)) ((A 1) (F 2)))
            · try simp only [if_neg q6]
              by_cases q7 : ((F 2) / (F 1)) < (64 : Int32)
              · try simp only [if_pos q7]
                first | rfl | exact (F_act_1 F A (F 2) ((A 0) (F 2)) ((A 1) (F 2)))
              · try simp only [if_neg q7]
                first | rfl | exact (F_act_1 F A (F 2) ((A 0) (F 2)) ((A 1) (F 2)))
          · try simp only [if_neg q5]
            first | rfl | exact (F_act_1 F A (F 2) ((A 0) (F 2)) ((A 1) (F 2)))
        · try simp only [if_neg q4]
          by_cases q5 : (((F 3) + (1 : Int32)) % (F 0)) = 0
          · try simp only [if_pos q5]
            by_cases q6 : ((F 2) / (F 1)) < 0
            · try simp only [if_pos q6]
              first | rfl | exact (F_act_1 F A (F 2) ((A 0) (F 2)) ((A 1) (F 2)))
            · try simp only [if_neg q6]
              by_cases q7 : ((F 2) / (F 1)) < (64 : Int32)
              · try simp only [if_pos q7]
                first | rfl | exact (F_act_1 F A (F 2) ((A 0) (F 2)) ((A 1) (F 2)))
              · try simp only [if_neg q7]
                first | rfl | exact (F_act_1 F A (F 2) ((A 0) (F 2)) ((A 1) (F 2)))
          · try simp only [if_neg q5]
            first | rfl | exact (F_act_1 F A (F 2) ((A 0) (F 2)) ((A 1) (F 2)))
      · try simp only [if_neg q3]
        by_cases q4 : (((F 3) + (1 : Int32)) % (F 0)) = 0
        · try simp only [if_pos q4]
          by_cases q5 : ((F 2) / (F 1)) < 0
          · try simp only [if_pos q5]
            first | rfl | exact (F_act_1 F A (F 2) ((A 0) (F 2)) ((A 1) (F 2)))
          · try simp only [if_neg q5]
            by_cases q6 : ((F 2) / (F 1)) < (64 : Int32)
            · try simp only [if_pos q6]
              first | rfl | exact (F_act_1 F A (F 2) ((A 0) (F 2)) ((A 1) (F 2)))
            · try simp only [if_neg q6]
              first | rfl | exact (F_act_1 F A (F 2) ((A 0) (F 2)) ((A 1) (F 2)))
        · try simp only [if_neg q4]
          first | rfl | exact (F_act_1 F A (F 2) ((A 0) (F 2)) ((A 1) (F 2)))
theorem F_step_2 (F : Nat → Int32) (A : Nat → Int32 → Int32) : F_step F A 2 = (if (F 2) < 0 then (F 2) else (if (63 : Int32) < (F 2) then (F 2) else (if ((A 0) (F 2)) = 0 then (F 2) else (if ((A 0) (F 2)) = (1 : Int32) then ((F 2) + (1 : Int32)) else (if ((A 0) (F 2)) = (2 : Int32) then ((F 2) + (1 : Int32)) else (if ((A 0) (F 2)) = (3 : Int32) then ((F 2) + (1 : Int32)) else (if ((A 0) (F 2)) = (4 : Int32) then (if (if ((A 1) (F 2)) < 0 then (0 : Int32) else (if ((A 1) (F 2)) < (4 : Int32) then (if ((A 3) ((A 1) (F 2))) = 0 then (0 : Int32) else (1 : Int32)) else (0 : Int32))) = 0 then ((F 2) + (1 : Int32)) else ((A 2) (F 2))) else ((A 2) (F 2))))))))) := by
  rw [eF_step]
  by_cases q1 : (F 2) < 0
  · try simp only [if_pos q1]
    rfl
  · try simp only [if_neg q1]
    by_cases q2 : (63 : Int32) < (F 2)
    · try simp only [if_pos q2]
      rfl
    · try simp only [if_neg q2]
      by_cases q3 : (if ((A 0) (F 2)) = 0 then (1 : Int32) else (F 5)) = 0
      · try simp only [if_pos q3]
        by_cases q4 : (if ((A 0) (F 2)) = 0 then (F 2) else (if ((A 0) (F 2)) = (1 : Int32) then ((F 2) + (1 : Int32)) else (if ((A 0) (F 2)) = (2 : Int32) then ((F 2) + (1 : Int32)) else (if ((A 0) (F 2)) = (3 : Int32) then ((F 2) + (1 : Int32)) else (if ((A 0) (F 2)) = (4 : Int32) then (if (if ((A 1) (F 2)) < 0 then (0 : Int32) else (if ((A 1) (F 2)) < (4 : Int32) then (if ((A 3) ((A 1) (F 2))) = 0 then (0 : Int32) else (1 : Int32)) else (0 : Int32))) = 0 then ((F 2) + (1 : Int32)) else ((A 2) (F 2))) else ((A 2) (F 2))))))) = (64 : Int32)
        · try simp only [if_pos q4]
          by_cases q5 : (((F 3) + (1 : Int32)) % (F 0)) = 0
          · try simp only [if_pos q5]
            by_cases q6 : ((F 2) / (F 1)) < 0
            · try simp only [if_pos q6]
              first | rfl | exact (F_act_2 F A (F 2) ((A 0) (F 2)) ((A 1) (F 2)))
            · try simp only [if_neg q6]
              by_cases q7 : ((F 2) / (F 1)) < (64 : Int32)
              · try simp only [if_pos q7]
                first | rfl | exact (F_act_2 F A (F 2) ((A 0) (F 2)) ((A 1) (F 2)))
              · try simp only [if_neg q7]
                first | rfl | exact (F_act_2 F A (F 2) ((A 0) (F 2)) ((A 1) (F 2)))
          · try simp only [if_neg q5]
            first | rfl | exact (F_act_2 F A (F 2) ((A 0) (F 2)) ((A 1) (F 2)))
        · try simp only [if_neg q4]
          by_cases q5 : (((F 3) + (1 : Int32)) % (F 0)) = 0
          · try simp only [if_pos q5]
            by_cases q6 : ((F 2) / (F 1)) < 0
            · try simp only [if_pos q6]
              first | rfl | exact (F_act_2 F A (F 2) ((A 0) (F 2)) ((A 1) (F 2)))
            · try simp only [if_neg q6]
              by_cases q7 : ((F 2) / (F 1)) < (64 : Int32)
              · try simp only [if_pos q7]
                first | rfl | exact (F_act_2 F A (F 2) ((A 0) (F 2)) ((A 1) (F 2)))
              · try simp only [if_neg q7]
                first | rfl | exact (F_act_2 F A (F 2) ((A 0) (F 2)) ((A 1) (F 2)))
          · try simp only [if_neg q5]
            first | rfl | exact (F_act_2 F A (F 2) ((A 0) (F 2)) ((A 1) (F 2)))
      · try simp only [if_neg q3]
        by_cases q4 : (((F 3) + (1 : Int32)) % (F 0)) = 0
        · try simp only [if_pos q4]
          by_cases q5 : ((F 2) / (F 1)) < 0
          · try simp only [if_pos q5]
            first | rfl | exact (F_act_2 F A (F 2) ((A 0) (F 2)) ((A 1) (F 2)))
          · try simp only [if_neg q5]
            by_cases q6 : ((F 2) / (F 1)) < (64 : Int32)
            · try simp only [if_pos q6]
              first | rfl | exact (F_act_2 F A (F 2) ((A 0) (F 2)) ((A 1) (F 2)))
            · try simp only [if_neg q6]
              first | rfl | exact (F_act_2 F A (F 2) ((A 0) (F 2)) ((A 1) (F 2)))
        · try simp only [if_neg q4]
          first | rfl | exact (F_act_2 F A (F 2) ((A 0) (F 2)) ((A 1) (F 2)))
theorem F_step_3 (F : Nat → Int32) (A : Nat → Int32 → Int32) : F_step F A 3 = (if (F 2) < 0 then (F 3) else (if (63 : Int32) < (F 2) then (F 3) else ((F 3) + (1 : Int32)))) := by
  rw [eF_step]
  by_cases q1 : (F 2) < 0
  · try simp only [if_pos q1]
    rfl
  · try simp only [if_neg q1]
    by_cases q2 : (63 : Int32) < (F 2)
    · try simp only [if_pos q2]
      rfl
    · try simp only [if_neg q2]
      by_cases q3 : (if ((A 0) (F 2)) = 0 then (1 : Int32) else (F 5)) = 0
      · try simp only [if_pos q3]
        by_cases q4 : (if ((A 0) (F 2)) = 0 then (F 2) else (if ((A 0) (F 2)) = (1 : Int32) then ((F 2) + (1 : Int32)) else (if ((A 0) (F 2)) = (2 : Int32) then ((F 2) + (1 : Int32)) else (if ((A 0) (F 2)) = (3 : Int32) then ((F 2) + (1 : Int32)) else (if ((A 0) (F 2)) = (4 : Int32) then (if (if ((A 1) (F 2)) < 0 then (0 : Int32) else (if ((A 1) (F 2)) < (4 : Int32) then (if ((A 3) ((A 1) (F 2))) = 0 then (0 : Int32) else (1 : Int32)) else (0 : Int32))) = 0 then ((F 2) + (1 : Int32)) else ((A 2) (F 2))) else ((A 2) (F 2))))))) = (64 : Int32)
        · try simp only [if_pos q4]
          by_cases q5 : (((F 3) + (1 : Int32)) % (F 0)) = 0
          · try simp only [if_pos q5]
            by_cases q6 : ((F 2) / (F 1)) < 0
            · try simp only [if_pos q6]
              rfl
            · try simp only [if_neg q6]
              by_cases q7 : ((F 2) / (F 1)) < (64 : Int32)
              · try simp only [if_pos q7]
                rfl
              · try simp only [if_neg q7]
                rfl
          · try simp only [if_neg q5]
            rfl
        · try simp only [if_neg q4]
          by_cases q5 : (((F 3) + (1 : Int32)) % (F 0)) = 0
          · try simp only [if_pos q5]
            by_cases q6 : ((F 2) / (F 1)) < 0
            · try simp only [if_pos q6]
              rfl
            · try simp only [if_neg q6]
              by_cases q7 : ((F 2) / (F 1)) < (64 : Int32)
              · try simp only [if_pos q7]
                rfl
              · try simp only [if_neg q7]
                rfl
          · try simp only [if_neg q5]
            rfl
      · try simp only [if_neg q3]
        by_cases q4 : (((F 3) + (1 : Int32)) % (F 0)) = 0
        · try simp only [if_pos q4]
          by_cases q5 : ((F 2) / (F 1)) < 0
          · try simp only [if_pos q5]
            rfl
          · try simp only [if_neg q5]
            by_cases q6 : ((F 2) / (F 1)) < (64 : Int32)
            · try simp only [if_pos q6]
              rfl
            · try simp only [if_neg q6]
              rfl
        · try simp only [if_neg q4]
          rfl
theorem F_step_4 (F : Nat → Int32) (A : Nat → Int32 → Int32) : F_step F A 4 = (F 4) := by
  rw [eF_step]
  by_cases q1 : (F 2) < 0
  · try simp only [if_pos q1]
    rfl
  · try simp only [if_neg q1]
    by_cases q2 : (63 : Int32) < (F 2)
    · try simp only [if_pos q2]
      rfl
    · try simp only [if_neg q2]
      by_cases q3 : (if ((A 0) (F 2)) = 0 then (1 : Int32) else (F 5)) = 0
      · try simp only [if_pos q3]
        by_cases q4 : (if ((A 0) (F 2)) = 0 then (F 2) else (if ((A 0) (F 2)) = (1 : Int32) then ((F 2) + (1 : Int32)) else (if ((A 0) (F 2)) = (2 : Int32) then ((F 2) + (1 : Int32)) else (if ((A 0) (F 2)) = (3 : Int32) then ((F 2) + (1 : Int32)) else (if ((A 0) (F 2)) = (4 : Int32) then (if (if ((A 1) (F 2)) < 0 then (0 : Int32) else (if ((A 1) (F 2)) < (4 : Int32) then (if ((A 3) ((A 1) (F 2))) = 0 then (0 : Int32) else (1 : Int32)) else (0 : Int32))) = 0 then ((F 2) + (1 : Int32)) else ((A 2) (F 2))) else ((A 2) (F 2))))))) = (64 : Int32)
        · try simp only [if_pos q4]
          by_cases q5 : (((F 3) + (1 : Int32)) % (F 0)) = 0
          · try simp only [if_pos q5]
            by_cases q6 : ((F 2) / (F 1)) < 0
            · try simp only [if_pos q6]
              first | rfl | exact (F_act_4 F A (F 2) ((A 0) (F 2)) ((A 1) (F 2)))
            · try simp only [if_neg q6]
              by_cases q7 : ((F 2) / (F 1)) < (64 : Int32)
              · try simp only [if_pos q7]
                first | rfl | exact (F_act_4 F A (F 2) ((A 0) (F 2)) ((A 1) (F 2)))
              · try simp only [if_neg q7]
                first | rfl | exact (F_act_4 F A (F 2) ((A 0) (F 2)) ((A 1) (F 2)))
          · try simp only [if_neg q5]
            first | rfl | exact (F_act_4 F A (F 2) ((A 0) (F 2)) ((A 1) (F 2)))
        · try simp only [if_neg q4]
          by_cases q5 : (((F 3) + (1 : Int32)) % (F 0)) = 0
          · try simp only [if_pos q5]
            by_cases q6 : ((F 2) / (F 1)) < 0
            · try simp only [if_pos q6]
              first | rfl | exact (F_act_4 F A (F 2) ((A 0) (F 2)) ((A 1) (F 2)))
            · try simp only [if_neg q6]
              by_cases q7 : ((F 2) / (F 1)) < (64 : Int32)
              · try simp only [if_pos q7]
                first | rfl | exact (F_act_4 F A (F 2) ((A 0) (F 2)) ((A 1) (F 2)))
              · try simp only [if_neg q7]
                first | rfl | exact (F_act_4 F A (F 2) ((A 0) (F 2)) ((A 1) (F 2)))
          · try simp only [if_neg q5]
            first | rfl | exact (F_act_4 F A (F 2) ((A 0) (F 2)) ((A 1) (F 2)))
      · try simp only [if_neg q3]
        by_cases q4 : (((F 3) + (1 : Int32)) % (F 0)) = 0
        · try simp only [if_pos q4]
          by_cases q5 : ((F 2) / (F 1)) < 0
          · try simp only [if_pos q5]
            first | rfl | exact (F_act_4 F A (F 2) ((A 0) (F 2)) ((A 1) (F 2)))
          · try simp only [if_neg q5]
            by_cases q6 : ((F 2) / (F 1)) < (64 : Int32)
            · try simp only [if_pos q6]
              first | rfl | exact (F_act_4 F A (F 2) ((A 0) (F 2)) ((A 1) (F 2)))
            · try simp only [if_neg q6]
              first | rfl | exact (F_act_4 F A (F 2) ((A 0) (F 2)) ((A 1) (F 2)))
        · try simp only [if_neg q4]
          first | rfl | exact (F_act_4 F A (F 2) ((A 0) (F 2)) ((A 1) (F 2)))
theorem F_step_5 (F : Nat → Int32) (A : Nat → Int32 → Int32) : F_step F A 5 = (if (F 2) < 0 then (2 : Int32) else (if (63 : Int32) < (F 2) then (2 : Int32) else (if (if ((A 0) (F 2)) = 0 then (1 : Int32) else (F 5)) = 0 then (if (if ((A 0) (F 2)) = 0 then (F 2) else (if ((A 0) (F 2)) = (1 : Int32) then ((F 2) + (1 : Int32)) else (if ((A 0) (F 2)) = (2 : Int32) then ((F 2) + (1 : Int32)) else (if ((A 0) (F 2)) = (3 : Int32) then ((F 2) + (1 : Int32)) else (if ((A 0) (F 2)) = (4 : Int32) then (if (if ((A 1) (F 2)) < 0 then (0 : Int32) else (if ((A 1) (F 2)) < (4 : Int32) then (if ((A 3) ((A 1) (F 2))) = 0 then (0 : Int32) else (1 : Int32)) else (0 : Int32))) = 0 then ((F 2) + (1 : Int32)) else ((A 2) (F 2))) else ((A 2) (F 2))))))) = (64 : Int32) then (2 : Int32) else (if ((A 0) (F 2)) = 0 then (1 : Int32) else (F 5))) else (if ((A 0) (F 2)) = 0 then (1 : Int32) else (F 5))))) := by
  rw [eF_step]
  by_cases q1 : (F 2) < 0
  · try simp only [if_pos q1]
    rfl
  · try simp only [if_neg q1]
    by_cases q2 : (63 : Int32) < (F 2)
    · try simp only [if_pos q2]
      rfl
    · try simp only [if_neg q2]
      by_cases q3 : (if ((A 0) (F 2)) = 0 then (1 : Int32) else (F 5)) = 0
      · try simp only [if_pos q3]
        by_cases q4 : (if ((A 0) (F 2)) = 0 then (F 2) else (if ((A 0) (F 2)) = (1 : Int32) then ((F 2) + (1 : Int32)) else (if ((A 0) (F 2)) = (2 : Int32) then ((F 2) + (1 : Int32)) else (if ((A 0) (F 2)) = (3 : Int32) then ((F 2) + (1 : Int32)) else (if ((A 0) (F 2)) = (4 : Int32) then (if (if ((A 1) (F 2)) < 0 then (0 : Int32) else (if ((A 1) (F 2)) < (4 : Int32) then (if ((A 3) ((A 1) (F 2))) = 0 then (0 : Int32) else (1 : Int32)) else (0 : Int32))) = 0 then ((F 2) + (1 : Int32)) else ((A 2) (F 2))) else ((A 2) (F 2))))))) = (64 : Int32)
        · try simp only [if_pos q4]
          by_cases q5 : (((F 3) + (1 : Int32)) % (F 0)) = 0
          · try simp only [if_pos q5]
            by_cases q6 : ((F 2) / (F 1)) < 0
            · try simp only [if_pos q6]
              rfl
            · try simp only [if_neg q6]
              by_cases q7 : ((F 2) / (F 1)) < (64 : Int32)
              · try simp only [if_pos q7]
                rfl
              · try simp only [if_neg q7]
                rfl
          · try simp only [if_neg q5]
            rfl
        · try simp only [if_neg q4]
          by_cases q5 : (((F 3) + (1 : Int32)) % (F 0)) = 0
          · try simp only [if_pos q5]
            by_cases q6 : ((F 2) / (F 1)) < 0
            · try simp only [if_pos q6]
              first | rfl | exact (F_act_5 F A (F 2) ((A 0) (F 2)) ((A 1) (F 2)))
            · try simp only [if_neg q6]
              by_cases q7 : ((F 2) / (F 1)) < (64 : Int32)
              · try simp only [if_pos q7]
                first | rfl | exact (F_act_5 F A (F 2) ((A 0) (F 2)) ((A 1) (F 2)))
              · try simp only [if_neg q7]
                first | rfl | exact (F_act_5 F A (F 2) ((A 0) (F 2)) ((A 1) (F 2)))
          · try simp only [if_neg q5]
            first | rfl | exact (F_act_5 F A (F 2) ((A 0) (F 2)) ((A 1) (F 2)))
      · try simp only [if_neg q3]
        by_cases q4 : (((F 3) + (1 : Int32)) % (F 0)) = 0
        · try simp only [if_pos q4]
          by_cases q5 : ((F 2) / (F 1)) < 0
          · try simp only [if_pos q5]
            first | rfl | exact (F_act_5 F A (F 2) ((A 0) (F 2)) ((A 1) (F 2)))
          · try simp only [if_neg q5]
            by_cases q6 : ((F 2) / (F 1)) < (64 : Int32)
            · try simp only [if_pos q6]
              first | rfl | exact (F_act_5 F A (F 2) ((A 0) (F 2)) ((A 1) (F 2)))
            · try simp only [if_neg q6]
              first | rfl | exact (F_act_5 F A (F 2) ((A 0) (F 2)) ((A 1) (F 2)))
        · try simp only [if_neg q4]
          first | rfl | exact (F_act_5 F A (F 2) ((A 0) (F 2)) ((A 1) (F 2)))
theorem F_step_6 (F : Nat → Int32) (A : Nat → Int32 → Int32) : F_step F A 6 = (F 6) := by
  rw [eF_step]
  by_cases q1 : (F 2) < 0
  · try simp only [if_pos q1]
    rfl
  · try simp only [if_neg q1]
    by_cases q2 : (63 : Int32) < (F 2)
    · try simp only [if_pos q2]
      rfl
    · try simp only [if_neg q2]
      by_cases q3 : (if ((A 0) (F 2)) = 0 then (1 : Int32) else (F 5)) = 0
      · try simp only [if_pos q3]
        by_cases q4 : (if ((A 0) (F 2)) = 0 then (F 2) else (if ((A 0) (F 2)) = (1 : Int32) then ((F 2) + (1 : Int32)) else (if ((A 0) (F 2)) = (2 : Int32) then ((F 2) + (1 : Int32)) else (if ((A 0) (F 2)) = (3 : Int32) then ((F 2) + (1 : Int32)) else (if ((A 0) (F 2)) = (4 : Int32) then (if (if ((A 1) (F 2)) < 0 then (0 : Int32) else (if ((A 1) (F 2)) < (4 : Int32) then (if ((A 3) ((A 1) (F 2))) = 0 then (0 : Int32) else (1 : Int32)) else (0 : Int32))) = 0 then ((F 2) + (1 : Int32)) else ((A 2) (F 2))) else ((A 2) (F 2))))))) = (64 : Int32)
        · try simp only [if_pos q4]
          by_cases q5 : (((F 3) + (1 : Int32)) % (F 0)) = 0
          · try simp only [if_pos q5]
            by_cases q6 : ((F 2) / (F 1)) < 0
            · try simp only [if_pos q6]
              first | rfl | exact (F_act_6 F A (F 2) ((A 0) (F 2)) ((A 1) (F 2)))
            · try simp only [if_neg q6]
              by_cases q7 : ((F 2) / (F 1)) < (64 : Int32)
              · try simp only [if_pos q7]
                first | rfl | exact (F_act_6 F A (F 2) ((A 0) (F 2)) ((A 1) (F 2)))
              · try simp only [if_neg q7]
                first | rfl | exact (F_act_6 F A (F 2) ((A 0) (F 2)) ((A 1) (F 2)))
          · try simp only [if_neg q5]
            first | rfl | exact (F_act_6 F A (F 2) ((A 0) (F 2)) ((A 1) (F 2)))
        · try simp only [if_neg q4]
          by_cases q5 : (((F 3) + (1 : Int32)) % (F 0)) = 0
          · try simp only [if_pos q5]
            by_cases q6 : ((F 2) / (F 1)) < 0
            · try simp only [if_pos q6]
              first | rfl | exact (F_act_6 F A (F 2) ((A 0) (F 2)) ((A 1) (F 2)))
            · try simp only [if_neg q6]
              by_cases q7 : ((F 2) / (F 1)) < (64 : Int32)
              · try simp only [if_pos q7]
                first | rfl | exact (F_act_6 F A (F 2) ((A 0) (F 2)) ((A 1) (F 2)))
              · try simp only [if_neg q7]
                first | rfl | exact (F_act_6 F A (F 2) ((A 0) (F 2)) ((A 1) (F 2)))
          · try simp only [if_neg q5]
            first | rfl | exact (F_act_6 F A (F 2) ((A 0) (F 2)) ((A 1) (F 2)))
      · try simp only [if_neg q3]
        by_cases q4 : (((F 3) + (1 : Int32)) % (F 0)) = 0
        · try simp only [if_pos q4]
          by_cases q5 : ((F 2) / (F 1)) < 0
          · try simp only [if_pos q5]
            first | rfl | exact (F_act_6 F A (F 2) ((A 0) (F 2)) ((A 1) (F 2)))
          · try simp only [if_neg q5]
            by_cases q6 : ((F 2) / (F 1)) < (64 : Int32)
            · try simp only [if_pos q6]
              first | rfl | exact (F_act_6 F A (F 2) ((A 0) (F 2)) ((A 1) (F 2)))
            · try simp only [if_neg q6]
              first | rfl | exact (F_act_6 F A (F 2) ((A 0) (F 2)) ((A 1) (F 2)))
        · try simp only [if_neg q4]
          first | rfl | exact (F_act_6 F A (F 2) ((A 0) (F 2)) ((A 1) (F 2)))
theorem run_step {l : Launch} {Z : State} {a0 : Array Value} (H : OK Z a0) (F : Nat → Int32) (G : Nat → Int64) (A : Nat → Int32 → Int32) (B : Nat → Int32 → Int64) (e1 : (A 0) (F 2) = 0) (e2 : ¬ (F 0) = 0) (e3 : ¬ (F 1) = 0) :
    Wk l Z (MoC Z cdC) md_step 0 [.val (.ref 0), .unset, .unset] [] (19, F, G, A, B) 0 0 (fun v w' => v = none ∧ w' = (19, (F_step F A), G, (A_step F A), B)) :=
  wp_step H F G A B (fun q1 => ⟨rfl, by simp only [eF_step, eA_step, if_pos q1]⟩) (by intros; first | assumption | grind) (by intros; first | assumption | grind) (by intros; first | assumption | grind) (fun q1 q3 q6 q9 => ⟨rfl, by simp only [eF_step, eA_step, if_neg q1, if_neg q3, if_neg q6, if_neg q9]⟩) (by intros; first | assumption | grind) (fun q1 q3 q6 q9 q16 => ⟨rfl, by simp only [eF_step, eA_step, if_neg q1, if_neg q3, if_neg q6, if_pos q9, if_pos q16]⟩) (fun q1 q3 q6 q9 q16 q19 => ⟨rfl, by simp only [eF_step, eA_step, if_neg q1, if_neg q3, if_neg q6, if_pos q9, if_neg q16, if_neg q19]⟩) (fun q1 q3 q6 q9 q16 q19 => ⟨rfl, by simp only [eF_step, eA_step, if_neg q1, if_neg q3, if_neg q6, if_pos q9, if_neg q16, if_pos q19]⟩) (by intros; first | assumption | grind) (fun q1 q3 q6 q22 q24 => ⟨rfl, by simp only [eF_step, eA_step, if_neg q1, if_neg q3, if_pos q6, if_neg q22, if_neg q24]⟩) (by intros; first | assumption | grind) (fun q1 q3 q6 q22 q24 q31 => ⟨rfl, by simp only [eF_step, eA_step, if_neg q1, if_neg q3, if_pos q6, if_neg q22, if_pos q24, if_pos q31]⟩) (fun q1 q3 q6 q22 q24 q31 q34 => ⟨rfl, by simp only [eF_step, eA_step, if_neg q1, if_neg q3, if_pos q6, if_neg q22, if_pos q24, if_neg q31, if_neg q34]⟩) (fun q1 q3 q6 q22 q24 q31 q34 => ⟨rfl, by simp only [eF_step, eA_step, if_neg q1, if_neg q3, if_pos q6, if_neg q22, if_pos q24, if_neg q31, if_pos q34]⟩) (by intros; first | assumption | grind) (fun q1 q3 q6 q22 q38 => ⟨rfl, by simp only [eF_step, eA_step, if_neg q1, if_neg q3, if_pos q6, if_pos q22, if_neg q38]⟩) (by intros; first | assumption | grind) (fun q1 q3 q6 q22 q38 q45 => ⟨rfl, by simp only [eF_step, eA_step, if_neg q1, if_neg q3, if_pos q6, if_pos q22, if_pos q38, if_pos q45]⟩) (fun q1 q3 q6 q22 q38 q45 q48 => ⟨rfl, by simp only [eF_step, eA_step, if_neg q1, if_neg q3, if_pos q6, if_pos q22, if_pos q38, if_neg q45, if_neg q48]⟩) (fun q1 q3 q6 q22 q38 q45 q48 => ⟨rfl, by simp only [eF_step, eA_step, if_neg q1, if_neg q3, if_pos q6, if_pos q22, if_pos q38, if_neg q45, if_pos q48]⟩) (fun q1 q3 => ⟨rfl, by simp only [eF_step, eA_step, if_neg q1, if_pos q3]⟩)
set_option maxRecDepth 65536 in
set_option maxHeartbeats 4000000 in
theorem wp_run {l : Launch} {Z : State} {a0 : Array Value} (H : OK Z a0) (F : Nat → Int32) (G : Nat → Int64) (A : Nat → Int32 → Int32) (B : Nat → Int32 → Int64) (p1 : Int32) {Q : Option Value → WO → Prop} (h2 : p1 < (1 : Int32) → Q (some (.int (0 : Int32))) (19, F, G, A, B)) (h6 : ¬ p1 < (1 : Int32) → (F 5) = 0 → Wk l Z (MoC Z cdC) md_run 31 [.val (.ref 0), .unset, .val (.int (if (4096 : Int32) < p1 then (4096 : Int32) else p1)), .val (.int (0 : Int32))] [] (19, F, G, A, B) 0 0 Q) (h7 : ¬ p1 < (1 : Int32) → ¬ (F 5) = 0 → Q (some (.int (0 : Int32))) (19, F, G, A, B)) :
    Wk l Z (MoC Z cdC) md_run 0 [.val (.ref 0), .val (.int p1), .unset, .unset] [] (19, F, G, A, B) 0 0 Q := by
  refine Wk.iloadN o_run_0 rfl ?_
  refine Wk.iconst o_run_1 (z := (1 : Int32)) (by decide) ?_
  refine Wk.icmp_lt o_run_2 (fun q1 => ?_) (fun q1 => ?_)
  · refine Wk.iconst o_run_12 (z := (0 : Int32)) (by decide) ?_
    exact Wk.ireturn mrC rfl o_run_13 rfl (by decide) (by decide) (h2 q1)
  · refine Wk.aloadN o_run_5 rfl ?_
    refine Wk.getI (mI_status) (wf_status H) o_run_6 (x := (F 5)) rfl ?_
    refine Wk.if_eq o_run_9 (fun q3 => ?_) (fun q3 => ?_)
    · refine Wk.iloadN o_run_14 rfl ?_
      refine Wk.sipush o_run_15 (z := (4096 : Int32)) (by decide) ?_
      have J5 : Wk l Z (MoC Z cdC) md_run 28 [.val (.ref 0), .val (.int p1), .unset, .unset] [.int (if (4096 : Int32) < p1 then (4096 : Int32) else p1)] (19, F, G, A, B) 0 0 Q := by
        refine Wk.istoreN o_run_28 (Or.inl rfl) (L' := [.val (.ref 0), .val (.int p1), .val (.int (if (4096 : Int32) < p1 then (4096 : Int32) else p1)), .unset]) rfl ?_
        refine Wk.iconst o_run_29 (z := (0 : Int32)) (by decide) ?_
        refine Wk.istoreN o_run_30 (Or.inl rfl) (L' := [.val (.ref 0), .val (.int p1), .val (.int (if (4096 : Int32) < p1 then (4096 : Int32) else p1)), .val (.int (0 : Int32))]) rfl ?_
        refine Wk.forget [false, true, false, false] (L' := [.val (.ref 0), .unset, .val (.int (if (4096 : Int32) < p1 then (4096 : Int32) else p1)), .val (.int (0 : Int32))]) rfl rfl ?_
        exact (h6 q1 q3)
      refine Wk.icmp_le o_run_18 (fun q4 => ?_) (fun q4 => ?_)
      · refine Wk.iloadN o_run_27 rfl ?_
        first | exact J5 | (simp only [if_neg q4] at J5 ⊢; exact J5)
      · refine Wk.sipush o_run_21 (z := (4096 : Int32)) (by decide) ?_
        refine Wk.goto o_run_24 ?_
        first | exact J5 | (simp only [if_pos q4] at J5 ⊢; exact J5)
    · refine Wk.iconst o_run_12 (z := (0 : Int32)) (by decide) ?_
      exact Wk.ireturn mrC rfl o_run_13 rfl (by decide) (by decide) (h7 q1 q3)

set_option maxRecDepth 65536 in
set_option maxHeartbeats 4000000 in
theorem wp_run_31 {l : Launch} {Z : State} {a0 : Array Value} (H : OK Z a0) (F : Nat → Int32) (G : Nat → Int64) (A : Nat → Int32 → Int32) (B : Nat → Int32 → Int64) (v2 : Int32) (v3 : Int32) {Q : Option Value → WO → Prop} (h2 : ¬ (F 5) = 0 → Q (some (.int v3)) (19, F, G, A, B)) (h4 : (F 5) = 0 → ¬ v3 < v2 → Q (some (.int v3)) (19, F, G, A, B)) (s5 : (F 5) = 0 → v3 < v2 → (A 0) (F 2) = 0) (s6 : (F 5) = 0 → v3 < v2 → ¬ (F 0) = 0) (s7 : (F 5) = 0 → v3 < v2 → ¬ (F 1) = 0) (h8 : (F 5) = 0 → v3 < v2 → Wk l Z (MoC Z cdC) md_run 31 [.val (.ref 0), .unset, .val (.int v2), .val (.int (v3 + (1 : Int32)))] [] (19, (F_step F A), G, (A_step F A), B) 0 0 Q) :
    Wk l Z (MoC Z cdC) md_run 31 [.val (.ref 0), .unset, .val (.int v2), .val (.int v3)] [] (19, F, G, A, B) 0 0 Q := by
  refine Wk.aloadN o_run_31 rfl ?_
  refine Wk.getI (mI_status) (wf_status H) o_run_32 (x := (F 5)) rfl ?_
  refine Wk.if_ne o_run_35 (fun q1 => ?_) (fun q1 => ?_)
  · refine Wk.iloadN o_run_53 rfl ?_
    exact Wk.ireturn mrC rfl o_run_54 rfl (by decide) (by decide) (h2 q1)
  · refine Wk.iloadN o_run_38 rfl ?_
    refine Wk.iloadN o_run_39 rfl ?_
    refine Wk.icmp_ge o_run_40 (fun q3 => ?_) (fun q3 => ?_)
    · refine Wk.iloadN o_run_53 rfl ?_
      exact Wk.ireturn mrC rfl o_run_54 rfl (by decide) (by decide) (h4 q1 q3)
    · refine Wk.aloadN o_run_43 rfl ?_
      refine Wk.callU [] [] (H.w 66 rfl) (cv_step H) o_run_44 (run_step H F G A B (s5 q1 q3) (s6 q1 q3) (s7 q1 q3)) (wt := 0) (cu' := 0) (su' := 0) (by decide) rfl rfl rfl rfl rfl rfl rfl ?_
      refine Wk.iinc o_run_47 rfl (z := (v3 + (1 : Int32))) rfl (L' := [.val (.ref 0), .unset, .val (.int v2), .val (.int (v3 + (1 : Int32)))]) rfl ?_
      refine Wk.goto o_run_50 ?_
      exact (h8 q1 q3)

def f_run (F : Nat → Int32) (p1 : Int32) : Int32 := if p1 < 1 then 0 else if F 5 = 0 then 1 else 0
theorem e_run (F : Nat → Int32) (p1 : Int32) : f_run F p1 = if p1 < 1 then 0 else if F 5 = 0 then 1 else 0 := Eq.trans rfl rfl
def F_run (F : Nat → Int32) (A : Nat → Int32 → Int32) (p1 : Int32) : Nat → Int32 := if p1 < 1 then F else if F 5 = 0 then F_step F A else F
theorem eF_run (F : Nat → Int32) (A : Nat → Int32 → Int32) (p1 : Int32) : F_run F A p1 = if p1 < 1 then F else if F 5 = 0 then F_step F A else F := Eq.trans rfl rfl
def A_run (F : Nat → Int32) (A : Nat → Int32 → Int32) (p1 : Int32) : Nat → Int32 → Int32 := if p1 < 1 then A else if F 5 = 0 then A_step F A else A
theorem eA_run (F : Nat → Int32) (A : Nat → Int32 → Int32) (p1 : Int32) : A_run F A p1 = if p1 < 1 then A else if F 5 = 0 then A_step F A else A := Eq.trans rfl rfl
theorem run_run {l : Launch} {Z : State} {a0 : Array Value} (H : OK Z a0) (F : Nat → Int32) (G : Nat → Int64) (A : Nat → Int32 → Int32) (B : Nat → Int32 → Int64) (p1 : Int32) (e1 : A 0 (F 2) = 0) (e2 : ¬ F 0 = 0) (e3 : ¬ F 1 = 0) (e4 : ¬ F 2 < 0) (e5 : ¬ 63 < F 2) : Wk l Z (MoC Z cdC) md_run 0 [.val (.ref 0), .val (.int p1), .unset, .unset] [] (19, F, G, A, B) 0 0 (fun v w' => v = some (.int (f_run F p1)) ∧ w' = (19, (F_run F A p1), G, (A_run F A p1), B)) := by
  refine wp_run H F G A B p1 (fun q => ⟨by rw [e_run, if_pos q], by rw [eF_run, eA_run, if_pos q, if_pos q]⟩) (fun q q2 => ?_) (fun q q2 => ⟨by rw [e_run, if_neg q, if_neg q2], by rw [eF_run, eA_run, if_neg q, if_neg q, if_neg q2, if_neg q2]⟩)
  have hl : (0 : Int32) < (if (4096 : Int32) < p1 then (4096 : Int32) else p1) := by grind
  have s1 : ¬ F_step F A 5 = 0 := by
    rw [F_step_5]; simp [e1, e4, e5]
  refine wp_run_31 H F G A B _ 0 (fun h => absurd q2 h) (fun _ h => absurd hl h) (fun _ _ => e1) (fun _ _ => e2) (fun _ _ => e3) (fun _ _ => ?_)
  refine wp_run_31 H _ G _ B _ _ (fun _ => ⟨by rw [e_run, if_neg q, if_pos q2]; rfl, by rw [eF_run, eA_run, if_neg q, if_neg q, if_pos q2, if_pos q2]⟩) (fun h => absurd h s1) (fun h => absurd h s1) (fun h => absurd h s1) (fun h => absurd h s1) (fun h => absurd h s1)
set_option maxRecDepth 65536 in
set_option maxHeartbeats 4000000 in
theorem wp_getReg {l : Launch} {Z : State} {a0 : Array Value} (H : OK Z a0) (F : Nat → Int32) (G : Nat → Int64) (A : Nat → Int32 → Int32) (B : Nat → Int32 → Int64) (p1 : Int32) {Q : Option Value → WO → Prop} (h6 : p1 < 0 → ¬ p1 = (4 : Int32) → ¬ p1 = (5 : Int32) → ¬ p1 = (6 : Int32) → ¬ p1 = (7 : Int32) → Q (some (.int (0 : Int32))) (19, F, G, A, B)) (h7 : p1 < 0 → ¬ p1 = (4 : Int32) → ¬ p1 = (5 : Int32) → ¬ p1 = (6 : Int32) → p1 = (7 : Int32) → Q (some (.int (F 5))) (19, F, G, A, B)) (h8 : p1 < 0 → ¬ p1 = (4 : Int32) → ¬ p1 = (5 : Int32) → p1 = (6 : Int32) → Q (some (.int (F 4))) (19, F, G, A, B)) (h9 : p1 < 0 → ¬ p1 = (4 : Int32) → p1 = (5 : Int32) → Q (some (.int (F 3))) (19, F, G, A, B)) (h10 : p1 < 0 → p1 = (4 : Int32) → Q (some (.int (F 2))) (19, F, G, A, B)) (h16 : ¬ p1 < 0 → ¬ p1 < (4 : Int32) → ¬ p1 = (4 : Int32) → ¬ p1 = (5 : Int32) → ¬ p1 = (6 : Int32) → ¬ p1 = (7 : Int32) → Q (some (.int (0 : Int32))) (19, F, G, A, B)) (h17 : ¬ p1 < 0 → ¬ p1 < (4 : Int32) → ¬ p1 = (4 : Int32) → ¬ p1 = (5 : Int32) → ¬ p1 = (6 : Int32) → p1 = (7 : Int32) → Q (some (.int (F 5))) (19, F, G, A, B)) (h18 : ¬ p1 < 0 → ¬ p1 < (4 : Int32) → ¬ p1 = (4 : Int32) → ¬ p1 = (5 : Int32) → p1 = (6 : Int32) → Q (some (.int (F 4))) (19, F, G, A, B)) (h19 : ¬ p1 < 0 → ¬ p1 < (4 : Int32) → ¬ p1 = (4 : Int32) → p1 = (5 : Int32) → Q (some (.int (F 3))) (19, F, G, A, B)) (h20 : ¬ p1 < 0 → ¬ p1 < (4 : Int32) → p1 = (4 : Int32) → Q (some (.int (F 2))) (19, F, G, A, B)) (h21 : ¬ p1 < 0 → p1 < (4 : Int32) → Q (some (.int ((A 3) p1))) (19, F, G, A, B)) :
    Wk l Z (MoC Z cdC) md_getReg 0 [.val (.ref 0), .val (.int p1)] [] (19, F, G, A, B) 0 0 Q := by
  refine Wk.iloadN o_getReg_0 rfl ?_
  refine Wk.if_lt o_getReg_1 (fun q1 => ?_) (fun q1 => ?_)
  · refine Wk.iloadN o_getReg_16 rfl ?_
    refine Wk.iconst o_getReg_17 (z := (4 : Int32)) (by decide) ?_
    refine Wk.icmp_ne o_getReg_18 (fun q2 => ?_) (fun q2 => ?_)
    · refine Wk.iloadN o_getReg_26 rfl ?_
      refine Wk.iconst o_getReg_27 (z := (5 : Int32)) (by decide) ?_
      refine Wk.icmp_ne o_getReg_28 (fun q3 => ?_) (fun q3 => ?_)
      · refine Wk.iloadN o_getReg_36 rfl ?_
        refine Wk.bipush o_getReg_37 (z := (6 : Int32)) (by decide) ?_
        refine Wk.icmp_ne o_getReg_39 (fun q4 => ?_) (fun q4 => ?_)
        · refine Wk.iloadN o_getReg_47 rfl ?_
          refine Wk.bipush o_getReg_48 (z := (7 : Int32)) (by decide) ?_
          refine Wk.icmp_ne o_getReg_50 (fun q5 => ?_) (fun q5 => ?_)
          · refine Wk.iconst o_getReg_58 (z := (0 : Int32)) (by decide) ?_
            exact Wk.ireturn mrC rfl o_getReg_59 rfl (by decide) (by decide) (h6 q1 q2 q3 q4 q5)
          · refine Wk.aloadN o_getReg_53 rfl ?_
            refine Wk.getI (mI_status) (wf_status H) o_getReg_54 (x := (F 5)) rfl ?_
            exact Wk.ireturn mrC rfl o_getReg_57 rfl (by decide) (by decide) (h7 q1 q2 q3 q4 q5)
        · refine Wk.aloadN o_getReg_42 rfl ?_
          refine Wk.getI (mI_depth) (wf_depth H) o_getReg_43 (x := (F 4)) rfl ?_
          exact Wk.ireturn mrC rfl o_getReg_46 rfl (by decide) (by decide) (h8 q1 q2 q3 q4)
      · refine Wk.aloadN o_getReg_31 rfl ?_
        refine Wk.getI (mI_steps) (wf_steps H) o_getReg_32 (x := (F 3)) rfl ?_
        exact Wk.ireturn mrC rfl o_getReg_35 rfl (by decide) (by decide) (h9 q1 q2 q3)
    · refine Wk.aloadN o_getReg_21 rfl ?_
      refine Wk.getI (mI_pc) (wf_pc H) o_getReg_22 (x := (F 2)) rfl ?_
      exact Wk.ireturn mrC rfl o_getReg_25 rfl (by decide) (by decide) (h10 q1 q2)
  · refine Wk.iloadN o_getReg_4 rfl ?_
    refine Wk.iconst o_getReg_5 (z := (4 : Int32)) (by decide) ?_
    refine Wk.icmp_ge o_getReg_6 (fun q11 => ?_) (fun q11 => ?_)
    · refine Wk.iloadN o_getReg_16 rfl ?_
      refine Wk.iconst o_getReg_17 (z := (4 : Int32)) (by decide) ?_
      refine Wk.icmp_ne o_getReg_18 (fun q12 => ?_) (fun q12 => ?_)
      · refine Wk.iloadN o_getReg_26 rfl ?_
        refine Wk.iconst o_getReg_27 (z := (5 : Int32)) (by decide) ?_
        refine Wk.icmp_ne o_getReg_28 (fun q13 => ?_) (fun q13 => ?_)
        · refine Wk.iloadN o_getReg_36 rfl ?_
          refine Wk.bipush o_getReg_37 (z := (6 : Int32)) (by decide) ?_
          refine Wk.icmp_ne o_getReg_39 (fun q14 => ?_) (fun q14 => ?_)
          · refine Wk.iloadN o_getReg_47 rfl ?_
            refine Wk.bipush o_getReg_48 (z := (7 : Int32)) (by decide) ?_
            refine Wk.icmp_ne o_getReg_50 (fun q15 => ?_) (fun q15 => ?_)
            · refine Wk.iconst o_getReg_58 (z := (0 : Int32)) (by decide) ?_
              exact Wk.ireturn mrC rfl o_getReg_59 rfl (by decide) (by decide) (h16 q1 q11 q12 q13 q14 q15)
            · refine Wk.aloadN o_getReg_53 rfl ?_
              refine Wk.getI (mI_status) (wf_status H) o_getReg_54 (x := (F 5)) rfl ?_
              exact Wk.ireturn mrC rfl o_getReg_57 rfl (by decide) (by decide) (h17 q1 q11 q12 q13 q14 q15)
          · refine Wk.aloadN o_getReg_42 rfl ?_
            refine Wk.getI (mI_depth) (wf_depth H) o_getReg_43 (x := (F 4)) rfl ?_
            exact Wk.ireturn mrC rfl o_getReg_46 rfl (by decide) (by decide) (h18 q1 q11 q12 q13 q14)
        · refine Wk.aloadN o_getReg_31 rfl ?_
          refine Wk.getI (mI_steps) (wf_steps H) o_getReg_32 (x := (F 3)) rfl ?_
          exact Wk.ireturn mrC rfl o_getReg_35 rfl (by decide) (by decide) (h19 q1 q11 q12 q13)
      · refine Wk.aloadN o_getReg_21 rfl ?_
        refine Wk.getI (mI_pc) (wf_pc H) o_getReg_22 (x := (F 2)) rfl ?_
        exact Wk.ireturn mrC rfl o_getReg_25 rfl (by decide) (by decide) (h20 q1 q11 q12)
    · refine Wk.aloadN o_getReg_9 rfl ?_
      refine Wk.getA (mA_reg) (by decide) (i' := 4) rfl (wf_reg H) o_getReg_10 ?_
      refine Wk.iloadN o_getReg_13 rfl ?_
      refine Wk.iaload (mA_reg) (by decide) (i' := 4) rfl q1 q11 o_getReg_14 (y := ((A 3) p1)) rfl ?_
      exact Wk.ireturn mrC rfl o_getReg_15 rfl (by decide) (by decide) (h21 q1 q11)

def f_getReg (F : Nat → Int32) (A : Nat → Int32 → Int32) (p1 : Int32) : Int32 := (if p1 < 0 then (if p1 = (4 : Int32) then (F 2) else (if p1 = (5 : Int32) then (F 3) else (if p1 = (6 : Int32) then (F 4) else (if p1 = (7 : Int32) then (F 5) else (0 : Int32))))) else (if p1 < (4 : Int32) then ((A 3) p1) else (if p1 = (4 : Int32) then (F 2) else (if p1 = (5 : Int32) then (F 3) else (if p1 = (6 : Int32) then (F 4) else (if p1 = (7 : Int32) then (F 5) else (0 : Int32)))))))
theorem e_getReg (F : Nat → Int32) (A : Nat → Int32 → Int32) (p1 : Int32) : f_getReg F A p1 = (if p1 < 0 then (if p1 = (4 : Int32) then (F 2) else (if p1 = (5 : Int32) then (F 3) else (if p1 = (6 : Int32) then (F 4) else (if p1 = (7 : Int32) then (F 5) else (0 : Int32))))) else (if p1 < (4 : Int32) then ((A 3) p1) else (if p1 = (4 : Int32) then (F 2) else (if p1 = (5 : Int32) then (F 3) else (if p1 = (6 : Int32) then (F 4) else (if p1 = (7 : Int32) then (F 5) else (0 : Int32))))))) := Eq.trans rfl rfl
theorem run_getReg {l : Launch} {Z : State} {a0 : Array Value} (H : OK Z a0) (F : Nat → Int32) (G : Nat → Int64) (A : Nat → Int32 → Int32) (B : Nat → Int32 → Int64) (p1 : Int32) :
    Wk l Z (MoC Z cdC) md_getReg 0 [.val (.ref 0), .val (.int p1)] [] (19, F, G, A, B) 0 0 (fun v w' => v = some (.int (f_getReg F A p1)) ∧ w' = (19, F, G, A, B)) :=
  wp_getReg H F G A B p1 (fun q1 q2 q3 q4 q5 => ⟨by simp only [e_getReg, if_pos q1, if_neg q2, if_neg q3, if_neg q4, if_neg q5], rfl⟩) (fun q1 q2 q3 q4 q5 => ⟨by simp only [e_getReg, if_pos q1, if_neg q2, if_neg q3, if_neg q4, if_pos q5], rfl⟩) (fun q1 q2 q3 q4 => ⟨by simp only [e_getReg, if_pos q1, if_neg q2, if_neg q3, if_pos q4], rfl⟩) (fun q1 q2 q3 => ⟨by simp only [e_getReg, if_pos q1, if_neg q2, if_pos q3], rfl⟩) (fun q1 q2 => ⟨by simp only [e_getReg, if_pos q1, if_pos q2], rfl⟩) (fun q1 q11 q12 q13 q14 q15 => ⟨by simp only [e_getReg, if_neg q1, if_neg q11, if_neg q12, if_neg q13, if_neg q14, if_neg q15], rfl⟩) (fun q1 q11 q12 q13 q14 q15 => ⟨by simp only [e_getReg, if_neg q1, if_neg q11, if_neg q12, if_neg q13, if_neg q14, if_pos q15], rfl⟩) (fun q1 q11 q12 q13 q14 => ⟨by simp only [e_getReg, if_neg q1, if_neg q11, if_neg q12, if_neg q13, if_pos q14], rfl⟩) (fun q1 q11 q12 q13 => ⟨by simp only [e_getReg, if_neg q1, if_neg q11, if_neg q12, if_pos q13], rfl⟩) (fun q1 q11 q12 => ⟨by simp only [e_getReg, if_neg q1, if_neg q11, if_pos q12], rfl⟩) (fun q1 q11 => ⟨by simp only [e_getReg, if_neg q1, if_pos q11], rfl⟩)
set_option maxRecDepth 65536 in
set_option maxHeartbeats 4000000 in
theorem wp_getSamples {l : Launch} {Z : State} {a0 : Array Value} (H : OK Z a0) (F : Nat → Int32) (G : Nat → Int64) (A : Nat → Int32 → Int32) (B : Nat → Int32 → Int64) {Q : Option Value → WO → Prop} (h1 : Wk l Z (MoC Z cdC) md_getSamples 4 [.val (.ref 0), .val (.int (0 : Int32)), .val (.int (0 : Int32))] [] (19, F, G, A, B) 0 0 Q) :
    Wk l Z (MoC Z cdC) md_getSamples 0 [.val (.ref 0), .unset, .unset] [] (19, F, G, A, B) 0 0 Q := by
  refine Wk.iconst o_getSamples_0 (z := (0 : Int32)) (by decide) ?_
  refine Wk.istoreN o_getSamples_1 (Or.inl rfl) (L' := [.val (.ref 0), .val (.int (0 : Int32)), .unset]) rfl ?_
  refine Wk.iconst o_getSamples_2 (z := (0 : Int32)) (by decide) ?_
  refine Wk.istoreN o_getSamples_3 (Or.inl rfl) (L' := [.val (.ref 0), .val (.int (0 : Int32)), .val (.int (0 : Int32))]) rfl ?_
  exact h1

set_option maxRecDepth 65536 in
set_option maxHeartbeats 4000000 in
theorem wp_getSamples_4 {l : Launch} {Z : State} {a0 : Array Value} (H : OK Z a0) (F : Nat → Int32) (G : Nat → Int64) (A : Nat → Int32 → Int32) (B : Nat → Int32 → Int64) (v1 : Int32) (v2 : Int32) {Q : Option Value → WO → Prop} (h2 : ¬ v2 < (64 : Int32) → Q (some (.int v1)) (19, F, G, A, B)) (s3 : v2 < (64 : Int32) → ¬ v2 < 0) (h4 : v2 < (64 : Int32) → Wk l Z (MoC Z cdC) md_getSamples 4 [.val (.ref 0), .val (.int (v1 + ((A 7) v2))), .val (.int (v2 + (1 : Int32)))] [] (19, F, G, A, B) 0 0 Q) :
    Wk l Z (MoC Z cdC) md_getSamples 4 [.val (.ref 0), .val (.int v1), .val (.int v2)] [] (19, F, G, A, B) 0 0 Q := by
  refine Wk.iloadN o_getSamples_4 rfl ?_
  refine Wk.bipush o_getSamples_5 (z := (64 : Int32)) (by decide) ?_
  refine Wk.icmp_ge o_getSamples_7 (fun q1 => ?_) (fun q1 => ?_)
  · refine Wk.iloadN o_getSamples_25 rfl ?_
    exact Wk.ireturn mrC rfl o_getSamples_26 rfl (by decide) (by decide) (h2 q1)
  · refine Wk.iloadN o_getSamples_10 rfl ?_
    refine Wk.aloadN o_getSamples_11 rfl ?_
    refine Wk.getA (mA_bucket) (by decide) (i' := 8) rfl (wf_bucket H) o_getSamples_12 ?_
    refine Wk.iloadN o_getSamples_15 rfl ?_
    refine Wk.iaload (mA_bucket) (by decide) (i' := 8) rfl (s3 q1) q1 o_getSamples_16 (y := ((A 7) v2)) rfl ?_
    refine Wk.iadd o_getSamples_17 ?_
    refine Wk.istoreN o_getSamples_18 (Or.inr ⟨_, rfl, rfl⟩) (L' := [.val (.ref 0), .val (.int (v1 + ((A 7) v2))), .val (.int v2)]) rfl ?_
    refine Wk.iinc o_getSamples_19 rfl (z := (v2 + (1 : Int32))) rfl (L' := [.val (.ref 0), .val (.int (v1 + ((A 7) v2))), .val (.int (v2 + (1 : Int32)))]) rfl ?_
    refine Wk.goto o_getSamples_22 ?_
    exact (h4 q1)

def sumGo (f : Int32 → Int32) : Nat → Int32 → Int32 → Int32
  | 0, _, c => c
  | n + 1, i, c => sumGo f n (i + 1) (c + f i)
theorem sumGo_z (f : Int32 → Int32) (i c : Int32) : sumGo f 0 i c = c := Eq.trans rfl rfl
theorem sumGo_s (f : Int32 → Int32) (n : Nat) (i c : Int32) : sumGo f (n + 1) i c = sumGo f n (i + 1) (c + f i) := Eq.trans rfl rfl
def f_getSamples (A : Nat → Int32 → Int32) : Int32 := sumGo (A 7) 64 0 0
theorem e_getSamples (A : Nat → Int32 → Int32) : f_getSamples A = sumGo (A 7) 64 0 0 := Eq.trans rfl rfl
theorem loop_getSamples {l : Launch} {Z : State} {a0 : Array Value} (H : OK Z a0) (F : Nat → Int32) (G : Nat → Int64) (A : Nat → Int32 → Int32) (B : Nat → Int32 → Int64) : ∀ (n : Nat) (i c : Int32), ¬ i < 0 → (64 - i.toInt).toNat = n →
    Wk l Z (MoC Z cdC) md_getSamples 4 [.val (.ref 0), .val (.int c), .val (.int i)] [] (19, F, G, A, B) 0 0 (fun v w' => v = some (.int (sumGo (A 7) n i c)) ∧ w' = (19, F, G, A, B)) := by
  intro n
  have z : (64 : Int32).toInt = 64 := rfl
  induction n with
  | zero =>
    intro i c h0 hn
    have hi : ¬ i < 64 := fun q => by have := lt_i.mp q; omega
    exact wp_getSamples_4 H F G A B c i (fun _ => ⟨by rw [sumGo_z], rfl⟩) (fun _ => h0) (fun q => absurd q hi)
  | succ n ih =>
    intro i c h0 hn
    have hi : i < 64 := lt_i.mpr (by omega)
    have h1 : ¬ i + 1 < 0 := by
      rw [lt_i, succ_toInt hi]; rw [lt_i] at h0
      have z : (0 : Int32).toInt = 0 := rfl
      omega
    refine wp_getSamples_4 H F G A B c i (fun q => absurd hi q) (fun _ => h0) (fun _ => ?_)
    rw [sumGo_s]
    exact ih _ _ h1 (by rw [succ_toInt hi]; omega)
theorem run_getSamples {l : Launch} {Z : State} {a0 : Array Value} (H : OK Z a0) (F : Nat → Int32) (G : Nat → Int64) (A : Nat → Int32 → Int32) (B : Nat → Int32 → Int64) : Wk l Z (MoC Z cdC) md_getSamples 0 [.val (.ref 0), .unset, .unset] [] (19, F, G, A, B) 0 0 (fun v w' => v = some (.int (f_getSamples A)) ∧ w' = (19, F, G, A, B)) :=
  wp_getSamples H F G A B (loop_getSamples H F G A B 64 0 0 (by decide) rfl)
set_option maxRecDepth 65536 in
set_option maxHeartbeats 4000000 in
theorem wp_L_law {l : Launch} {Z : State} {a0 : Array Value} (H : OK Z a0) (sl : Int32) (sv : Int32 → Int32) (p1 : Int32) (p2 : Int32) (p3 : Int32) {Q : Option Value → WL → Prop} (s11 : ((A_init p1 p2) 0) ((F_init p1 p2) 2) = 0) (s12 : ¬ ((F_init p1 p2) 0) = 0) (s13 : ¬ ((F_init p1 p2) 1) = 0) (s14 : ¬ ((F_init p1 p2) 2) < 0) (s15 : ¬ (63 : Int32) < ((F_init p1 p2) 2)) (h17 : (f_run (F_init p1 p2) p3) = (if (if p3 < (1 : Int32) then (0 : Int32) else (1 : Int32)) = 0 then (0 : Int32) else (1 : Int32))) (h19 : (f_getReg (F_run (F_init p1 p2) (A_init p1 p2) p3) (A_run (F_init p1 p2) (A_init p1 p2) p3) (7 : Int32)) = (if (if p3 < (1 : Int32) then (0 : Int32) else (1 : Int32)) = 0 then (0 : Int32) else (1 : Int32))) (h21 : (f_getReg (F_run (F_init p1 p2) (A_init p1 p2) p3) (A_run (F_init p1 p2) (A_init p1 p2) p3) (5 : Int32)) = (if (if p3 < (1 : Int32) then (0 : Int32) else (1 : Int32)) = 0 then (0 : Int32) else (1 : Int32))) (h23 : (f_getReg (F_run (F_init p1 p2) (A_init p1 p2) p3) (A_run (F_init p1 p2) (A_init p1 p2) p3) (4 : Int32)) = 0) (h25 : (f_getSamples (A_run (F_init p1 p2) (A_init p1 p2) p3)) = (if (if p3 < (1 : Int32) then (0 : Int32) else (1 : Int32)) = 0 then (0 : Int32) else (if (1 : Int32) < p1 then (0 : Int32) else (1 : Int32)))) (s26 : ((A_run (F_init p1 p2) (A_init p1 p2) p3) 0) ((F_run (F_init p1 p2) (A_init p1 p2) p3) 2) = 0) (s27 : ¬ ((F_run (F_init p1 p2) (A_init p1 p2) p3) 0) = 0) (s28 : ¬ ((F_run (F_init p1 p2) (A_init p1 p2) p3) 1) = 0) (s29 : ¬ ((F_run (F_init p1 p2) (A_init p1 p2) p3) 2) < 0) (s30 : ¬ (63 : Int32) < ((F_run (F_init p1 p2) (A_init p1 p2) p3) 2)) (h32 : (f_run (F_run (F_init p1 p2) (A_init p1 p2) p3) p3) = 0) (h33 : Q (some (.int (1 : Int32))) (sl, sv, [(19, (F_run (F_run (F_init p1 p2) (A_init p1 p2) p3) (A_run (F_init p1 p2) (A_init p1 p2) p3) p3), (fun _ => 0), (A_run (F_run (F_init p1 p2) (A_init p1 p2) p3) (A_run (F_init p1 p2) (A_init p1 p2) p3) p3), (fun _ _ => 0))])) :
    Wk l Z (MoL Z cdC "CallGraphProfL1" false) md_L_law 0 [.val (.int p1), .val (.int p2), .val (.int p3), .unset, .unset, .unset, .unset, .unset] [] (sl, sv, []) 0 0 Q := by
  refine Wk.newL (coC H) (kk := 28) (H.w 0 rfl) (H.w 1 rfl) (wz_C H) o_L_law_0 trivial (i' := 1) rfl (ws' := [(0, (fun _ => 0), (fun _ => 0), (fun _ _ => 0), (fun _ _ => 0))]) rfl (cu' := 1) rfl (su' := 28) rfl (by decide) (by decide) ?_
  refine Wk.dup o_L_law_3 rfl ?_
  refine Wk.iloadN o_L_law_4 rfl ?_
  refine Wk.iloadN o_L_law_5 rfl ?_
  refine Wk.ctorLU (coC H) [.int p1, .int p2] 0 [.ref 1] (i' := 1) (H.w 3 rfl) (cv_init H) o_L_law_6 (run_init H p1 p2) (wt := 1) (cu' := 20) (su' := 1952) (by decide) trivial rfl rfl rfl rfl rfl rfl rfl rfl rfl rfl (ws' := [(19, (F_init p1 p2), (fun _ => 0), (A_init p1 p2), (fun _ _ => 0))]) rfl ?_
  refine Wk.astoreN o_L_law_9 (Or.inl rfl) (L' := [.val (.int p1), .val (.int p2), .val (.int p3), .val (.ref 1), .unset, .unset, .unset, .unset]) rfl ?_
  refine Wk.iloadN o_L_law_10 rfl ?_
  refine Wk.iconst o_L_law_11 (z := (1 : Int32)) (by decide) ?_
  have J2 : Wk l Z (MoL Z cdC "CallGraphProfL1" false) md_L_law 20 [.val (.int p1), .val (.int p2), .val (.int p3), .val (.ref 1), .unset, .unset, .unset, .unset] [.int (if p3 < (1 : Int32) then (0 : Int32) else (1 : Int32))] (sl, sv, [(19, (F_init p1 p2), (fun _ => 0), (A_init p1 p2), (fun _ _ => 0))]) 20 1952 Q := by
    refine Wk.istore o_L_law_20 (Or.inl rfl) (L' := [.val (.int p1), .val (.int p2), .val (.int p3), .val (.ref 1), .val (.int (if p3 < (1 : Int32) then (0 : Int32) else (1 : Int32))), .unset, .unset, .unset]) rfl ?_
    refine Wk.iload o_L_law_22 rfl ?_
    have J4 : Wk l Z (MoL Z cdC "CallGraphProfL1" false) md_L_law 32 [.val (.int p1), .val (.int p2), .val (.int p3), .val (.ref 1), .val (.int (if p3 < (1 : Int32) then (0 : Int32) else (1 : Int32))), .unset, .unset, .unset] [.int (if (if p3 < (1 : Int32) then (0 : Int32) else (1 : Int32)) = 0 then (0 : Int32) else (1 : Int32))] (sl, sv, [(19, (F_init p1 p2), (fun _ => 0), (A_init p1 p2), (fun _ _ => 0))]) 20 1952 Q := by
      refine Wk.istore o_L_law_32 (Or.inl rfl) (L' := [.val (.int p1), .val (.int p2), .val (.int p3), .val (.ref 1), .val (.int (if p3 < (1 : Int32) then (0 : Int32) else (1 : Int32))), .val (.int (if (if p3 < (1 : Int32) then (0 : Int32) else (1 : Int32)) = 0 then (0 : Int32) else (1 : Int32))), .unset, .unset]) rfl ?_
      refine Wk.iload o_L_law_34 rfl ?_
      have J6 : Wk l Z (MoL Z cdC "CallGraphProfL1" false) md_L_law 44 [.val (.int p1), .val (.int p2), .val (.int p3), .val (.ref 1), .val (.int (if p3 < (1 : Int32) then (0 : Int32) else (1 : Int32))), .val (.int (if (if p3 < (1 : Int32) then (0 : Int32) else (1 : Int32)) = 0 then (0 : Int32) else (1 : Int32))), .unset, .unset] [.int (if (if p3 < (1 : Int32) then (0 : Int32) else (1 : Int32)) = 0 then (0 : Int32) else (1 : Int32))] (sl, sv, [(19, (F_init p1 p2), (fun _ => 0), (A_init p1 p2), (fun _ _ => 0))]) 20 1952 Q := by
        refine Wk.istore o_L_law_44 (Or.inl rfl) (L' := [.val (.int p1), .val (.int p2), .val (.int p3), .val (.ref 1), .val (.int (if p3 < (1 : Int32) then (0 : Int32) else (1 : Int32))), .val (.int (if (if p3 < (1 : Int32) then (0 : Int32) else (1 : Int32)) = 0 then (0 : Int32) else (1 : Int32))), .val (.int (if (if p3 < (1 : Int32) then (0 : Int32) else (1 : Int32)) = 0 then (0 : Int32) else (1 : Int32))), .unset]) rfl ?_
        refine Wk.iload o_L_law_46 rfl ?_
        have J10 : Wk l Z (MoL Z cdC "CallGraphProfL1" false) md_L_law 61 [.val (.int p1), .val (.int p2), .val (.int p3), .val (.ref 1), .val (.int (if p3 < (1 : Int32) then (0 : Int32) else (1 : Int32))), .val (.int (if (if p3 < (1 : Int32) then (0 : Int32) else (1 : Int32)) = 0 then (0 : Int32) else (1 : Int32))), .val (.int (if (if p3 < (1 : Int32) then (0 : Int32) else (1 : Int32)) = 0 then (0 : Int32) else (1 : Int32))), .unset] [.int (if (if p3 < (1 : Int32) then (0 : Int32) else (1 : Int32)) = 0 then (0 : Int32) else (if (1 : Int32) < p1 then (0 : Int32) else (1 : Int32)))] (sl, sv, [(19, (F_init p1 p2), (fun _ => 0), (A_init p1 p2), (fun _ _ => 0))]) 20 1952 Q := by
          refine Wk.istore o_L_law_61 (Or.inl rfl) (L' := [.val (.int p1), .val (.int p2), .val (.int p3), .val (.ref 1), .val (.int (if p3 < (1 : Int32) then (0 : Int32) else (1 : Int32))), .val (.int (if (if p3 < (1 : Int32) then (0 : Int32) else (1 : Int32)) = 0 then (0 : Int32) else (1 : Int32))), .val (.int (if (if p3 < (1 : Int32) then (0 : Int32) else (1 : Int32)) = 0 then (0 : Int32) else (1 : Int32))), .val (.int (if (if p3 < (1 : Int32) then (0 : Int32) else (1 : Int32)) = 0 then (0 : Int32) else (if (1 : Int32) < p1 then (0 : Int32) else (1 : Int32))))]) rfl ?_
          refine Wk.aloadN o_L_law_63 rfl ?_
          refine Wk.iloadN o_L_law_64 rfl ?_
          refine Wk.callLF (coC H) [.int p3] 0 [] (i' := 1) (H.w 61 rfl) (cv_run H) o_L_law_65 (run_run H (F_init p1 p2) (fun _ => 0) (A_init p1 p2) (fun _ _ => 0) p3 s11 s12 s13 s14 s15) (wt := 0) (cu' := 20) (su' := 1952) (by decide) trivial rfl rfl rfl rfl rfl rfl rfl rfl rfl rfl (ws' := [(19, (F_run (F_init p1 p2) (A_init p1 p2) p3), (fun _ => 0), (A_run (F_init p1 p2) (A_init p1 p2) p3), (fun _ _ => 0))]) rfl ?_
          refine Wk.iload o_L_law_68 rfl ?_
          refine Wk.icmp_eq o_L_law_70 (fun q16 => ?_) (fun q => absurd h17 q)
          refine Wk.aloadN o_L_law_75 rfl ?_
          refine Wk.bipush o_L_law_76 (z := (7 : Int32)) (by decide) ?_
          refine Wk.callLF (coC H) [.int (7 : Int32)] 0 [] (i' := 1) (H.w 78 rfl) (cv_getReg H) o_L_law_78 (run_getReg H (F_run (F_init p1 p2) (A_init p1 p2) p3) (fun _ => 0) (A_run (F_init p1 p2) (A_init p1 p2) p3) (fun _ _ => 0) (7 : Int32)) (wt := 0) (cu' := 20) (su' := 1952) (by decide) trivial rfl rfl rfl rfl rfl rfl rfl rfl rfl rfl (ws' := [(19, (F_run (F_init p1 p2) (A_init p1 p2) p3), (fun _ => 0), (A_run (F_init p1 p2) (A_init p1 p2) p3), (fun _ _ => 0))]) rfl ?_
          refine Wk.iload o_L_law_81 rfl ?_
          refine Wk.icmp_eq o_L_law_83 (fun q18 => ?_) (fun q => absurd h19 q)
          refine Wk.aloadN o_L_law_88 rfl ?_
          refine Wk.iconst o_L_law_89 (z := (5 : Int32)) (by decide) ?_
          refine Wk.callLF (coC H) [.int (5 : Int32)] 0 [] (i' := 1) (H.w 78 rfl) (cv_getReg H) o_L_law_90 (run_getReg H (F_run (F_init p1 p2) (A_init p1 p2) p3) (fun _ => 0) (A_run (F_init p1 p2) (A_init p1 p2) p3) (fun _ _ => 0) (5 : Int32)) (wt := 0) (cu' := 20) (su' := 1952) (by decide) trivial rfl rfl rfl rfl rfl rfl rfl rfl rfl rfl (ws' := [(19, (F_run (F_init p1 p2) (A_init p1 p2) p3), (fun _ => 0), (A_run (F_init p1 p2) (A_init p1 p2) p3), (fun _ _ => 0))]) rfl ?_
          refine Wk.iload o_L_law_93 rfl ?_
          refine Wk.icmp_eq o_L_law_95 (fun q20 => ?_) (fun q => absurd h21 q)
          refine Wk.aloadN o_L_law_100 rfl ?_
          refine Wk.iconst o_L_law_101 (z := (4 : Int32)) (by decide) ?_
          refine Wk.callLF (coC H) [.int (4 : Int32)] 0 [] (i' := 1) (H.w 78 rfl) (cv_getReg H) o_L_law_102 (run_getReg H (F_run (F_init p1 p2) (A_init p1 p2) p3) (fun _ => 0) (A_run (F_init p1 p2) (A_init p1 p2) p3) (fun _ _ => 0) (4 : Int32)) (wt := 0) (cu' := 20) (su' := 1952) (by decide) trivial rfl rfl rfl rfl rfl rfl rfl rfl rfl rfl (ws' := [(19, (F_run (F_init p1 p2) (A_init p1 p2) p3), (fun _ => 0), (A_run (F_init p1 p2) (A_init p1 p2) p3), (fun _ _ => 0))]) rfl ?_
          refine Wk.if_eq o_L_law_105 (fun q22 => ?_) (fun q => absurd h23 q)
          refine Wk.aloadN o_L_law_110 rfl ?_
          refine Wk.callLF (coC H) [] 0 [] (i' := 1) (H.w 83 rfl) (cv_getSamples H) o_L_law_111 (run_getSamples H (F_run (F_init p1 p2) (A_init p1 p2) p3) (fun _ => 0) (A_run (F_init p1 p2) (A_init p1 p2) p3) (fun _ _ => 0)) (wt := 0) (cu' := 20) (su' := 1952) (by decide) trivial rfl rfl rfl rfl rfl rfl rfl rfl rfl rfl (ws' := [(19, (F_run (F_init p1 p2) (A_init p1 p2) p3), (fun _ => 0), (A_run (F_init p1 p2) (A_init p1 p2) p3), (fun _ _ => 0))]) rfl ?_
          refine Wk.iload o_L_law_114 rfl ?_
          refine Wk.icmp_eq o_L_law_116 (fun q24 => ?_) (fun q => absurd h25 q)
          refine Wk.aloadN o_L_law_121 rfl ?_
          refine Wk.iloadN o_L_law_122 rfl ?_
          refine Wk.callLF (coC H) [.int p3] 0 [] (i' := 1) (H.w 61 rfl) (cv_run H) o_L_law_123 (run_run H (F_run (F_init p1 p2) (A_init p1 p2) p3) (fun _ => 0) (A_run (F_init p1 p2) (A_init p1 p2) p3) (fun _ _ => 0) p3 s26 s27 s28 s29 s30) (wt := 0) (cu' := 20) (su' := 1952) (by decide) trivial rfl rfl rfl rfl rfl rfl rfl rfl rfl rfl (ws' := [(19, (F_run (F_run (F_init p1 p2) (A_init p1 p2) p3) (A_run (F_init p1 p2) (A_init p1 p2) p3) p3), (fun _ => 0), (A_run (F_run (F_init p1 p2) (A_init p1 p2) p3) (A_run (F_init p1 p2) (A_init p1 p2) p3) p3), (fun _ _ => 0))]) rfl ?_
          refine Wk.if_ne o_L_law_126 (fun q => absurd h32 q) (fun q31 => ?_)
          refine Wk.iconst o_L_law_129 (z := (1 : Int32)) (by decide) ?_
          refine Wk.goto o_L_law_130 ?_
          exact Wk.zreturn mrL rfl o_L_law_134 rfl (by decide) (by decide) (y := (1 : Int32)) (by decide) h33
        refine Wk.if_eq o_L_law_48 (fun q7 => ?_) (fun q7 => ?_)
        · refine Wk.iconst o_L_law_60 (z := (0 : Int32)) (by decide) ?_
          first | exact J10 | (simp only [if_pos q7] at J10 ⊢; exact J10)
        · refine Wk.iloadN o_L_law_51 rfl ?_
          refine Wk.iconst o_L_law_52 (z := (1 : Int32)) (by decide) ?_
          refine Wk.icmp_gt o_L_law_53 (fun q8 => ?_) (fun q8 => ?_)
          · refine Wk.iconst o_L_law_60 (z := (0 : Int32)) (by decide) ?_
            first | exact J10 | (simp only [if_neg q7, if_pos q8] at J10 ⊢; exact J10)
          · refine Wk.iconst o_L_law_56 (z := (1 : Int32)) (by decide) ?_
            refine Wk.goto o_L_law_57 ?_
            first | exact J10 | (simp only [if_neg q7, if_neg q8] at J10 ⊢; exact J10)
      refine Wk.if_eq o_L_law_36 (fun q5 => ?_) (fun q5 => ?_)
      · refine Wk.iconst o_L_law_43 (z := (0 : Int32)) (by decide) ?_
        first | exact J6 | (simp only [if_pos q5] at J6 ⊢; exact J6)
      · refine Wk.iconst o_L_law_39 (z := (1 : Int32)) (by decide) ?_
        refine Wk.goto o_L_law_40 ?_
        first | exact J6 | (simp only [if_neg q5] at J6 ⊢; exact J6)
    refine Wk.if_eq o_L_law_24 (fun q3 => ?_) (fun q3 => ?_)
    · refine Wk.iconst o_L_law_31 (z := (0 : Int32)) (by decide) ?_
      first | exact J4 | (simp only [if_pos q3] at J4 ⊢; exact J4)
    · refine Wk.iconst o_L_law_27 (z := (1 : Int32)) (by decide) ?_
      refine Wk.goto o_L_law_28 ?_
      first | exact J4 | (simp only [if_neg q3] at J4 ⊢; exact J4)
  refine Wk.icmp_lt o_L_law_12 (fun q1 => ?_) (fun q1 => ?_)
  · refine Wk.iconst o_L_law_19 (z := (0 : Int32)) (by decide) ?_
    first | exact J2 | (simp only [if_pos q1] at J2 ⊢; exact J2)
  · refine Wk.iconst o_L_law_15 (z := (1 : Int32)) (by decide) ?_
    refine Wk.goto o_L_law_16 ?_
    first | exact J2 | (simp only [if_neg q1] at J2 ⊢; exact J2)
theorem A0z (p1 p2 : Int32) (j : Nat) (x : Int32) : A_init p1 p2 j x = 0 := by
  rw [eA_init]
  by_cases e : j = 5
  · subst e; rw [ups_at]
    by_cases e2 : x = 0
    · subst e2; rw [ups_at]
    · rw [ups_ne _ _ e2]
  · rw [ups_ne _ _ e]
theorem ck (p hi : Int32) (h : ¬ hi < 1) : ¬ f_clamp p hi < 1 ∧ ¬ hi < f_clamp p hi := by rw [e_clamp]; grind
theorem R2 (p1 p2 p3 : Int32) : F_run (F_init p1 p2) (A_init p1 p2) p3 2 = 0 := by
  rw [eF_run]; split
  · exact F_init_2 p1 p2
  · split
    · rw [F_step_2, F_init_2, A0z]; simp
    · exact F_init_2 p1 p2
theorem R3 (p1 p2 p3 : Int32) : F_run (F_init p1 p2) (A_init p1 p2) p3 3 = if p3 < 1 then 0 else 1 := by
  rw [eF_run, F_init_5, if_pos rfl]; split
  · exact F_init_3 p1 p2
  · rw [F_step_3, F_init_2, F_init_3]; decide
theorem R5 (p1 p2 p3 : Int32) : F_run (F_init p1 p2) (A_init p1 p2) p3 5 = if p3 < 1 then 0 else 1 := by
  rw [eF_run, F_init_5, if_pos rfl]; split
  · exact F_init_5 p1 p2
  · rw [F_step_5, F_init_2, A0z]; simp
theorem R0 (p1 p2 p3 : Int32) : F_run (F_init p1 p2) (A_init p1 p2) p3 0 = f_clamp p1 16 := by
  rw [eF_run]; split
  · exact F_init_0 p1 p2
  · split
    · rw [F_step_0, F_init_0]
    · exact F_init_0 p1 p2
theorem R1 (p1 p2 p3 : Int32) : F_run (F_init p1 p2) (A_init p1 p2) p3 1 = f_clamp p2 4 := by
  rw [eF_run]; split
  · exact F_init_1 p1 p2
  · split
    · rw [F_step_1, F_init_1]
    · exact F_init_1 p1 p2
theorem zdiv (x : Int32) : (0 : Int32) / x = 0 := Int32.zero_div
theorem AS (p1 p2 : Int32) : A_step (F_init p1 p2) (A_init p1 p2) = if (1 : Int32) % f_clamp p1 16 = 0 then ups (A_init p1 p2) 7 (ups (A_init p1 p2 7) 0 1) else A_init p1 p2 := by
  have ha : A_act (A_init p1 p2) 0 0 0 = A_init p1 p2 := by rw [eA_act]; simp
  rw [eA_step, F_init_2, F_init_3, F_init_0, F_init_1]
  simp only [A0z, ha, zdiv]
  simp [A0z]
theorem RA (p1 p2 p3 : Int32) : A_run (F_init p1 p2) (A_init p1 p2) p3 = if p3 < 1 then A_init p1 p2 else if (1 : Int32) % f_clamp p1 16 = 0 then ups (A_init p1 p2) 7 (ups (A_init p1 p2 7) 0 1) else A_init p1 p2 := by
  rw [eA_run, F_init_5, if_pos rfl, AS]
theorem sum_zero (f : Int32 → Int32) (h : ∀ x, f x = 0) : ∀ (n : Nat) (i c : Int32), sumGo f n i c = c := by
  intro n
  induction n with
  | zero => intro i c; exact sumGo_z f i c
  | succ n ih => intro i c; rw [sumGo_s, h, ih]; simp
theorem sum_from (f : Int32 → Int32) (h : ∀ x, ¬ x = 0 → f x = 0) : ∀ (n : Nat) (i c : Int32), 0 < i.toInt → i.toInt + n < 2147483648 → sumGo f n i c = c := by
  intro n
  induction n with
  | zero => intro i c _ _; exact sumGo_z f i c
  | succ n ih =>
    intro i c h0 h1
    have e : (i + 1).toInt = i.toInt + 1 := add_toInt (x := i) (y := 1) (by show -2147483648 ≤ i.toInt + 1; omega) (by show i.toInt + 1 < 2147483648; omega)
    rw [sumGo_s, h i (by rintro rfl; exact absurd h0 (by decide)), ih (i + 1) _ (by omega) (by omega)]; simp
theorem sum_one (g : Int32 → Int32) (h : ∀ x, g x = 0) : sumGo (ups g 0 1) 64 0 0 = 1 := by
  rw [sumGo_s, ups_at]
  exact sum_from _ (fun x hx => by rw [ups_ne _ _ hx]; exact h x) 63 _ _ (by decide) (by decide)
theorem mod1 (p : Int32) : (1 : Int32) % f_clamp p 16 = 0 ↔ ¬ 1 < p := by
  have h := ck p 16 (by decide)
  rw [e_clamp] at *
  by_cases a : p < 1
  · rw [if_pos a]; constructor
    · intro _ q; grind
    · intro _; decide
  · rw [if_neg a] at *
    by_cases b : 16 < p
    · rw [if_pos b]; constructor
      · intro q; exact absurd q (by decide)
      · intro q; grind
    · rw [if_neg b] at *
      by_cases c : 1 < p
      · constructor
        · intro q
          have e : ∀ n : Nat, n < 17 → 1 < n → (1 : Int32) % (Int32.ofNat n) ≠ 0 := by decide
          have hp := lt_i.mp c
          have hb : ¬ (16 : Int32).toInt < p.toInt := fun q => b (lt_i.mpr q)
          have z1 : (1 : Int32).toInt = 1 := rfl
          have z16 : (16 : Int32).toInt = 16 := rfl
          have ep : p = Int32.ofNat p.toInt.toNat := by
            apply Int32.toInt_inj.mp
            rw [Int32.toInt_ofNat_of_lt (by omega)]; omega
          rw [ep] at q
          exact absurd q (e _ (by omega) (by omega))
        · intro q; exact absurd c q
      · have : p = 1 := by grind
        subst this
        constructor
        · intro _; decide
        · intro _; decide
theorem GS (p1 p2 p3 : Int32) : f_getSamples (A_run (F_init p1 p2) (A_init p1 p2) p3) = if p3 < 1 then 0 else if 1 < p1 then 0 else 1 := by
  rw [e_getSamples, RA]
  by_cases h : p3 < 1
  · rw [if_pos h, if_pos h]; exact sum_zero _ (A0z p1 p2 7) _ _ _
  · rw [if_neg h, if_neg h]
    by_cases q : 1 < p1
    · rw [if_neg (fun a => (mod1 p1).mp a q), if_pos q]; exact sum_zero _ (A0z p1 p2 7) _ _ _
    · rw [if_pos ((mod1 p1).mpr q), if_neg q, ups_at]; exact sum_one _ (A0z p1 p2 7)
set_option maxRecDepth 65536 in
set_option maxHeartbeats 4000000 in
theorem own_s11 (p1 : Int32) (p2 : Int32) (p3 : Int32) : ((A_init p1 p2) 0) ((F_init p1 p2) 2) = 0 := by
  exact A0z _ _ _ _
set_option maxRecDepth 65536 in
set_option maxHeartbeats 4000000 in
theorem own_s12 (p1 : Int32) (p2 : Int32) (p3 : Int32) : ¬ ((F_init p1 p2) 0) = 0 := by
  rw [F_init_0]; have := ck p1 16 (by decide); grind
set_option maxRecDepth 65536 in
set_option maxHeartbeats 4000000 in
theorem own_s13 (p1 : Int32) (p2 : Int32) (p3 : Int32) : ¬ ((F_init p1 p2) 1) = 0 := by
  rw [F_init_1]; have := ck p2 4 (by decide); grind
set_option maxRecDepth 65536 in
set_option maxHeartbeats 4000000 in
theorem own_s14 (p1 : Int32) (p2 : Int32) (p3 : Int32) : ¬ ((F_init p1 p2) 2) < 0 := by
  rw [F_init_2]; decide
set_option maxRecDepth 65536 in
set_option maxHeartbeats 4000000 in
theorem own_s15 (p1 : Int32) (p2 : Int32) (p3 : Int32) : ¬ (63 : Int32) < ((F_init p1 p2) 2) := by
  rw [F_init_2]; decide
set_option maxRecDepth 65536 in
set_option maxHeartbeats 4000000 in
theorem own_h17 (p1 : Int32) (p2 : Int32) (p3 : Int32) : (f_run (F_init p1 p2) p3) = (if (if p3 < (1 : Int32) then (0 : Int32) else (1 : Int32)) = 0 then (0 : Int32) else (1 : Int32)) := by
  rw [e_run, F_init_5]; by_cases h : p3 < 1 <;> simp [h]
set_option maxRecDepth 65536 in
set_option maxHeartbeats 4000000 in
theorem own_h19 (p1 : Int32) (p2 : Int32) (p3 : Int32) : (f_getReg (F_run (F_init p1 p2) (A_init p1 p2) p3) (A_run (F_init p1 p2) (A_init p1 p2) p3) (7 : Int32)) = (if (if p3 < (1 : Int32) then (0 : Int32) else (1 : Int32)) = 0 then (0 : Int32) else (1 : Int32)) := by
  simp only [e_getReg, R2, R3, R5]
  by_cases h : p3 < 1 <;> simp [h]
set_option maxRecDepth 65536 in
set_option maxHeartbeats 4000000 in
theorem own_h21 (p1 : Int32) (p2 : Int32) (p3 : Int32) : (f_getReg (F_run (F_init p1 p2) (A_init p1 p2) p3) (A_run (F_init p1 p2) (A_init p1 p2) p3) (5 : Int32)) = (if (if p3 < (1 : Int32) then (0 : Int32) else (1 : Int32)) = 0 then (0 : Int32) else (1 : Int32)) := by
  simp only [e_getReg, R2, R3, R5]
  by_cases h : p3 < 1 <;> simp [h]
set_option maxRecDepth 65536 in
set_option maxHeartbeats 4000000 in
theorem own_h23 (p1 : Int32) (p2 : Int32) (p3 : Int32) : (f_getReg (F_run (F_init p1 p2) (A_init p1 p2) p3) (A_run (F_init p1 p2) (A_init p1 p2) p3) (4 : Int32)) = 0 := by
  simp only [e_getReg, R2, R3, R5]
  by_cases h : p3 < 1 <;> simp [h]
set_option maxRecDepth 65536 in
set_option maxHeartbeats 4000000 in
theorem own_h25 (p1 : Int32) (p2 : Int32) (p3 : Int32) : (f_getSamples (A_run (F_init p1 p2) (A_init p1 p2) p3)) = (if (if p3 < (1 : Int32) then (0 : Int32) else (1 : Int32)) = 0 then (0 : Int32) else (if (1 : Int32) < p1 then (0 : Int32) else (1 : Int32))) := by
  rw [GS]; by_cases h : p3 < 1 <;> simp [h]
set_option maxRecDepth 65536 in
set_option maxHeartbeats 4000000 in
theorem own_s26 (p1 : Int32) (p2 : Int32) (p3 : Int32) : ((A_run (F_init p1 p2) (A_init p1 p2) p3) 0) ((F_run (F_init p1 p2) (A_init p1 p2) p3) 2) = 0 := by
  rw [RA]; (repeat' split) <;> first | exact A0z _ _ _ _ | (rw [ups_ne _ _ (by decide)]; exact A0z _ _ _ _)
set_option maxRecDepth 65536 in
set_option maxHeartbeats 4000000 in
theorem own_s27 (p1 : Int32) (p2 : Int32) (p3 : Int32) : ¬ ((F_run (F_init p1 p2) (A_init p1 p2) p3) 0) = 0 := by
  rw [R0]; have := ck p1 16 (by decide); grind
set_option maxRecDepth 65536 in
set_option maxHeartbeats 4000000 in
theorem own_s28 (p1 : Int32) (p2 : Int32) (p3 : Int32) : ¬ ((F_run (F_init p1 p2) (A_init p1 p2) p3) 1) = 0 := by
  rw [R1]; have := ck p2 4 (by decide); grind
set_option maxRecDepth 65536 in
set_option maxHeartbeats 4000000 in
theorem own_s29 (p1 : Int32) (p2 : Int32) (p3 : Int32) : ¬ ((F_run (F_init p1 p2) (A_init p1 p2) p3) 2) < 0 := by
  rw [R2]; decide
set_option maxRecDepth 65536 in
set_option maxHeartbeats 4000000 in
theorem own_s30 (p1 : Int32) (p2 : Int32) (p3 : Int32) : ¬ (63 : Int32) < ((F_run (F_init p1 p2) (A_init p1 p2) p3) 2) := by
  rw [R2]; decide
set_option maxRecDepth 65536 in
set_option maxHeartbeats 4000000 in
theorem own_h32 (p1 : Int32) (p2 : Int32) (p3 : Int32) : (f_run (F_run (F_init p1 p2) (A_init p1 p2) p3) p3) = 0 := by
  rw [e_run, R5]; by_cases h : p3 < 1 <;> simp [h]
theorem law_ok {l : Launch} {Z : State} {a0 : Array Value} (H : OK Z a0) (p1 : Int32) (p2 : Int32) (p3 : Int32) :
    Wk l Z (MoL Z cdC "CallGraphProfL1" false) md_L_law 0 [.val (.int p1), .val (.int p2), .val (.int p3), .unset, .unset, .unset, .unset, .unset] [] (0, (fun _ => 0), []) 0 0 (fun v _ => v = some (.int 1)) :=
  wp_L_law H 0 (fun _ => 0) p1 p2 p3 (own_s11 p1 p2 p3) (own_s12 p1 p2 p3) (own_s13 p1 p2 p3) (own_s14 p1 p2 p3) (own_s15 p1 p2 p3) (own_h17 p1 p2 p3) (own_h19 p1 p2 p3) (own_h21 p1 p2 p3) (own_h23 p1 p2 p3) (own_h25 p1 p2 p3) (own_s26 p1 p2 p3) (own_s27 p1 p2 p3) (own_s28 p1 p2 p3) (own_s29 p1 p2 p3) (own_s30 p1 p2 p3) (own_h32 p1 p2 p3) rfl
set_option maxRecDepth 65536 in
set_option maxHeartbeats 40000000 in
theorem comes_1 {Post : Tables → Env → Array Value → State → Outcome → State → Prop} (hpost : ∀ tb e args s v u, (limb_1_1.after args s (.returned v) u = true ∧ limb_1_2.after args s (.returned v) u = true ∧ True) → FrameEnd s (.returned v) u (Jvm.fieldLocs frame_1_writes args s ++ Jvm.arrayLocs frame_1_arrays args s ++ Jvm.staticLocs frame_1_statics s) room_1.cells room_1.slots → Post tb e args s (.returned v) u) :
    ArmFor flags0 classFile x code maxLocals ret World_1 tables_1 room_1 Calls_1 rest_1 Pre_1 Post := by
  intro l hfl _ _ p e ha hc hk s m args below hf hA hF happ hP
  obtain ⟨hcalls, hrest, hpre⟩ := hP
  obtain ⟨-, -, -, hnamed, -, -, -, hat⟩ := (Spec.applies_iff hf).mp happ
  obtain ⟨hg, hn⟩ := and_e (Cond.before_iff.mp (show (Jvm.Cond.and given_1 narrow_1).before args s = true from hpre))
  obtain ⟨h1, h2⟩ := and_e hg
  obtain ⟨w0, w1, w2, rfl⟩ : ∃ w0 w1 w2 : Value, args = #[w0, w1, w2] := by
    have hs : args.size = 3 := by simpa [Cond.value, given_1] using h1
    obtain ⟨L⟩ := args
    match L, hs with
    | [w0, w1, w2], _ => exact ⟨w0, w1, w2, rfl⟩
  have hw : OK s #[w0, w1, w2] := fun d (hd : d ∈ tables_1) => atoms_spec (ws := Jvm.Cond.code x code maxLocals ret :: tables_1) hat d (List.mem_cons_of_mem _ hd)
  obtain ⟨g0, r0⟩ := and_e h2
  obtain ⟨g1, r1⟩ := and_e r0
  have g2 := r1
  obtain ⟨i0, e0⟩ := is_v g0
  obtain rfl : w0 = (.int i0) := Option.some.inj e0
  obtain ⟨i1, e1⟩ := is_v g1
  obtain rfl : w1 = (.int i1) := Option.some.inj e1
  obtain ⟨i2, e2⟩ := is_v g2
  obtain rfl : w2 = (.int i2) := Option.some.inj e2
  have rel0 : relL s cdC false (s.heap.size, 0) (0, (fun _ => 0), []) s.heap := ⟨fun q => (by cases q), fun i x q => (by simp at q), (by simp)⟩
  obtain ⟨n, o, h1, h2, h3, v, L, rfl, ⟨w', hv, hrel, hfrm, N, hsz, hnr⟩, hq⟩ := (law_ok hw i0 i1 i2).met (M := MoL s cdC "CallGraphProfL1" false) (l := l) pn_CallGraphProfL1 rfl (en := (s.heap.size, 0)) rel0 [.int i0, .int i1, .int i2] rfl rfl tables_1 p e ha hc hk s m _ below hf ((Spec.applies_iff_loose hf).mp happ).1 ⟨rfl, State.Warmed39.refl s, rfl⟩ trivial
  subst hv
  exact ⟨n, _, h1, h2, h3, hpost _ _ _ _ _ _ ⟨Cond.after_iff.mpr rfl, Cond.after_iff.mpr (eq_i res_at (Term.int_eval (1)) rfl), trivial⟩ ⟨hq.1, hq.2.1, (hq.2.2.sift fun y hy => Or.inr (N y hy)).mono (Nat.le_refl _) (Nat.le_refl _)⟩⟩
theorem main_1_1 : Claimed_1_1 := comes_1 fun _ _ _ _ _ _ h hF => ⟨h.1, hF⟩
theorem main_1_2 : Claimed_1_2 := comes_1 fun _ _ _ _ _ _ h hF => ⟨h.2.1, hF⟩
end Jvm.Pilot.@@N@@
namespace Jvm.Pilot.@@N@@
open Jvm Jvm.ClassFile Sem Op Lib Jvm.Free Jvm.Stand Jvm.Pilot.@@N@@.Jvm.D
/-! MADE BY PROGRAM (witnessworld.py) out of the Statement's table words and the real class files: 13 classes; the members and pool entries that the words name. The judged class is class 1, her method 1. -/
namespace start1
open Jvm.ClassFile
def u (s : String) : CpInfo := .utf8 (stringToUtf16 s)
/-- a pool by its gaps: so many unusable entries, then the entry; so many at the end -/
def gap : Nat → List CpInfo → List CpInfo
  | 0, r => r
  | n + 1, r => .unusable :: gap n r
def poolList (es : List (Nat × CpInfo)) (last : Nat) : List CpInfo := es.foldr (fun e r => gap e.1 (e.2 :: r)) (gap last [])
def pool (es : List (Nat × CpInfo)) (last : Nat) : Array CpInfo := ⟨poolList es last⟩
def fileOf (pool : Array CpInfo) (this : Nat) (attrs : Array Attribute := #[]) (ms : Array MethodInfo := #[]) (fl : Nat := 33) (sup : Nat := 0) (ifs : Array Nat := #[]) (fds : Array FieldInfo := #[]) : ClassFile where
  minorVersion := 0
  majorVersion := 65
  constantPool := pool
  accessFlags := fl
  thisClass := this
  superClass := sup
  interfaces := ifs
  fields := fds
  methods := ms
  attributes := attrs
def plain (name : String) (sup : Option ClassId) : Class where
  name := name
  kind := .ordinary
  loader := none
  accessFlags := 33
  super := sup
  interfaces := #[]
  cf := none
  fields := #[]
  methods := #[]
  instanceTypes := #[]
  staticTypes := #[]
  resolved := #[]
  callSites := []
  init := .initialized
  statics := none
  mirror := none

def pool0 : Array CpInfo := pool [(5, u "<init>"), (0, u "()V"), (1, .class_ 10), (1, u "java/lang/Object")] 113

def k0c0 : Code := { maxStack := 0, maxLocals := 1, code := object_method_1_code, exceptionTable := #[], attributes := #[] }
def k0m0 : Method := { name := "<init>", desc := "()V", sig := { parameters := [], returnType := none }, accessFlags := 1, code := some k0c0 }
/-- java/lang/Object -/
def k0 : Class := { plain "java/lang/Object" none with
  accessFlags := 33
  interfaces := #[]
  cf := some (fileOf pool0 8 #[] #[{ accessFlags := 1, nameIndex := 5, descriptorIndex := 6, attributes := #[] }] 33 0 #[] #[])
  fields := #[]
  methods := #[k0m0]
  instanceTypes := #[]
  staticTypes := #[]
  resolved := Array.replicate 124 none
  statics := none }

def pool1 : Array CpInfo := pool [(2, .class_ 4), (1, u "java/lang/Object"), (0, u "<init>"), (0, u "()V"), (0, .class_ 8), (0, u "CallGraphProf"), (0, .methodref 7 10), (0, .nameAndType 5 11), (0, u "(II)V"), (0, .methodref 7 13), (0, .nameAndType 14 15), (0, u "run"), (0, u "(I)I"), (0, .methodref 7 17), (0, .nameAndType 18 15), (0, u "getReg"), (0, .methodref 7 20), (0, .nameAndType 21 22), (0, u "getSamples"), (0, u "()I"), (0, .class_ 24), (0, u "CallGraphProfL1"), (2, u "law"), (0, u "(III)Z")] 3

def k1m0 : Method := { name := "<init>", desc := "()V", sig := { parameters := [], returnType := none }, accessFlags := 1, code := none }
def k1c1 : Code := { maxStack := 4, maxLocals := 8, code := code, exceptionTable := #[], attributes := #[] }
def k1m1 : Method := { name := "law", desc := "(III)Z", sig := { parameters := [.int, .int, .int], returnType := some .boolean }, accessFlags := 9, code := some k1c1 }
/-- CallGraphProfL1 -/
def k1 : Class := { plain "CallGraphProfL1" (some 0) with
  accessFlags := 49
  interfaces := #[]
  cf := some (fileOf pool1 23 #[] #[{ accessFlags := 1, nameIndex := 5, descriptorIndex := 6, attributes := #[] }, { accessFlags := 9, nameIndex := 27, descriptorIndex := 28, attributes := #[] }] 49 2 #[] #[])
  fields := #[]
  methods := #[k1m0, k1m1]
  instanceTypes := #[]
  staticTypes := #[]
  resolved := Array.replicate 32 none
  statics := none }

def pool2 : Array CpInfo := pool [(1, .methodref 2 3), (0, .class_ 4), (0, .nameAndType 5 6), (0, u "java/lang/Object"), (0, u "<init>"), (0, u "()V"), (0, .fieldref 8 9), (0, .class_ 10), (0, .nameAndType 11 12), (0, u "CallGraphProf"), (0, u "cellOp"), (0, u "[I"), (0, .fieldref 8 14), (0, .nameAndType 15 12), (0, u "cellA"), (0, .fieldref 8 17), (0, .nameAndType 18 12), (0, u "cellB"), (0, .fieldref 8 20), (0, .nameAndType 21 12), (0, u "reg"), (0, .fieldref 8 23), (0, .nameAndType 24 12), (0, u "stack"), (0, .fieldref 8 26), (0, .nameAndType 27 12), (0, u "start"), (0, .fieldref 8 29), (0, .nameAndType 30 12), (0, u "arc"), (0, .fieldref 8 32), (0, .nameAndType 33 12), (0, u "bucket"), (0, .fieldref 8 35), (0, .nameAndType 36 12), (0, u "self"), (0, .fieldref 8 38), (0, .nameAndType 39 12), (0, u "reach"), (0, .fieldref 8 41), (0, .nameAndType 42 12), (0, u "comp"), (0, .fieldref 8 44), (0, .nameAndType 45 46), (0, u "root"), (0, u "[Z"), (0, .fieldref 8 48), (0, .nameAndType 49 12), (0, u "total"), (0, .fieldref 8 51), (0, .nameAndType 52 12), (0, u "ct"), (0, .fieldref 8 54), (0, .nameAndType 55 12), (0, u "share"), (0, .fieldref 8 57), (0, .nameAndType 58 12), (0, u "exP"), (0, .fieldref 8 60), (0, .nameAndType 61 12), (0, u "exQ"), (0, .fieldref 8 63), (0, .nameAndType 64 12), (0, u "exFirst"), (0, .fieldref 8 66), (0, .nameAndType 67 68), (0, u "exRem"), (0, u "[J"), (0, .methodref 8 70), (0, .nameAndType 71 72), (0, u "clamp"), (0, u "(II)I"), (0, .fieldref 8 74), (0, .nameAndType 75 76), (0, u "tick"), (0, u "I"), (0, .fieldref 8 78), (0, .nameAndType 79 76), (0, u "width"), (0, .fieldref 8 81), (0, .nameAndType 82 76), (0, u "n"), (0, .fieldref 8 84), (0, .nameAndType 85 76), (0, u "status"), (0, .fieldref 8 87), (0, .nameAndType 88 76), (0, u "steps"), (4, .methodref 8 94), (0, .nameAndType 95 6), (0, u "step"), (0, .fieldref 8 97), (0, .nameAndType 98 76), (0, u "pc"), (0, .methodref 8 100), (0, .nameAndType 101 102), (0, u "act"), (0, u "(III)V"), (3, u "(II)V"), (3, .fieldref 8 111), (0, .nameAndType 112 76), (0, u "depth"), (3, u "(I)I"), (44, u "exCount"), (2, u "exSum"), (0, u "J"), (11, u "HALT"), (2, u "NOP"), (1, u "SET"), (1, u "ADD"), (1, u "JNZ"), (1, u "JMP"), (1, u "CALL"), (1, u "RET"), (1, u "RUNNING"), (0, u "HALTED"), (0, u "FAULT"), (0, u "REG_PC"), (0, u "REG_STEPS"), (0, u "REG_DEPTH"), (0, u "REG_STATUS"), (0, u "MAX_RUN"), (7, u "run"), (0, u "getReg"), (5, u "getSamples"), (0, u "()I")] 9

def k2c0 : Code := { maxStack := 3, maxLocals := 3, code := prog_1_method_1_code, exceptionTable := #[], attributes := #[] }
def k2m0 : Method := { name := "<init>", desc := "(II)V", sig := { parameters := [.int, .int], returnType := none }, accessFlags := 1, code := some k2c0 }
def k2c1 : Code := { maxStack := 2, maxLocals := 2, code := prog_1_method_2_code, exceptionTable := #[], attributes := #[] }
def k2m1 : Method := { name := "clamp", desc := "(II)I", sig := { parameters := [.int, .int], returnType := some .int }, accessFlags := 10, code := some k2c1 }
def k2c2 : Code := { maxStack := 2, maxLocals := 4, code := prog_1_method_6_code, exceptionTable := #[], attributes := #[] }
def k2m2 : Method := { name := "run", desc := "(I)I", sig := { parameters := [.int], returnType := some .int }, accessFlags := 1, code := some k2c2 }
def k2c3 : Code := { maxStack := 5, maxLocals := 3, code := prog_1_method_7_code, exceptionTable := #[], attributes := #[] }
def k2m3 : Method := { name := "step", desc := "()V", sig := { parameters := [], returnType := none }, accessFlags := 2, code := some k2c3 }
def k2c4 : Code := { maxStack := 4, maxLocals := 6, code := prog_1_method_8_code, exceptionTable := #[], attributes := #[] }
def k2m4 : Method := { name := "act", desc := "(III)V", sig := { parameters := [.int, .int, .int], returnType := none }, accessFlags := 2, code := some k2c4 }
def k2c5 : Code := { maxStack := 2, maxLocals := 2, code := prog_1_method_12_code, exceptionTable := #[], attributes := #[] }
def k2m5 : Method := { name := "getReg", desc := "(I)I", sig := { parameters := [.int], returnType := some .int }, accessFlags := 1, code := some k2c5 }
def k2c6 : Code := { maxStack := 3, maxLocals := 3, code := prog_1_method_19_code, exceptionTable := #[], attributes := #[] }
def k2m6 : Method := { name := "getSamples", desc := "()I", sig := { parameters := [], returnType := some .int }, accessFlags := 1, code := some k2c6 }
/-- CallGraphProf -/
def k2 : Class := { plain "CallGraphProf" (some 0) with
  accessFlags := 49
  interfaces := #[]
  cf := some (fileOf pool2 8 #[] #[{ accessFlags := 1, nameIndex := 5, descriptorIndex := 106, attributes := #[] }, { accessFlags := 10, nameIndex := 71, descriptorIndex := 72, attributes := #[] }, { accessFlags := 1, nameIndex := 209, descriptorIndex := 116, attributes := #[] }, { accessFlags := 2, nameIndex := 95, descriptorIndex := 6, attributes := #[] }, { accessFlags := 2, nameIndex := 101, descriptorIndex := 102, attributes := #[] }, { accessFlags := 1, nameIndex := 210, descriptorIndex := 116, attributes := #[] }, { accessFlags := 1, nameIndex := 216, descriptorIndex := 217, attributes := #[] }] 49 2 #[] #[{ accessFlags := 25, nameIndex := 177, descriptorIndex := 76, attributes := #[] }, { accessFlags := 25, nameIndex := 180, descriptorIndex := 76, attributes := #[] }, { accessFlags := 25, nameIndex := 182, descriptorIndex := 76, attributes := #[] }, { accessFlags := 25, nameIndex := 184, descriptorIndex := 76, attributes := #[] }, { accessFlags := 25, nameIndex := 186, descriptorIndex := 76, attributes := #[] }, { accessFlags := 25, nameIndex := 188, descriptorIndex := 76, attributes := #[] }, { accessFlags := 25, nameIndex := 190, descriptorIndex := 76, attributes := #[] }, { accessFlags := 25, nameIndex := 192, descriptorIndex := 76, attributes := #[] }, { accessFlags := 25, nameIndex := 194, descriptorIndex := 76, attributes := #[] }, { accessFlags := 25, nameIndex := 195, descriptorIndex := 76, attributes := #[] }, { accessFlags := 25, nameIndex := 196, descriptorIndex := 76, attributes := #[] }, { accessFlags := 25, nameIndex := 197, descriptorIndex := 76, attributes := #[] }, { accessFlags := 25, nameIndex := 198, descriptorIndex := 76, attributes := #[] }, { accessFlags := 25, nameIndex := 199, descriptorIndex := 76, attributes := #[] }, { accessFlags := 25, nameIndex := 200, descriptorIndex := 76, attributes := #[] }, { accessFlags := 25, nameIndex := 201, descriptorIndex := 76, attributes := #[] }, { accessFlags := 2, nameIndex := 75, descriptorIndex := 76, attributes := #[] }, { accessFlags := 2, nameIndex := 79, descriptorIndex := 76, attributes := #[] }, { accessFlags := 18, nameIndex := 11, descriptorIndex := 12, attributes := #[] }, { accessFlags := 18, nameIndex := 15, descriptorIndex := 12, attributes := #[] }, { accessFlags := 18, nameIndex := 18, descriptorIndex := 12, attributes := #[] }, { accessFlags := 18, nameIndex := 21, descriptorIndex := 12, attributes := #[] }, { accessFlags := 2, nameIndex := 98, descriptorIndex := 76, attributes := #[] }, { accessFlags := 2, nameIndex := 88, descriptorIndex := 76, attributes := #[] }, { accessFlags := 2, nameIndex := 112, descriptorIndex := 76, attributes := #[] }, { accessFlags := 2, nameIndex := 85, descriptorIndex := 76, attributes := #[] }, { accessFlags := 18, nameIndex := 24, descriptorIndex := 12, attributes := #[] }, { accessFlags := 2, nameIndex := 82, descriptorIndex := 76, attributes := #[] }, { accessFlags := 18, nameIndex := 27, descriptorIndex := 12, attributes := #[] }, { accessFlags := 18, nameIndex := 30, descriptorIndex := 12, attributes := #[] }, { accessFlags := 18, nameIndex := 33, descriptorIndex := 12, attributes := #[] }, { accessFlags := 18, nameIndex := 36, descriptorIndex := 12, attributes := #[] }, { accessFlags := 18, nameIndex := 39, descriptorIndex := 12, attributes := #[] }, { accessFlags := 18, nameIndex := 42, descriptorIndex := 12, attributes := #[] }, { accessFlags := 18, nameIndex := 45, descriptorIndex := 46, attributes := #[] }, { accessFlags := 18, nameIndex := 49, descriptorIndex := 12, attributes := #[] }, { accessFlags := 18, nameIndex := 52, descriptorIndex := 12, attributes := #[] }, { accessFlags := 18, nameIndex := 55, descriptorIndex := 12, attributes := #[] }, { accessFlags := 18, nameIndex := 58, descriptorIndex := 12, attributes := #[] }, { accessFlags := 18, nameIndex := 61, descriptorIndex := 12, attributes := #[] }, { accessFlags := 18, nameIndex := 64, descriptorIndex := 12, attributes := #[] }, { accessFlags := 18, nameIndex := 67, descriptorIndex := 68, attributes := #[] }, { accessFlags := 2, nameIndex := 161, descriptorIndex := 76, attributes := #[] }, { accessFlags := 2, nameIndex := 164, descriptorIndex := 165, attributes := #[] }])
  fields := #[{ name := "HALT", type := .int, accessFlags := 25, slot := 0, constantValue := 0 }, { name := "NOP", type := .int, accessFlags := 25, slot := 1, constantValue := 0 }, { name := "SET", type := .int, accessFlags := 25, slot := 2, constantValue := 0 }, { name := "ADD", type := .int, accessFlags := 25, slot := 3, constantValue := 0 }, { name := "JNZ", type := .int, accessFlags := 25, slot := 4, constantValue := 0 }, { name := "JMP", type := .int, accessFlags := 25, slot := 5, constantValue := 0 }, { name := "CALL", type := .int, accessFlags := 25, slot := 6, constantValue := 0 }, { name := "RET", type := .int, accessFlags := 25, slot := 7, constantValue := 0 }, { name := "RUNNING", type := .int, accessFlags := 25, slot := 8, constantValue := 0 }, { name := "HALTED", type := .int, accessFlags := 25, slot := 9, constantValue := 0 }, { name := "FAULT", type := .int, accessFlags := 25, slot := 10, constantValue := 0 }, { name := "REG_PC", type := .int, accessFlags := 25, slot := 11, constantValue := 0 }, { name := "REG_STEPS", type := .int, accessFlags := 25, slot := 12, constantValue := 0 }, { name := "REG_DEPTH", type := .int, accessFlags := 25, slot := 13, constantValue := 0 }, { name := "REG_STATUS", type := .int, accessFlags := 25, slot := 14, constantValue := 0 }, { name := "MAX_RUN", type := .int, accessFlags := 25, slot := 15, constantValue := 0 }, { name := "tick", type := .int, accessFlags := 2, slot := 0, constantValue := 0 }, { name := "width", type := .int, accessFlags := 2, slot := 1, constantValue := 0 }, { name := "cellOp", type := (.array .int), accessFlags := 18, slot := 2, constantValue := 0 }, { name := "cellA", type := (.array .int), accessFlags := 18, slot := 3, constantValue := 0 }, { name := "cellB", type := (.array .int), accessFlags := 18, slot := 4, constantValue := 0 }, { name := "reg", type := (.array .int), accessFlags := 18, slot := 5, constantValue := 0 }, { name := "pc", type := .int, accessFlags := 2, slot := 6, constantValue := 0 }, { name := "steps", type := .int, accessFlags := 2, slot := 7, constantValue := 0 }, { name := "depth", type := .int, accessFlags := 2, slot := 8, constantValue := 0 }, { name := "status", type := .int, accessFlags := 2, slot := 9, constantValue := 0 }, { name := "stack", type := (.array .int), accessFlags := 18, slot := 10, constantValue := 0 }, { name := "n", type := .int, accessFlags := 2, slot := 11, constantValue := 0 }, { name := "start", type := (.array .int), accessFlags := 18, slot := 12, constantValue := 0 }, { name := "arc", type := (.array .int), accessFlags := 18, slot := 13, constantValue := 0 }, { name := "bucket", type := (.array .int), accessFlags := 18, slot := 14, constantValue := 0 }, { name := "self", type := (.array .int), accessFlags := 18, slot := 15, constantValue := 0 }, { name := "reach", type := (.array .int), accessFlags := 18, slot := 16, constantValue := 0 }, { name := "comp", type := (.array .int), accessFlags := 18, slot := 17, constantValue := 0 }, { name := "root", type := (.array .boolean), accessFlags := 18, slot := 18, constantValue := 0 }, { name := "total", type := (.array .int), accessFlags := 18, slot := 19, constantValue := 0 }, { name := "ct", type := (.array .int), accessFlags := 18, slot := 20, constantValue := 0 }, { name := "share", type := (.array .int), accessFlags := 18, slot := 21, constantValue := 0 }, { name := "exP", type := (.array .int), accessFlags := 18, slot := 22, constantValue := 0 }, { name := "exQ", type := (.array .int), accessFlags := 18, slot := 23, constantValue := 0 }, { name := "exFirst", type := (.array .int), accessFlags := 18, slot := 24, constantValue := 0 }, { name := "exRem", type := (.array .long), accessFlags := 18, slot := 25, constantValue := 0 }, { name := "exCount", type := .int, accessFlags := 2, slot := 26, constantValue := 0 }, { name := "exSum", type := .long, accessFlags := 2, slot := 27, constantValue := 0 }]
  methods := #[k2m0, k2m1, k2m2, k2m3, k2m4, k2m5, k2m6]
  instanceTypes := #[.int, .int, (.array .int), (.array .int), (.array .int), (.array .int), .int, .int, .int, .int, (.array .int), .int, (.array .int), (.array .int), (.array .int), (.array .int), (.array .int), (.array .int), (.array .boolean), (.array .int), (.array .int), (.array .int), (.array .int), (.array .int), (.array .int), (.array .long), .int, .long]
  staticTypes := #[.int, .int, .int, .int, .int, .int, .int, .int, .int, .int, .int, .int, .int, .int, .int, .int]
  resolved := Array.replicate 227 none
  statics := none }

def pool3 : Array CpInfo := pool [(1, u "java/lang/Cloneable"), (0, .class_ 1), (0, u "java/lang/Object"), (0, .class_ 3)] 3

/-- java/lang/Cloneable -/
def k3 : Class := { plain "java/lang/Cloneable" (some 0) with
  accessFlags := 1537
  interfaces := #[]
  cf := some (fileOf pool3 2 #[] #[] 1537 4 #[] #[])
  fields := #[]
  methods := #[]
  instanceTypes := #[]
  staticTypes := #[]
  resolved := Array.replicate 8 none
  statics := none }

def pool4 : Array CpInfo := pool [(1, u "java/io/Serializable"), (0, .class_ 1), (0, u "java/lang/Object"), (0, .class_ 3)] 3

/-- java/io/Serializable -/
def k4 : Class := { plain "java/io/Serializable" (some 0) with
  accessFlags := 1537
  interfaces := #[]
  cf := some (fileOf pool4 2 #[] #[] 1537 4 #[] #[])
  fields := #[]
  methods := #[]
  instanceTypes := #[]
  staticTypes := #[]
  resolved := Array.replicate 8 none
  statics := none }

/-- the primitive boolean -/
def k5 : Class := { plain "boolean" none with kind := .primitive 'Z', accessFlags := 0x411 }
/-- [Z -/
def k6 : Class := { plain "[Z" (some 0) with kind := .array 5 .boolean, interfaces := #[3, 4], accessFlags := 1041 }

/-- the primitive byte -/
def k7 : Class := { plain "byte" none with kind := .primitive 'B', accessFlags := 0x411 }
/-- [B -/
def k8 : Class := { plain "[B" (some 0) with kind := .array 7 .byte, interfaces := #[3, 4], accessFlags := 1041 }

/-- the primitive int -/
def k9 : Class := { plain "int" none with kind := .primitive 'I', accessFlags := 0x411 }
/-- [I -/
def k10 : Class := { plain "[I" (some 0) with kind := .array 9 .int, interfaces := #[3, 4], accessFlags := 1041 }

/-- the primitive long -/
def k11 : Class := { plain "long" none with kind := .primitive 'J', accessFlags := 0x411 }
/-- [J -/
def k12 : Class := { plain "[J" (some 0) with kind := .array 11 .long, interfaces := #[3, 4], accessFlags := 1041 }

def heap : Heap := #[]
def classes : Array Class := #[k0, k1, k2, k3, k4, k5, k6, k7, k8, k9, k10, k11, k12]
def interned : List (Array UInt16 × Addr) := []
def slotsUsed : Nat := 0
def theMethod : MethodId := ⟨1, 1⟩
def args0 : Array Value := #[.int 3, .int 2, .int 1]
def aboutOver (below : List Frame) : State where
  vm := { classes := classes, interned := interned.toArray }
  heap := heap
  slotsUsed := slotsUsed
  threads := #[{ frames := .invoking theMethod args0 :: below }]
def below0 : List Frame := [.native { method := ⟨0, 0⟩, args := #[] }]
def about1 : State := aboutOver below0
def p0 : Program := .bare "" "" ""
def e0 : Env := launch0.env 0 0 0
theorem w_frames : about1.frames = Frame.invoking theMethod args0 :: below0 := rfl
set_option maxRecDepth 65536 in
theorem w_args : argsFit about1.vm theMethod args0 = true := by decide +kernel
set_option maxRecDepth 65536 in
theorem w_heap : heapFits about1 = true := by decide +kernel
set_option maxRecDepth 65536 in
theorem w_runnable : about1.curStatus? = some .runnable := by decide +kernel
set_option maxRecDepth 65536 in
theorem w_alone : about1.alone = true := by decide +kernel
set_option maxRecDepth 65536 in
theorem w_named : about1.methodNamed? x = some theMethod := by decide +kernel
set_option maxRecDepth 65536 in
theorem w_hears : about1.hears theMethod below0 = true := by decide +kernel
set_option maxRecDepth 65536 in
theorem w_ripe : about1.ripe theMethod args0 below0 = true := by decide +kernel
theorem w_running : about1.status = .running := rfl
set_option maxRecDepth 65536 in
theorem w_room : about1.hasRoom e0.platform room_1 = true :=
  launch0.hasRoom_least _ room_1 (by decide +kernel) (by decide +kernel) (by decide +kernel) (by decide +kernel) (by decide +kernel) (by decide +kernel)
theorem allAtoms_all (ts : List Jvm.Cond) (a : Array Jvm.Value) (st : Jvm.State) : (allAtoms ts).before a st = ts.all (fun c => c.before a st) := by
  induction ts with
  | nil => rfl
  | cons c t ih =>
    show (Jvm.Cond.and c (allAtoms t)).before a st = _
    rw [Jvm.Cond.before_and, ih, List.all_cons]
def words1 : List Jvm.Cond := Jvm.Cond.code x code maxLocals ret :: tables_1
/-- a 'code' word, met by the world's own term for the bytes: nothing is compared byte by byte -/
theorem code_word {y : MethodName} {bytes : ByteArray} {mx : Nat} {rt : Option FieldType} {a : Array Value} {s : State} {m : MethodId} {meth : Method} {c : Code} (h1 : s.methodNamed? y = some m) (h2 : s.vm.method? m = some meth) (h3 : meth.code = some c) (h4 : c.code = bytes)
    (h5 : (c.maxLocals == mx && c.exceptionTable.isEmpty && decide (c.maxStack ≤ mostOperands) && decide (meth.sig.returnType = rt) && !meth.locks && decide (parseMethodDescriptor y.desc = some meth.sig)) = true) : (Jvm.Cond.code y bytes mx rt).before a s = true := by
  simp only [Bool.and_eq_true, beq_iff_eq, Bool.not_eq_true', decide_eq_true_eq] at h5
  obtain ⟨⟨⟨⟨⟨g1, g2⟩, g3⟩, g4⟩, g5⟩, g6⟩ := h5
  simp [Cond.before, Cond.holds, Cond.value, h1, h2, h3, h4, g1, g2, g3, g4, g5, g6]
def isCode : Jvm.Cond → Bool
  | .code _ _ _ _ => true
  | _ => false
theorem all_split {L : List Jvm.Cond} {P : Jvm.Cond → Bool} (h1 : L.all (fun c => isCode c || P c) = true) (h2 : ∀ c ∈ L.filter isCode, P c = true) : L.all P = true := by
  refine List.all_eq_true.mpr fun c hc => ?_
  have h := List.all_eq_true.mp h1 c hc
  rcases Bool.eq_false_or_eq_true (isCode c) with hi | hi
  · exact h2 c (List.mem_filter.mpr ⟨hc, hi⟩)
  · simpa [hi] using h
set_option maxRecDepth 65536 in
theorem w_c0 : (Jvm.Cond.code x code maxLocals ret).before args0 about1 = true := code_word (m := ⟨1, 1⟩) (meth := k1m1) (c := k1c1) (by decide +kernel) rfl rfl rfl (by decide +kernel)
set_option maxRecDepth 65536 in
theorem w_c1 : (Jvm.Cond.code ({ cls := "CallGraphProf", name := "<init>", desc := "(II)V" } : Jvm.MethodName) prog_1_method_1_code (3 : Nat) (Option.none : Option Jvm.ClassFile.FieldType)).before args0 about1 = true := code_word (m := ⟨2, 0⟩) (meth := k2m0) (c := k2c0) (by decide +kernel) rfl rfl rfl (by decide +kernel)
set_option maxRecDepth 65536 in
theorem w_c2 : (Jvm.Cond.code ({ cls := "java/lang/Object", name := "<init>", desc := "()V" } : Jvm.MethodName) object_method_1_code (1 : Nat) (Option.none : Option Jvm.ClassFile.FieldType)).before args0 about1 = true := code_word (m := ⟨0, 0⟩) (meth := k0m0) (c := k0c0) (by decide +kernel) rfl rfl rfl (by decide +kernel)
set_option maxRecDepth 65536 in
theorem w_c3 : (Jvm.Cond.code ({ cls := "CallGraphProf", name := "clamp", desc := "(II)I" } : Jvm.MethodName) prog_1_method_2_code (2 : Nat) (Option.some Jvm.ClassFile.FieldType.int)).before args0 about1 = true := code_word (m := ⟨2, 1⟩) (meth := k2m1) (c := k2c1) (by decide +kernel) rfl rfl rfl (by decide +kernel)
set_option maxRecDepth 65536 in
theorem w_c4 : (Jvm.Cond.code ({ cls := "CallGraphProf", name := "run", desc := "(I)I" } : Jvm.MethodName) prog_1_method_6_code (4 : Nat) (Option.some Jvm.ClassFile.FieldType.int)).before args0 about1 = true := code_word (m := ⟨2, 2⟩) (meth := k2m2) (c := k2c2) (by decide +kernel) rfl rfl rfl (by decide +kernel)
set_option maxRecDepth 65536 in
theorem w_c5 : (Jvm.Cond.code ({ cls := "CallGraphProf", name := "step", desc := "()V" } : Jvm.MethodName) prog_1_method_7_code (3 : Nat) (Option.none : Option Jvm.ClassFile.FieldType)).before args0 about1 = true := code_word (m := ⟨2, 3⟩) (meth := k2m3) (c := k2c3) (by decide +kernel) rfl rfl rfl (by decide +kernel)
set_option maxRecDepth 65536 in
theorem w_c6 : (Jvm.Cond.code ({ cls := "CallGraphProf", name := "act", desc := "(III)V" } : Jvm.MethodName) prog_1_method_8_code (6 : Nat) (Option.none : Option Jvm.ClassFile.FieldType)).before args0 about1 = true := code_word (m := ⟨2, 4⟩) (meth := k2m4) (c := k2c4) (by decide +kernel) rfl rfl rfl (by decide +kernel)
set_option maxRecDepth 65536 in
theorem w_c7 : (Jvm.Cond.code ({ cls := "CallGraphProf", name := "getReg", desc := "(I)I" } : Jvm.MethodName) prog_1_method_12_code (2 : Nat) (Option.some Jvm.ClassFile.FieldType.int)).before args0 about1 = true := code_word (m := ⟨2, 5⟩) (meth := k2m5) (c := k2c5) (by decide +kernel) rfl rfl rfl (by decide +kernel)
set_option maxRecDepth 65536 in
theorem w_c8 : (Jvm.Cond.code ({ cls := "CallGraphProf", name := "getSamples", desc := "()I" } : Jvm.MethodName) prog_1_method_19_code (3 : Nat) (Option.some Jvm.ClassFile.FieldType.int)).before args0 about1 = true := code_word (m := ⟨2, 6⟩) (meth := k2m6) (c := k2c6) (by decide +kernel) rfl rfl rfl (by decide +kernel)
def codes1 : List Jvm.Cond := [Jvm.Cond.code x code maxLocals ret, Jvm.Cond.code ({ cls := "CallGraphProf", name := "<init>", desc := "(II)V" } : Jvm.MethodName) prog_1_method_1_code (3 : Nat) (Option.none : Option Jvm.ClassFile.FieldType), Jvm.Cond.code ({ cls := "java/lang/Object", name := "<init>", desc := "()V" } : Jvm.MethodName) object_method_1_code (1 : Nat) (Option.none : Option Jvm.ClassFile.FieldType), Jvm.Cond.code ({ cls := "CallGraphProf", name := "clamp", desc := "(II)I" } : Jvm.MethodName) prog_1_method_2_code (2 : Nat) (Option.some Jvm.ClassFile.FieldType.int), Jvm.Cond.code ({ cls := "CallGraphProf", name := "run", desc := "(I)I" } : Jvm.MethodName) prog_1_method_6_code (4 : Nat) (Option.some Jvm.ClassFile.FieldType.int), Jvm.Cond.code ({ cls := "CallGraphProf", name := "step", desc := "()V" } : Jvm.MethodName) prog_1_method_7_code (3 : Nat) (Option.none : Option Jvm.ClassFile.FieldType), Jvm.Cond.code ({ cls := "CallGraphProf", name := "act", desc := "(III)V" } : Jvm.MethodName) prog_1_method_8_code (6 : Nat) (Option.none : Option Jvm.ClassFile.FieldType), Jvm.Cond.code ({ cls := "CallGraphProf", name := "getReg", desc := "(I)I" } : Jvm.MethodName) prog_1_method_12_code (2 : Nat) (Option.some Jvm.ClassFile.FieldType.int), Jvm.Cond.code ({ cls := "CallGraphProf", name := "getSamples", desc := "()I" } : Jvm.MethodName) prog_1_method_19_code (3 : Nat) (Option.some Jvm.ClassFile.FieldType.int)]
set_option maxRecDepth 65536 in
theorem codes_eq : words1.filter isCode = codes1 := rfl
theorem w_codes : ∀ c ∈ words1.filter isCode, c.before args0 about1 = true := by
  rw [codes_eq]
  intro c hc
  simp only [codes1, List.mem_cons, List.not_mem_nil, or_false] at hc
  rcases hc with rfl | rfl | rfl | rfl | rfl | rfl | rfl | rfl | rfl
  · exact w_c0
  · exact w_c1
  · exact w_c2
  · exact w_c3
  · exact w_c4
  · exact w_c5
  · exact w_c6
  · exact w_c7
  · exact w_c8
set_option maxRecDepth 65536 in
theorem w_t1 : (words1.take 24).all (fun c => isCode c || c.before args0 about1) = true := by decide +kernel
set_option maxRecDepth 65536 in
theorem w_t2 : ((words1.drop 24).take 24).all (fun c => isCode c || c.before args0 about1) = true := by decide +kernel
set_option maxRecDepth 65536 in
theorem w_t3 : (((words1.drop 24).drop 24).take 24).all (fun c => isCode c || c.before args0 about1) = true := by decide +kernel
set_option maxRecDepth 65536 in
theorem w_t4 : (((words1.drop 24).drop 24).drop 24).all (fun c => isCode c || c.before args0 about1) = true := by decide +kernel
theorem w_tables : (allAtoms (Jvm.Cond.code x code maxLocals ret :: tables_1)).before args0 about1 = true := by
  rw [allAtoms_all]
  show words1.all (fun c => c.before args0 about1) = true
  refine all_split ?_ w_codes
  rw [← List.take_append_drop 24 words1, List.all_append, w_t1, ← List.take_append_drop 24 (words1.drop 24), List.all_append, w_t2, ← List.take_append_drop 24 ((words1.drop 24).drop 24), List.all_append, w_t3, w_t4]
  rfl
set_option maxRecDepth 65536 in
theorem w_case : (Jvm.Cond.and given_1 narrow_1).before args0 about1 = true := by decide +kernel
theorem w_applies : (headSpec (Jvm.Cond.code x code maxLocals ret :: tables_1) room_1).applies x e0.platform about1 = true :=
  (Spec.applies_iff w_frames).mpr ⟨w_running, w_runnable, w_alone, w_named, w_hears, w_ripe, w_room, w_tables⟩
theorem atStart : AtStart classFile x code maxLocals ret World_1 tables_1 room_1 Calls_1 rest_1 Pre_1 launch0 p0 e0 about1 theMethod args0 below0 :=
  ⟨lists_1, trivial, launch0.admits_env _ _ _, launch0.least_env, fairChoices_fair.cas, fairChoices_fair.clock, w_frames, w_args, w_heap, w_applies, trivial, trivial, w_case⟩
end start1
theorem witness_1 : WitnessClaimed_1 := ⟨start1.p0, start1.e0, start1.about1, start1.theMethod, start1.args0, start1.below0, start1.atStart⟩
end Jvm.Pilot.@@N@@
