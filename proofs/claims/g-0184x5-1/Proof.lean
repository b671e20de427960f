import JvmDerived
import JvmDerived.Pilot.@@N@@Statement
import JvmDerived.Pilot.@@N@@Code
set_option linter.unusedVariables false
set_option linter.unusedSimpArgs false
namespace Jvm.RoadKit
open Sem ClassFile Op Lib Jvm.Stand Jvm.Free Jvm.LawKit
section New
variable {p : Program} {l : Launch} {e : Env} {R : Room} {s : State} {m : MethodId} {args : Array Value} {below : List Frame} {meth : Method} {c : Code} {T : State} {locs : List Loc} {cells slots : Nat}
theorem retI (X : Stand p l e R s m args below meth c T locs cells slots) (hx : p.tables.exec = Jvm.exec) {pc : Nat} {Ls : Array Slot} {z : Int32} {rest : List Value} (hret : meth.sig.returnType = some .int) (hd : decode c.code pc = .ok (.ireturn, 1)) {fs : List Frame}
    (hl : ∀ (f : JFrame) (acts : List Action), f.method = m → f.locked = none → f.entered = [] → (doReturn e (T.setTop f) acts (some (.int z))).1 = T.setFrames fs) : Steps p.tables e below (T.setTop (mkF m pc Ls (.int z :: rest))) (T.setFrames fs) := by
  have hm' : T.vm.method? m = some meth := X.method'
  have hn : narrow .int (.int z) = .int z := rfl
  show Steps p.tables e below (T.setTop { method := m, pc := pc, locals := Ls, stack := _ :: rest, locked := none }) _
  jvm_step X.here [X.here.top, hx, hd, hm', hret, hn]
  first | (intro acts; rw [hl _ acts rfl rfl rfl]) | rw [hl _ _ rfl rfl rfl]
  exact Steps.refl _
end New
end Jvm.RoadKit
namespace Jvm.Own
open Jvm Jvm.ClassFile Sem Op Lib Jvm.Free Jvm.Stand Jvm.LawKit Jvm.RoadKit
/-! ## 1. Local variables: what the walk knows of them (L) and what they are (r) -/
def rv (ρ : Nat → Addr) : Value → Value
  | .ref k => .ref (ρ k)
  | .int x => .int x
  | .long x => .long x
  | .float x => .float x
  | .double x => .double x
  | .null => .null
  | .retAddr x => .retAddr x
def rs (ρ : Nat → Addr) : Slot → Slot
  | .val v => .val (rv ρ v)
  | .unset => .unset
  | .second => .second
theorem rv_cat (ρ : Nat → Addr) (v : Value) : (rv ρ v).category = v.category := by cases v <;> rfl
def WR (f : Nat → Option Slot) : Prop := (∀ i v, f i = some (.val v) → v.category = 2 → f (i + 1) = some .second) ∧ (∀ i, f i = some .second → ∃ j v, i = j + 1 ∧ f j = some (.val v) ∧ v.category = 2)
def up (f : Nat → Option Slot) (i : Nat) (x : Slot) : Nat → Option Slot := fun k => if k = i then some x else f k
def C1 (s : Option Slot) : Prop := s = some .unset ∨ ∃ w, s = some (.val w) ∧ w.category = 1
theorem C1.not2 {s : Option Slot} (h : C1 s) : s ≠ some .second ∧ ∀ v, s = some (.val v) → v.category ≠ 2 := by
  rcases h with rfl | ⟨w, rfl, h⟩
  · exact ⟨nofun, nofun⟩
  · exact ⟨nofun, fun v e q => by cases e; omega⟩
theorem up_at (f : Nat → Option Slot) (i : Nat) (x : Slot) : up f i x i = some x := by simp [up]
theorem up_ne (f : Nat → Option Slot) {i k : Nat} (x : Slot) (h : k ≠ i) : up f i x k = f k := by simp [up, h]
theorem WR.one {f : Nat → Option Slot} {i : Nat} {x : Slot} (h : WR f) (hi : C1 (f i)) (hx : C1 (some x)) : WR (up f i x) := by
  obtain ⟨n1, n2⟩ := hi.not2
  obtain ⟨m1, m2⟩ := hx.not2
  constructor
  · intro k v hk hv
    by_cases e : k = i
    · subst e; rw [up_at] at hk; exact absurd hv (m2 v hk)
    · rw [up_ne _ _ e] at hk
      have q := h.1 k v hk hv
      by_cases e2 : k + 1 = i
      · rw [e2] at q; exact absurd q n1
      · rw [up_ne _ _ e2]; exact q
  · intro k hk
    by_cases e : k = i
    · subst e; rw [up_at] at hk; exact absurd hk m1
    · rw [up_ne _ _ e] at hk
      obtain ⟨j, v, e1, e2, e3⟩ := h.2 k hk
      refine ⟨j, v, e1, ?_, e3⟩
      by_cases e4 : j = i
      · rw [e4] at e2; exact absurd e3 (n2 v e2)
      · rw [up_ne _ _ e4]; exact e2
theorem WR.clr {f : Nat → Option Slot} {j : Nat} {v : Value} (h : WR f) (hj : f j = some (.val v)) (hv : v.category = 2) : WR (up (up f j .unset) (j + 1) .unset) := by
  have q := h.1 j v hj hv
  constructor
  · intro k w hk hw
    by_cases e : k = j + 1
    · subst e; rw [up_at] at hk; cases hk
    · rw [up_ne _ _ e] at hk
      by_cases e2 : k = j
      · subst e2; rw [up_at] at hk; cases hk
      · rw [up_ne _ _ e2] at hk
        have q2 := h.1 k w hk hw
        by_cases e3 : k + 1 = j
        · rw [e3] at q2; rw [hj] at q2; cases q2
        · rw [up_ne _ _ (show k + 1 ≠ j + 1 by omega), up_ne _ _ e3]; exact q2
  · intro k hk
    by_cases e : k = j + 1
    · subst e; rw [up_at] at hk; cases hk
    · rw [up_ne _ _ e] at hk
      by_cases e2 : k = j
      · subst e2; rw [up_at] at hk; cases hk
      · rw [up_ne _ _ e2] at hk
        obtain ⟨i, w, e3, e4, e5⟩ := h.2 k hk
        refine ⟨i, w, e3, ?_, e5⟩
        by_cases e6 : i = j + 1
        · rw [e6, q] at e4; cases e4
        · rw [up_ne _ _ e6, up_ne _ _ (show i ≠ j by omega)]; exact e4
theorem WR.two {f : Nat → Option Slot} {i : Nat} {v : Value} (h : WR f) (h1 : C1 (f i)) (h2 : C1 (f (i + 1))) (hv : v.category = 2) : WR (up (up f i (.val v)) (i + 1) .second) := by
  obtain ⟨n1, n2⟩ := h1.not2
  obtain ⟨m1, m2⟩ := h2.not2
  constructor
  · intro k w hk hw
    by_cases e : k = i + 1
    · subst e; rw [up_at] at hk; cases hk
    · rw [up_ne _ _ e] at hk
      by_cases e2 : k = i
      · subst e2; exact up_at _ _ _
      · rw [up_ne _ _ e2] at hk
        have q := h.1 k w hk hw
        by_cases e3 : k + 1 = i
        · rw [e3] at q; exact absurd q n1
        · rw [up_ne _ _ (show k + 1 ≠ i + 1 by omega), up_ne _ _ e3]; exact q
  · intro k hk
    by_cases e : k = i + 1
    · exact ⟨i, v, e, by rw [up_ne _ _ (show i ≠ i + 1 by omega), up_at], hv⟩
    · rw [up_ne _ _ e] at hk
      by_cases e2 : k = i
      · subst e2; rw [up_at] at hk; cases hk
      · rw [up_ne _ _ e2] at hk
        obtain ⟨j, w, e3, e4, e5⟩ := h.2 k hk
        refine ⟨j, w, e3, ?_, e5⟩
        by_cases e6 : j = i + 1
        · rw [e6] at e4; exact absurd e5 (m2 w e4)
        · by_cases e7 : j = i
          · omega
          · rw [up_ne _ _ e6, up_ne _ _ e7]; exact e4
theorem up_arr {r : Array Slot} {i : Nat} (hi : i < r.size) (x : Slot) : (fun k => (r.setIfInBounds i x)[k]?) = up (fun k => r[k]?) i x := by
  funext k
  show (r.setIfInBounds i x)[k]? = _
  rw [Array.getElem?_setIfInBounds]
  by_cases e : i = k
  · subst e; simp [up, hi]
  · rw [if_neg e, up_ne _ _ (Ne.symm e)]
theorem up_lst {L : List Slot} {i : Nat} (hi : i < L.length) (x : Slot) : (fun k => (L.set i x)[k]?) = up (fun k => L[k]?) i x := by
  funext k
  show (L.set i x)[k]? = _
  rw [List.getElem?_set]
  by_cases e : i = k
  · subst e; simp [up, hi]
  · rw [if_neg e, up_ne _ _ (Ne.symm e)]
def SR (ρ : Nat → Addr) (L : List Slot) (r : Array Slot) : Prop :=
  r.size = L.length ∧ (∀ (i : Nat) (v : Value), L[i]? = some (.val v) → r[i]? = some (.val (rv ρ v))) ∧ (∀ (i : Nat), L[i]? = some .second → r[i]? = some .second) ∧ WR (fun k => L[k]?) ∧ WR (fun k => r[k]?)
theorem SR.get {ρ : Nat → Addr} {L : List Slot} {r : Array Slot} (h : SR ρ L r) {i : Nat} {v : Value} (e : L[i]? = some (.val v)) : r[i]? = some (.val (rv ρ v)) := h.2.1 i v e
/-- a store of one word over nothing or one word -/
theorem SR.st1 {ρ : Nat → Addr} {L : List Slot} {r : Array Slot} {i : Nat} {v : Value} (h : SR ρ L r) (ho : C1 L[i]?) (hv : v.category = 1) :
    ∃ r', storeLocals r i (rv ρ v) = some r' ∧ SR ρ (L.set i (.val v)) r' := by
  obtain ⟨h1, h2, h3, h4, h5⟩ := h
  have hi : i < L.length := by
    rcases ho with h | ⟨w, h, -⟩ <;> exact (List.getElem?_eq_some_iff.mp h).1
  have hir : i < r.size := by omega
  have hcv : (rv ρ v).category = 1 := by rw [rv_cat]; exact hv
  have hcx : C1 (some (Slot.val (rv ρ v))) := Or.inr ⟨_, rfl, hcv⟩
  obtain ⟨n1, n2⟩ := ho.not2
  have fin : ∀ r' : Array Slot, r'.size = r.size → WR (fun k => r'[k]?) → r'[i]? = some (.val (rv ρ v)) → (∀ k, k ≠ i → r'[k]? = r[k]? ∨ ∀ s, L[k]? = some s → s = .unset) → SR ρ (L.set i (.val v)) r' := by
    intro r' a1 a2 a3 a4
    refine ⟨by rw [a1, h1, List.length_set], ?_, ?_, by rw [up_lst hi]; exact h4.one ho (Or.inr ⟨v, rfl, hv⟩), a2⟩
    · intro k w hk
      rw [List.getElem?_set] at hk
      by_cases e : i = k
      · subst e; simp [hi] at hk; subst hk; exact a3
      · rw [if_neg e] at hk
        rcases a4 k (Ne.symm e) with q | q
        · rw [q]; exact h2 k w hk
        · cases q _ hk
    · intro k hk
      rw [List.getElem?_set] at hk
      by_cases e : i = k
      · subst e; simp [hi] at hk
      · rw [if_neg e] at hk
        rcases a4 k (Ne.symm e) with q | q
        · rw [q]; exact h3 k hk
        · cases q _ hk
  obtain ⟨q, hq⟩ : ∃ q, r[i]? = some q := ⟨_, Array.getElem?_eq_getElem hir⟩
  have plain : C1 (r[i]?) → ∃ r', storeLocals r i (rv ρ v) = some r' ∧ SR ρ (L.set i (.val v)) r' := by
    intro hC
    have hs : storeLocals r i (rv ρ v) = some (r.setIfInBounds i (.val (rv ρ v))) := by
      rcases hC with e | ⟨w, e, hw⟩
      · exact XS.store1 e (Or.inl rfl) hcv
      · exact XS.store1 e (Or.inr ⟨w, rfl, hw⟩) hcv
    refine ⟨_, hs, fin _ (by simp) (by rw [up_arr hir]; exact h5.one hC hcx) (by simp [hir]) ?_⟩
    intro k hk
    exact Or.inl (Array.getElem?_setIfInBounds_ne (Ne.symm hk))
  cases q with
  | unset => exact plain (Or.inl hq)
  | val w =>
    by_cases hw : w.category = 2
    · have q2 := h5.1 i w hq hw
      have hj : i + 1 < r.size := (Array.getElem?_eq_some_iff.mp q2).1
      have Lu : ∀ k, (k = i ∨ k = i + 1) → ∀ s, L[k]? = some s → s = .unset := by
        intro k hk s hs
        cases s with
        | unset => rfl
        | second =>
          rcases hk with rfl | rfl
          · exact absurd hs n1
          · obtain ⟨j, u, e1, e2, e3⟩ := h4.2 _ hs
            have : j = i := by omega
            subst this
            exact absurd e3 (n2 u e2)
        | val u =>
          rcases hk with rfl | rfl
          · have := h2 _ _ hs
            rw [hq] at this
            cases this
            rw [rv_cat] at hw
            exact absurd hw (n2 u hs)
          · have := h2 _ _ hs
            have q3 : r[i + 1]? = some .second := q2
            rw [q3] at this; cases this
      have hs : storeLocals r i (rv ρ v) = some ((r.setIfInBounds (i + 1) .unset).setIfInBounds i (.val (rv ρ v))) := by
        simp [storeLocals, storeSelf, setAt, hq, (Array.getElem?_eq_some_iff.mp hq).2, hw, hj, hir, hcv]
      refine ⟨_, hs, fin _ (by simp) ?_ (by simp [hir]) ?_⟩
      · have e : (fun k => ((r.setIfInBounds (i + 1) .unset).setIfInBounds i (.val (rv ρ v)))[k]?) = up (up (up (fun k => r[k]?) i .unset) (i + 1) .unset) i (.val (rv ρ v)) := by
          rw [up_arr (by simpa using hir), up_arr hj]
          funext k
          simp only [up]
          by_cases e : k = i
          · simp [e]
          · simp [e]
        rw [e]
        exact (h5.clr hq hw).one (Or.inl (by simp [up])) hcx
      · intro k hk
        by_cases e : k = i + 1
        · exact Or.inr (Lu k (Or.inr e))
        · left
          rw [Array.getElem?_setIfInBounds_ne (Ne.symm hk), Array.getElem?_setIfInBounds_ne (Ne.symm e)]
    · refine plain (Or.inr ⟨w, hq, ?_⟩)
      cases w <;> simp [Value.category] at hw ⊢
  | second =>
    obtain ⟨j, u, e1, e2, e3⟩ := h5.2 i hq
    subst e1
    have e2' : r[j]? = some (.val u) := e2
    have hj : j < r.size := by omega
    have Lu : ∀ s, L[j]? = some s → s = .unset := by
      intro s hs
      cases s with
      | unset => rfl
      | second => have := h3 _ hs; rw [e2'] at this; cases this
      | val w =>
        have := h2 _ _ hs
        rw [e2'] at this
        cases this
        rw [rv_cat] at e3
        exact absurd (h4.1 j w hs e3) n1
    have hs : storeLocals r (j + 1) (rv ρ v) = some ((r.setIfInBounds j .unset).setIfInBounds (j + 1) (.val (rv ρ v))) := by
      simp [storeLocals, storeSelf, setAt, hq, (Array.getElem?_eq_some_iff.mp hq).2, hj, hir, hcv]
    refine ⟨_, hs, fin _ (by simp) ?_ (by simp [hir]) ?_⟩
    · have e : (fun k => ((r.setIfInBounds j .unset).setIfInBounds (j + 1) (.val (rv ρ v)))[k]?) = up (up (up (fun k => r[k]?) j .unset) (j + 1) .unset) (j + 1) (.val (rv ρ v)) := by
        rw [up_arr (by simpa using hir), up_arr hj]
        funext k
        simp only [up]
        by_cases e : k = j + 1
        · simp [e]
        · simp [e]
      rw [e]
      exact (h5.clr e2 e3).one (Or.inl (by simp [up])) hcx
    · intro k hk
      by_cases e : k = j
      · subst e; exact Or.inr Lu
      · left
        rw [Array.getElem?_setIfInBounds_ne (Ne.symm hk), Array.getElem?_setIfInBounds_ne (Ne.symm e)]
end Jvm.Own

namespace Jvm.Own
open Jvm Jvm.ClassFile Sem Op Lib Jvm.Free Jvm.Stand Jvm.LawKit Jvm.RoadKit
theorem cat12 (w : Value) (h : ¬ w.category = 2) : w.category = 1 := by cases w <;> simp [Value.category] at h ⊢
theorem getset_ne {r : Array Slot} {i k : Nat} {x t : Slot} (h : r[k]? = some t) (ne : i ≠ k) (hk : k < (r.setIfInBounds i x).size) : (r.setIfInBounds i x)[k] = t := by
  have q : (r.setIfInBounds i x)[k]? = some t := by rw [Array.getElem?_setIfInBounds_ne ne]; exact h
  exact (Array.getElem?_eq_some_iff.mp q).2
/-- a store of two words over nothing or single words -/
theorem SR.st2 {ρ : Nat → Addr} {L : List Slot} {r : Array Slot} {i : Nat} {v : Value} (h : SR ρ L r) (ho : C1 L[i]?) (ho' : C1 L[i + 1]?) (hv : v.category = 2) :
    ∃ r', storeLocals r i (rv ρ v) = some r' ∧ SR ρ ((L.set i (.val v)).set (i + 1) .second) r' := by
  obtain ⟨h1, h2, h3, h4, h5⟩ := h
  have hi : i + 1 < L.length := by
    rcases ho' with h | ⟨w, h, -⟩ <;> exact (List.getElem?_eq_some_iff.mp h).1
  have hir1 : i + 1 < r.size := by omega
  have hir : i < r.size := by omega
  have hcv : (rv ρ v).category = 2 := by rw [rv_cat]; exact hv
  obtain ⟨n1, n2⟩ := ho.not2
  obtain ⟨m1, m2⟩ := ho'.not2
  have nr : ∀ w, r[i]? = some (.val w) → ∀ u, L[i]? = some (.val u) → w.category = 2 → False := by
    intro w hw u hu hc
    have := h2 _ _ hu
    rw [hw] at this; cases this
    rw [rv_cat] at hc
    exact n2 u hu hc
  have fin : ∀ r' : Array Slot, r'.size = r.size → WR (fun k => r'[k]?) → r'[i]? = some (.val (rv ρ v)) → r'[i + 1]? = some .second → (∀ k, k ≠ i → k ≠ i + 1 → r'[k]? = r[k]? ∨ ∀ s, L[k]? = some s → s = .unset) → SR ρ ((L.set i (.val v)).set (i + 1) .second) r' := by
    intro r' a1 a2 a3 a3' a4
    refine ⟨by rw [a1, h1]; simp, ?_, ?_, by rw [up_lst (by simpa using hi), up_lst (by omega)]; exact h4.two ho ho' hv, a2⟩
    · intro k w hk
      rw [List.getElem?_set] at hk
      by_cases e : i + 1 = k
      · subst e; simp [hi] at hk
      · rw [if_neg e, List.getElem?_set] at hk
        by_cases e2 : i = k
        · subst e2; simp [show i < L.length by omega] at hk; subst hk; exact a3
        · rw [if_neg e2] at hk
          rcases a4 k (Ne.symm e2) (Ne.symm e) with q | q
          · rw [q]; exact h2 k w hk
          · cases q _ hk
    · intro k hk
      rw [List.getElem?_set] at hk
      by_cases e : i + 1 = k
      · subst e; exact a3'
      · rw [if_neg e, List.getElem?_set] at hk
        by_cases e2 : i = k
        · subst e2; simp [show i < L.length by omega] at hk
        · rw [if_neg e2] at hk
          rcases a4 k (Ne.symm e2) (Ne.symm e) with q | q
          · rw [q]; exact h3 k hk
          · cases q _ hk
  have Lun2 : ∀ u, r[i + 1]? = some (.val u) → u.category = 2 → ∀ s, L[i + 2]? = some s → s = .unset := by
    intro u hu hc s hs
    have q2 : r[i + 2]? = some .second := h5.1 (i + 1) u hu hc
    cases s with
    | unset => rfl
    | second =>
      obtain ⟨j, w, e1, e2, e3⟩ := h4.2 _ hs
      have : j = i + 1 := by omega
      subst this
      exact absurd e3 (m2 w e2)
    | val w => have := h2 _ _ hs; rw [q2] at this; cases this
  obtain ⟨q, hq⟩ : ∃ q, r[i]? = some q := ⟨_, Array.getElem?_eq_getElem hir⟩
  obtain ⟨q1, hq1⟩ : ∃ q, r[i + 1]? = some q := ⟨_, Array.getElem?_eq_getElem hir1⟩
  have ne1 : i + 1 ≠ i := by omega
  cases q with
  | unset =>
    have hC : C1 (r[i]?) := Or.inl hq
    cases q1 with
    | unset =>
      refine ⟨(r.setIfInBounds i (.val (rv ρ v))).setIfInBounds (i + 1) .second, by simp [storeLocals, storeSelf, setAt, hq, (Array.getElem?_eq_some_iff.mp hq).2, hq1, (Array.getElem?_eq_some_iff.mp hq1).2, hir, hir1, hcv, Array.getElem?_setIfInBounds], fin _ (by simp) ?_ (by simp [hir, Array.getElem?_setIfInBounds]) (by simp [hir1]) ?_⟩
      · rw [up_arr (by simpa using hir1), up_arr hir]; exact h5.two hC (Or.inl hq1) hcv
      · intro k a b; left; rw [Array.getElem?_setIfInBounds_ne (Ne.symm b), Array.getElem?_setIfInBounds_ne (Ne.symm a)]
    | second => obtain ⟨j, w, e1, e2, e3⟩ := h5.2 _ hq1; have : j = i := by omega
                subst this; have e2' : r[j]? = some (.val w) := e2; rw [hq] at e2'; cases e2'
    | val u =>
      by_cases hu : u.category = 2
      · have q2 : r[i + 2]? = some .second := h5.1 (i + 1) u hq1 hu
        have hi2 : i + 2 < r.size := (Array.getElem?_eq_some_iff.mp q2).1
        refine ⟨((r.setIfInBounds i (.val (rv ρ v))).setIfInBounds (i + 2) .unset).setIfInBounds (i + 1) .second, by simp [storeLocals, storeSelf, setAt, hq, (Array.getElem?_eq_some_iff.mp hq).2, hq1, (Array.getElem?_eq_some_iff.mp hq1).2, hir, hir1, hi2, hcv, hu, Array.getElem?_setIfInBounds], fin _ (by simp) ?_ (by simp [hir, Array.getElem?_setIfInBounds]) (by simp [hir1]) ?_⟩
        · have e : (fun k => (((r.setIfInBounds i (.val (rv ρ v))).setIfInBounds (i + 2) .unset).setIfInBounds (i + 1) .second)[k]?) = up (up (up (up (fun k => r[k]?) (i + 1) .unset) (i + 2) .unset) i (.val (rv ρ v))) (i + 1) .second := by
            rw [up_arr (by simpa using hir1), up_arr (by simpa using hi2), up_arr hir]
            funext k
            simp only [up]
            by_cases e : k = i + 1
            · simp [e]
            · by_cases e2 : k = i
              · simp [e2]
              · simp [e, e2]
          rw [e]
          exact (h5.clr hq1 hu).two (Or.inl (by simp [up, hq] <;> omega)) (Or.inl (by simp [up] <;> omega)) hcv
        · intro k a b
          by_cases e : k = i + 2
          · subst e; exact Or.inr (Lun2 u hq1 hu)
          · left; rw [Array.getElem?_setIfInBounds_ne (Ne.symm b), Array.getElem?_setIfInBounds_ne (Ne.symm e), Array.getElem?_setIfInBounds_ne (Ne.symm a)]
      · refine ⟨(r.setIfInBounds i (.val (rv ρ v))).setIfInBounds (i + 1) .second, by simp [storeLocals, storeSelf, setAt, hq, (Array.getElem?_eq_some_iff.mp hq).2, hq1, (Array.getElem?_eq_some_iff.mp hq1).2, hir, hir1, hcv, hu, Array.getElem?_setIfInBounds], fin _ (by simp) ?_ (by simp [hir, Array.getElem?_setIfInBounds]) (by simp [hir1]) ?_⟩
        · rw [up_arr (by simpa using hir1), up_arr hir]; exact h5.two hC (Or.inr ⟨u, hq1, cat12 u hu⟩) hcv
        · intro k a b; left; rw [Array.getElem?_setIfInBounds_ne (Ne.symm b), Array.getElem?_setIfInBounds_ne (Ne.symm a)]
  | val w =>
    by_cases hw : w.category = 2
    · have q2 : r[i + 1]? = some .second := h5.1 i w hq hw
      have Lu : ∀ s, L[i]? = some s → s = .unset := by
        intro s hs
        cases s with
        | unset => rfl
        | second => exact absurd hs n1
        | val u => exact (nr w hq u hs hw).elim
      refine ⟨((r.setIfInBounds (i + 1) .unset).setIfInBounds i (.val (rv ρ v))).setIfInBounds (i + 1) .second, by simp [storeLocals, storeSelf, setAt, hq, (Array.getElem?_eq_some_iff.mp hq).2, hw, hir, hir1, hcv, Array.getElem?_setIfInBounds], fin _ (by simp) ?_ (by simp [hir, Array.getElem?_setIfInBounds]) (by simp [hir1]) ?_⟩
      · have e : (fun k => (((r.setIfInBounds (i + 1) .unset).setIfInBounds i (.val (rv ρ v))).setIfInBounds (i + 1) .second)[k]?) = up (up (up (up (fun k => r[k]?) i .unset) (i + 1) .unset) i (.val (rv ρ v))) (i + 1) .second := by
          rw [up_arr (by simpa using hir1), up_arr (by simpa using hir), up_arr hir1]
          funext k
          simp only [up]
          by_cases e : k = i + 1
          · simp [e]
          · by_cases e2 : k = i
            · simp [e2]
            · simp [e, e2]
        rw [e]
        exact (h5.clr hq hw).two (Or.inl (by simp [up] <;> omega)) (Or.inl (by simp [up] <;> omega)) hcv
      · intro k a b
        left; rw [Array.getElem?_setIfInBounds_ne (Ne.symm b), Array.getElem?_setIfInBounds_ne (Ne.symm a), Array.getElem?_setIfInBounds_ne (Ne.symm b)]
    · have hC : C1 (r[i]?) := Or.inr ⟨w, hq, cat12 w hw⟩
      cases q1 with
      | unset =>
        refine ⟨(r.setIfInBounds i (.val (rv ρ v))).setIfInBounds (i + 1) .second, by simp [storeLocals, storeSelf, setAt, hq, (Array.getElem?_eq_some_iff.mp hq).2, hq1, (Array.getElem?_eq_some_iff.mp hq1).2, hw, hir, hir1, hcv, Array.getElem?_setIfInBounds], fin _ (by simp) ?_ (by simp [hir, Array.getElem?_setIfInBounds]) (by simp [hir1]) ?_⟩
        · rw [up_arr (by simpa using hir1), up_arr hir]; exact h5.two hC (Or.inl hq1) hcv
        · intro k a b; left; rw [Array.getElem?_setIfInBounds_ne (Ne.symm b), Array.getElem?_setIfInBounds_ne (Ne.symm a)]
      | second => obtain ⟨j, u, e1, e2, e3⟩ := h5.2 _ hq1; have : j = i := by omega
                  subst this; have e2' : r[j]? = some (.val u) := e2; rw [hq] at e2'; cases e2'; exact absurd e3 hw
      | val u =>
        by_cases hu : u.category = 2
        · have q2 : r[i + 2]? = some .second := h5.1 (i + 1) u hq1 hu
          have hi2 : i + 2 < r.size := (Array.getElem?_eq_some_iff.mp q2).1
          refine ⟨((r.setIfInBounds i (.val (rv ρ v))).setIfInBounds (i + 2) .unset).setIfInBounds (i + 1) .second, by simp [storeLocals, storeSelf, setAt, hq, (Array.getElem?_eq_some_iff.mp hq).2, hq1, (Array.getElem?_eq_some_iff.mp hq1).2, hw, hir, hir1, hi2, hcv, hu, Array.getElem?_setIfInBounds], fin _ (by simp) ?_ (by simp [hir, Array.getElem?_setIfInBounds]) (by simp [hir1]) ?_⟩
          · have e : (fun k => (((r.setIfInBounds i (.val (rv ρ v))).setIfInBounds (i + 2) .unset).setIfInBounds (i + 1) .second)[k]?) = up (up (up (up (fun k => r[k]?) (i + 1) .unset) (i + 2) .unset) i (.val (rv ρ v))) (i + 1) .second := by
              rw [up_arr (by simpa using hir1), up_arr (by simpa using hi2), up_arr hir]
              funext k
              simp only [up]
              by_cases e : k = i + 1
              · simp [e]
              · by_cases e2 : k = i
                · simp [e2]
                · simp [e, e2]
            rw [e]
            exact (h5.clr hq1 hu).two (Or.inr ⟨w, by simp [up, hq] <;> omega, cat12 w hw⟩) (Or.inl (by simp [up] <;> omega)) hcv
          · intro k a b
            by_cases e : k = i + 2
            · subst e; exact Or.inr (Lun2 u hq1 hu)
            · left; rw [Array.getElem?_setIfInBounds_ne (Ne.symm b), Array.getElem?_setIfInBounds_ne (Ne.symm e), Array.getElem?_setIfInBounds_ne (Ne.symm a)]
        · refine ⟨(r.setIfInBounds i (.val (rv ρ v))).setIfInBounds (i + 1) .second, by simp [storeLocals, storeSelf, setAt, hq, (Array.getElem?_eq_some_iff.mp hq).2, hq1, (Array.getElem?_eq_some_iff.mp hq1).2, hw, hir, hir1, hcv, hu, Array.getElem?_setIfInBounds], fin _ (by simp) ?_ (by simp [hir, Array.getElem?_setIfInBounds]) (by simp [hir1]) ?_⟩
          · rw [up_arr (by simpa using hir1), up_arr hir]; exact h5.two hC (Or.inr ⟨u, hq1, cat12 u hu⟩) hcv
          · intro k a b; left; rw [Array.getElem?_setIfInBounds_ne (Ne.symm b), Array.getElem?_setIfInBounds_ne (Ne.symm a)]
  | second =>
    obtain ⟨j, y, e1, e2, e3⟩ := h5.2 i hq
    subst e1
    have e2' : r[j]? = some (.val y) := e2
    have hj : j < r.size := by omega
    have Lu : ∀ s, L[j]? = some s → s = .unset := by
      intro s hs
      cases s with
      | unset => rfl
      | second => have := h3 _ hs; rw [e2'] at this; cases this
      | val w =>
        have := h2 _ _ hs
        rw [e2'] at this
        cases this
        rw [rv_cat] at e3
        exact absurd (h4.1 j w hs e3) n1
    have W5 := h5.clr e2 e3
    cases q1 with
    | unset =>
      refine ⟨((r.setIfInBounds j .unset).setIfInBounds (j + 1) (.val (rv ρ v))).setIfInBounds (j + 1 + 1) .second, by simp [storeLocals, storeSelf, setAt, hq, (Array.getElem?_eq_some_iff.mp hq).2, hq1, (Array.getElem?_eq_some_iff.mp hq1).2, getset_ne hq1 (show j ≠ j + 1 + 1 by omega), hj, hir, hir1, hcv, Array.getElem?_setIfInBounds], fin _ (by simp) ?_ (by simp [hir, Array.getElem?_setIfInBounds]) (by simp [hir1]) ?_⟩
      · have e : (fun k => (((r.setIfInBounds j .unset).setIfInBounds (j + 1) (.val (rv ρ v))).setIfInBounds (j + 1 + 1) .second)[k]?) = up (up (up (up (fun k => r[k]?) j .unset) (j + 1) .unset) (j + 1) (.val (rv ρ v))) (j + 1 + 1) .second := by
          rw [up_arr (by simpa using hir1), up_arr (by simpa using hir), up_arr hj]
          funext k
          simp only [up]
          by_cases e : k = j + 1 + 1
          · simp [e]
          · by_cases e2 : k = j + 1
            · simp [e2]
            · simp [e, e2]
        rw [e]
        exact W5.two (Or.inl (by simp [up] <;> omega)) (Or.inl (by simp [up, hq1] <;> omega)) hcv
      · intro k a b
        by_cases e : k = j
        · subst e; exact Or.inr Lu
        · left; rw [Array.getElem?_setIfInBounds_ne (Ne.symm b), Array.getElem?_setIfInBounds_ne (Ne.symm a), Array.getElem?_setIfInBounds_ne (Ne.symm e)]
    | second => obtain ⟨k, w, f1, f2, f3⟩ := h5.2 _ hq1; have : k = j + 1 := by omega
                subst this; have f2' : r[j + 1]? = some (.val w) := f2; rw [hq] at f2'; cases f2'
    | val u =>
      by_cases hu : u.category = 2
      · have q2 : r[j + 1 + 2]? = some .second := h5.1 (j + 1 + 1) u hq1 hu
        have hi2 : j + 1 + 2 < r.size := (Array.getElem?_eq_some_iff.mp q2).1
        refine ⟨(((r.setIfInBounds j .unset).setIfInBounds (j + 1) (.val (rv ρ v))).setIfInBounds (j + 1 + 2) .unset).setIfInBounds (j + 1 + 1) .second, by simp [storeLocals, storeSelf, setAt, hq, (Array.getElem?_eq_some_iff.mp hq).2, hq1, (Array.getElem?_eq_some_iff.mp hq1).2, getset_ne hq1 (show j ≠ j + 1 + 1 by omega), hj, hir, hir1, hi2, hcv, hu, Array.getElem?_setIfInBounds], fin _ (by simp) ?_ (by simp [hir, Array.getElem?_setIfInBounds]) (by simp [hir1]) ?_⟩
        · have e : (fun k => ((((r.setIfInBounds j .unset).setIfInBounds (j + 1) (.val (rv ρ v))).setIfInBounds (j + 1 + 2) .unset).setIfInBounds (j + 1 + 1) .second)[k]?) = up (up (up (up (up (up (fun k => r[k]?) j .unset) (j + 1) .unset) (j + 1 + 1) .unset) (j + 1 + 1 + 1) .unset) (j + 1) (.val (rv ρ v))) (j + 1 + 1) .second := by
            rw [up_arr (by simpa using hir1), up_arr (by simpa using hi2), up_arr (by simpa using hir), up_arr hj]
            funext k
            simp only [up]
            by_cases e : k = j + 1 + 1
            · simp [e]
            · by_cases e2 : k = j + 1
              · simp [e2]
              · simp [e, e2]
          rw [e]
          exact (W5.clr (j := j + 1 + 1) (v := u) (by simp [up, hq1] <;> omega) hu).two (Or.inl (by simp [up] <;> omega)) (Or.inl (by simp [up] <;> omega)) hcv
        · intro k a b
          by_cases e : k = j
          · subst e; exact Or.inr Lu
          · by_cases e4 : k = j + 1 + 2
            · subst e4; exact Or.inr (Lun2 u hq1 hu)
            · left; rw [Array.getElem?_setIfInBounds_ne (Ne.symm b), Array.getElem?_setIfInBounds_ne (Ne.symm e4), Array.getElem?_setIfInBounds_ne (Ne.symm a), Array.getElem?_setIfInBounds_ne (Ne.symm e)]
      · refine ⟨((r.setIfInBounds j .unset).setIfInBounds (j + 1) (.val (rv ρ v))).setIfInBounds (j + 1 + 1) .second, by simp [storeLocals, storeSelf, setAt, hq, (Array.getElem?_eq_some_iff.mp hq).2, hq1, (Array.getElem?_eq_some_iff.mp hq1).2, getset_ne hq1 (show j ≠ j + 1 + 1 by omega), hj, hir, hir1, hcv, hu, Array.getElem?_setIfInBounds], fin _ (by simp) ?_ (by simp [hir, Array.getElem?_setIfInBounds]) (by simp [hir1]) ?_⟩
        · have e : (fun k => (((r.setIfInBounds j .unset).setIfInBounds (j + 1) (.val (rv ρ v))).setIfInBounds (j + 1 + 1) .second)[k]?) = up (up (up (up (fun k => r[k]?) j .unset) (j + 1) .unset) (j + 1) (.val (rv ρ v))) (j + 1 + 1) .second := by
            rw [up_arr (by simpa using hir1), up_arr (by simpa using hir), up_arr hj]
            funext k
            simp only [up]
            by_cases e : k = j + 1 + 1
            · simp [e]
            · by_cases e2 : k = j + 1
              · simp [e2]
              · simp [e, e2]
          rw [e]
          exact W5.two (Or.inl (by simp [up] <;> omega)) (Or.inr ⟨u, by simp [up, hq1] <;> omega, cat12 u hu⟩) hcv
        · intro k a b
          by_cases e : k = j
          · subst e; exact Or.inr Lu
          · left; rw [Array.getElem?_setIfInBounds_ne (Ne.symm b), Array.getElem?_setIfInBounds_ne (Ne.symm a), Array.getElem?_setIfInBounds_ne (Ne.symm e)]
/-- which lists of slots are laid out well -/
def wfL : List Slot → Bool
  | [] => true
  | .unset :: t => wfL t
  | .second :: _ => false
  | [.val v] => decide (v.category = 1)
  | .val v :: .second :: t => decide (v.category = 2) && wfL t
  | .val v :: .unset :: t => decide (v.category = 1) && wfL t
  | .val v :: .val u :: t => decide (v.category = 1) && wfL (.val u :: t)
/-- the walk forgets the variables that the mask marks -/
def fg : List Bool → List Slot → List Slot
  | true :: b, _ :: t => .unset :: fg b t
  | false :: b, s :: t => s :: fg b t
  | _, t => t
theorem WR.nil : WR (fun k => ([] : List Slot)[k]?) := ⟨fun i v h => by simp at h, fun i h => by simp at h⟩
theorem WR.cons1 {t : List Slot} {s : Slot} (h : WR (fun k => t[k]?)) (hs : C1 (some s)) : WR (fun k => (s :: t)[k]?) := by
  obtain ⟨n1, n2⟩ := hs.not2
  constructor
  · intro i v hi hv
    cases i with
    | zero => exact absurd hv (n2 v (by simpa using hi))
    | succ i => have := h.1 i v (by simpa using hi) hv; simpa using this
  · intro i hi
    cases i with
    | zero => exact absurd (by simpa using hi) n1
    | succ i => obtain ⟨j, v, e1, e2, e3⟩ := h.2 i (by simpa using hi); exact ⟨j + 1, v, by omega, by simpa using e2, e3⟩
theorem WR.cons2 {t : List Slot} {w : Value} (h : WR (fun k => t[k]?)) (hw : w.category = 2) : WR (fun k => (Slot.val w :: .second :: t)[k]?) := by
  constructor
  · intro i v hi hv
    match i with
    | 0 => simp
    | 1 => simp at hi
    | i + 2 => have := h.1 i v (by simpa using hi) hv; simpa using this
  · intro i hi
    match i with
    | 0 => simp at hi
    | 1 => exact ⟨0, w, rfl, by simp, hw⟩
    | i + 2 => obtain ⟨j, v, e1, e2, e3⟩ := h.2 i (by simpa using hi); exact ⟨j + 2, v, by omega, by simpa using e2, e3⟩
theorem WR.of_wfL : (L : List Slot) → wfL L = true → WR (fun k => L[k]?)
  | [], _ => WR.nil
  | .unset :: t, h => (WR.of_wfL t h).cons1 (Or.inl rfl)
  | .second :: _, h => by simp [wfL] at h
  | [.val v], h => WR.nil.cons1 (Or.inr ⟨v, rfl, by simpa [wfL] using h⟩)
  | .val v :: .second :: t, h => by simp [wfL] at h; exact (WR.of_wfL t h.2).cons2 h.1
  | .val v :: .unset :: t, h => by simp [wfL] at h; exact ((WR.of_wfL t h.2).cons1 (Or.inl rfl)).cons1 (Or.inr ⟨v, rfl, h.1⟩)
  | .val v :: .val u :: t, h => by
    have h' : decide (v.category = 1) = true ∧ wfL (.val u :: t) = true := by rw [wfL, Bool.and_eq_true] at h; exact h
    exact (WR.of_wfL (.val u :: t) h'.2).cons1 (Or.inr ⟨v, rfl, of_decide_eq_true h'.1⟩)
theorem fg_length : (b : List Bool) → (L : List Slot) → (fg b L).length = L.length
  | true :: b, _ :: t => by simp [fg, fg_length b t]
  | false :: b, s :: t => by simp [fg, fg_length b t]
  | [], t => by simp [fg]
  | true :: _, [] => by simp [fg]
  | false :: _, [] => by simp [fg]
theorem fg_get : (b : List Bool) → (L : List Slot) → ∀ (i : Nat) (s : Slot), (fg b L)[i]? = some s → s = .unset ∨ L[i]? = some s
  | true :: b, x :: t, i, s, h => by
    cases i with
    | zero => left; simpa [fg] using h.symm
    | succ i => have := fg_get b t i s (by simpa [fg] using h); simpa using this
  | false :: b, x :: t, i, s, h => by
    cases i with
    | zero => right; simpa [fg] using h
    | succ i => have := fg_get b t i s (by simpa [fg] using h); simpa using this
  | [], t, i, s, h => by right; simpa [fg] using h
  | true :: _, [], i, s, h => by right; simpa [fg] using h
  | false :: _, [], i, s, h => by right; simpa [fg] using h
theorem SR.forget {ρ : Nat → Addr} {L : List Slot} {r : Array Slot} (h : SR ρ L r) (b : List Bool) (hw : wfL (fg b L) = true) : SR ρ (fg b L) r := by
  obtain ⟨h1, h2, h3, h4, h5⟩ := h
  refine ⟨by rw [fg_length]; exact h1, fun i v hi => ?_, fun i hi => ?_, WR.of_wfL _ hw, h5⟩
  · rcases fg_get _ _ _ _ hi with e | e
    · cases e
    · exact h2 i v e
  · rcases fg_get _ _ _ _ hi with e | e
    · cases e
    · exact h3 i e
/-- at a method's entry -/
theorem a2l (ρ : Nat → Addr) (as : List Value) (mx : Nat) : argsToLocals (as.map (rv ρ)).toArray mx = (argsToLocals as.toArray mx).map (rs ρ) := by
  have key : ∀ (as : List Value) (acc : Array Slot), (as.map (rv ρ)).foldl (fun acc v => if v.category = 2 then (acc.push (.val v)).push .second else acc.push (.val v)) (acc.map (rs ρ)) = (as.foldl (fun acc v => if v.category = 2 then (acc.push (.val v)).push .second else acc.push (.val v)) acc).map (rs ρ) := by
    intro as
    induction as with
    | nil => intro acc; rfl
    | cons v t ih =>
      intro acc
      simp only [List.map_cons, List.foldl_cons, rv_cat]
      by_cases hv : v.category = 2
      · rw [if_pos hv, if_pos hv, ← ih]; simp [Array.map_push, rs]
      · rw [if_neg hv, if_neg hv, ← ih]; simp [Array.map_push, rs]
  have k0 := key as #[]
  simp only [Array.map_empty] at k0
  simp only [argsToLocals, List.foldl_toArray', List.size_toArray]
  simp only [k0, Array.map_append, Array.size_map, Array.map_replicate, rs]
theorem SR.entry (ρ : Nat → Addr) (as : List Value) (mx : Nat) {L : List Slot} (hL : (argsToLocals as.toArray mx).toList = L) (hw : wfL L = true) : SR ρ L (argsToLocals (as.map (rv ρ)).toArray mx) := by
  subst hL
  rw [a2l]
  have hW := WR.of_wfL _ hw
  generalize argsToLocals as.toArray mx = A at hW
  have g : ∀ i : Nat, (A.map (rs ρ))[i]? = (A.toList[i]?).map (rs ρ) := by intro i; simp
  refine ⟨by simp, fun i v hi => by rw [g, hi]; rfl, fun i hi => by rw [g, hi]; rfl, hW, ?_, ?_⟩
  · intro i v hi hv
    have hi' : (A.toList[i]?).map (rs ρ) = some (.val v) := by rw [← g]; exact hi
    cases hs : A.toList[i]? with
    | none => rw [hs] at hi'; cases hi'
    | some s =>
      rw [hs] at hi'
      cases s with
      | unset => cases hi'
      | second => cases hi'
      | val u =>
        cases hi'
        have := hW.1 i u hs (by rwa [rv_cat] at hv)
        show (A.map (rs ρ))[i + 1]? = _
        rw [g]
        have t : A.toList[i + 1]? = some .second := this
        rw [t]; rfl
  · intro i hi
    have hi' : (A.toList[i]?).map (rs ρ) = some .second := by rw [← g]; exact hi
    cases hs : A.toList[i]? with
    | none => rw [hs] at hi'; cases hi'
    | some s =>
      rw [hs] at hi'
      cases s with
      | unset => cases hi'
      | val u => cases hi'
      | second =>
        obtain ⟨j, v, e1, e2, e3⟩ := hW.2 i hs
        refine ⟨j, rv ρ v, e1, ?_, by rw [rv_cat]; exact e3⟩
        show (A.map (rs ρ))[j]? = _
        rw [g]
        have t : A.toList[j]? = some (.val v) := e2
        rw [t]; rfl
end Jvm.Own

namespace Jvm.Own
open Jvm Jvm.ClassFile Sem Op Lib Jvm.Free Jvm.Stand Jvm.LawKit Jvm.RoadKit
/-! ## 2. A method's data; what it means that a walk from a point of it comes to an end -/
/-- name, bytes, number of variables, what it returns, room, cells that it makes -/
abbrev MD : Type := MethodName × ByteArray × Nat × Option FieldType × Room × Nat
abbrev nmOf (md : MD) : MethodName := md.1
abbrev byOf (md : MD) : ByteArray := md.2.1
abbrev mxOf (md : MD) : Nat := md.2.2.1
abbrev rtOf (md : MD) : Option FieldType := md.2.2.2.1
abbrev rmOf (md : MD) : Room := md.2.2.2.2.1
abbrev exOf (md : MD) : Nat := md.2.2.2.2.2
/-- the class whose methods are walked; where the walk's references point; the first new address; what the heap holds; what a walk leaves alone -/
abbrev Mode (μ E : Type) : Type := String × (E → Nat → Addr) × (E → Nat) × (E → μ → Heap → Prop) × (E → Heap → Heap → Prop)
abbrev Mode.own {μ E : Type} (M : Mode μ E) : String := M.1
abbrev Mode.rho {μ E : Type} (M : Mode μ E) : E → Nat → Addr := M.2.1
abbrev Mode.lo {μ E : Type} (M : Mode μ E) : E → Nat := M.2.2.1
abbrev Mode.rel {μ E : Type} (M : Mode μ E) : E → μ → Heap → Prop := M.2.2.2.1
abbrev Mode.frm {μ E : Type} (M : Mode μ E) : E → Heap → Heap → Prop := M.2.2.2.2
def Kn (Z : State) (own : String) (md : MD) (p : Program) (s : State) (m : MethodId) (meth : Method) (c : Code) : Prop :=
  p.tables.exec = Jvm.exec ∧ Z.Warmed39 s.vm ∧ s.vm.findClass own = some m.cls ∧ meth.name = (nmOf md).name ∧ meth.sig.returnType = rtOf md ∧ meth.locks = false ∧ c.code = byOf md ∧ c.maxLocals = mxOf md
def Done {μ E : Type} (l : Launch) (M : Mode μ E) (md : MD) (Q : Option Value → μ → Prop) (en : E) (p : Program) (e : Env) (s : State) (m : MethodId) (args : Array Value) (below : List Frame) (meth : Method) (c : Code) (T : State) (g : JFrame) : Prop :=
  ∃ (T' : State) (locs' : List Loc) (su' : Nat) (v : Option Value) (w' : μ), Stand p l e (rmOf md) s m args below meth c T' locs' (exOf md) su' ∧ exOf md ≤ (rmOf md).cells ∧ su' ≤ (rmOf md).slots ∧ T'.heap.size = s.heap.size + exOf md ∧ Fr (M.lo en) locs' ∧ M.rel en w' T'.heap ∧ M.frm en T.heap T'.heap ∧
    (meth.sig.returnType = none → v = none) ∧ (∀ ρ x, v = some x → rv ρ x = x) ∧ Q v w' ∧
    ∀ fs, (∀ (f : JFrame) (acts : List Action), f.method = m → f.locked = none → f.entered = [] → (doReturn e (T'.setTop f) acts v).1 = T'.setFrames fs) → Steps p.tables e below (T.setTop g) (T'.setFrames fs)
/-- from the pc, with these variables and operands, over w, the walk returns with what Q says -/
def Wk {μ E : Type} (l : Launch) (Z : State) (M : Mode μ E) (md : MD) (pc : Nat) (L : List Slot) (S : List Value) (w : μ) (cu su : Nat) (Q : Option Value → μ → Prop) : Prop :=
  ∀ (en : E) (p : Program) (e : Env) (s : State) (m : MethodId) (args : Array Value) (below : List Frame) (meth : Method) (c : Code) (T : State) (locs : List Loc) (r : Array Slot),
    Stand p l e (rmOf md) s m args below meth c T locs cu su → Kn Z M.own md p s m meth c → T.heap.size = s.heap.size + cu → Fr (M.lo en) locs → M.rel en w T.heap → SR (M.rho en) L r →
    Done l M md Q en p e s m args below meth c T (mkF m pc r (S.map (rv (M.rho en))))
section Steps
variable {μ E : Type} {l : Launch} {Z : State} {M : Mode μ E} {md : MD} {pc pc' : Nat} {L L' : List Slot} {S : List Value} {w : μ} {cu su : Nat} {Q : Option Value → μ → Prop}
theorem Done.pre {en : E} {p : Program} {e : Env} {s : State} {m : MethodId} {args : Array Value} {below : List Frame} {meth : Method} {c : Code} {T T1 : State} {g g1 : JFrame} (h : Done l M md Q en p e s m args below meth c T1 g1) (hT : ∀ x, M.frm en T1.heap x → M.frm en T.heap x)
    (st : ∀ t, Steps p.tables e below (T1.setTop g1) t → Steps p.tables e below (T.setTop g) t) : Done l M md Q en p e s m args below meth c T g := by
  obtain ⟨T', locs', su', v, w', a1, a2, a3, a4, a5, a6, a7, a8, a9, a10, a11⟩ := h
  exact ⟨T', locs', su', v, w', a1, a2, a3, a4, a5, a6, hT _ a7, a8, a9, a10, fun fs hf => st _ (a11 fs hf)⟩
theorem Wk.mono {Q' : Option Value → μ → Prop} (h : Wk l Z M md pc L S w cu su Q) (hq : ∀ v w', Q v w' → Q' v w') : Wk l Z M md pc L S w cu su Q' := by
  intro en p e s m args below meth c T locs r X K hz hF hR hL
  obtain ⟨T', locs', su', v, w', a1, a2, a3, a4, a5, a6, a7, a8, a9, a10, a11⟩ := h en p e s m args below meth c T locs r X K hz hF hR hL
  exact ⟨T', locs', su', v, w', a1, a2, a3, a4, a5, a6, a7, a8, a9, hq _ _ a10, a11⟩
abbrev InsA (md : MD) (pc : Nat) (i : Instr) (n pc' : Nat) : Prop := decode (byOf md) pc = .ok (i, n) ∧ pc + n = pc'
abbrev InsB (md : MD) (pc : Nat) (i : Instr) (n pc' : Nat) (o : Int) (pt : Nat) : Prop := decode (byOf md) pc = .ok (i, n) ∧ pc + n = pc' ∧ 0 ≤ (pc : Int) + o ∧ ((pc : Int) + o).toNat = pt
theorem Kn.by {own : String} {p : Program} {s : State} {m : MethodId} {meth : Method} {c : Code} (K : Kn Z own md p s m meth c) : c.code = byOf md := K.2.2.2.2.2.2.1
theorem Wk.forget (b : List Bool) (hf : fg b L = L') (hw : wfL L' = true) (h : Wk l Z M md pc L' S w cu su Q) : Wk l Z M md pc L S w cu su Q :=
  fun en p e s m args below meth c T locs r X K hz hF hR hL => h en p e s m args below meth c T locs r X K hz hF hR (by subst hf; exact hL.forget b hw)
theorem Wk.iloadN {k : Fin 4} {v : Int32} (hd : InsA md pc (.iload_n k) 1 pc') (hl : L[k.val]? = some (.val (.int v))) (h : Wk l Z M md pc' L (.int v :: S) w cu su Q) : Wk l Z M md pc L (S) w cu su Q :=
  fun en p e s m args below meth c T locs r X K hz hF hR hL => by
  obtain ⟨hd, rfl⟩ := hd
  exact (h en p e s m args below meth c T locs r X K hz hF hR hL).pre (fun _ q => q) fun t k => XS.iloadN X.here K.1 rfl (hb K.by hd) (hL.get hl) k
theorem Wk.iload {k : Nat} {v : Int32} (hd : InsA md pc (.iload k) 2 pc') (hl : L[k]? = some (.val (.int v))) (h : Wk l Z M md pc' L (.int v :: S) w cu su Q) : Wk l Z M md pc L (S) w cu su Q :=
  fun en p e s m args below meth c T locs r X K hz hF hR hL => by
  obtain ⟨hd, rfl⟩ := hd
  exact (h en p e s m args below meth c T locs r X K hz hF hR hL).pre (fun _ q => q) fun t k => XS.iload X.here K.1 rfl (hb K.by hd) (hL.get hl) k
theorem Wk.lloadN {k : Fin 4} {v : Int64} (hd : InsA md pc (.lload_n k) 1 pc') (hl : L[k.val]? = some (.val (.long v))) (h : Wk l Z M md pc' L (.long v :: S) w cu su Q) : Wk l Z M md pc L (S) w cu su Q :=
  fun en p e s m args below meth c T locs r X K hz hF hR hL => by
  obtain ⟨hd, rfl⟩ := hd
  exact (h en p e s m args below meth c T locs r X K hz hF hR hL).pre (fun _ q => q) fun t k => XT.lloadN X.here K.1 rfl (hb K.by hd) (hL.get hl) k
theorem Wk.lload {k : Nat} {v : Int64} (hd : InsA md pc (.lload k) 2 pc') (hl : L[k]? = some (.val (.long v))) (h : Wk l Z M md pc' L (.long v :: S) w cu su Q) : Wk l Z M md pc L (S) w cu su Q :=
  fun en p e s m args below meth c T locs r X K hz hF hR hL => by
  obtain ⟨hd, rfl⟩ := hd
  exact (h en p e s m args below meth c T locs r X K hz hF hR hL).pre (fun _ q => q) fun t k => XT.lload X.here K.1 rfl (hb K.by hd) (hL.get hl) k
theorem Wk.aloadN {k : Fin 4} {v : Nat} (hd : InsA md pc (.aload_n k) 1 pc') (hl : L[k.val]? = some (.val (.ref v))) (h : Wk l Z M md pc' L (.ref v :: S) w cu su Q) : Wk l Z M md pc L (S) w cu su Q :=
  fun en p e s m args below meth c T locs r X K hz hF hR hL => by
  obtain ⟨hd, rfl⟩ := hd
  exact (h en p e s m args below meth c T locs r X K hz hF hR hL).pre (fun _ q => q) fun t k => XS.aloadN X.here K.1 rfl (hb K.by hd) (hL.get hl) rfl k
theorem Wk.aload {k : Nat} {v : Nat} (hd : InsA md pc (.aload k) 2 pc') (hl : L[k]? = some (.val (.ref v))) (h : Wk l Z M md pc' L (.ref v :: S) w cu su Q) : Wk l Z M md pc L (S) w cu su Q :=
  fun en p e s m args below meth c T locs r X K hz hF hR hL => by
  obtain ⟨hd, rfl⟩ := hd
  exact (h en p e s m args below meth c T locs r X K hz hF hR hL).pre (fun _ q => q) fun t k => XS.aload X.here K.1 rfl (hb K.by hd) (hL.get hl) rfl k
theorem Wk.iconst {i : Int} {z : Int32} (hd : InsA md pc (.iconst i) 1 pc') (hz' : Int32.ofInt i = z) (h : Wk l Z M md pc' L (.int z :: S) w cu su Q) : Wk l Z M md pc L (S) w cu su Q :=
  fun en p e s m args below meth c T locs r X K hz hF hR hL => by
  obtain ⟨hd, rfl⟩ := hd
  exact (h en p e s m args below meth c T locs r X K hz hF hR hL).pre (fun _ q => q) fun t k => XS.iconst X.here K.1 rfl (hb K.by hd) (by subst hz'; exact k)
theorem Wk.bipush {i : Int} {z : Int32} (hd : InsA md pc (.bipush i) 2 pc') (hz' : (Int8.ofInt i).toInt32 = z) (h : Wk l Z M md pc' L (.int z :: S) w cu su Q) : Wk l Z M md pc L (S) w cu su Q :=
  fun en p e s m args below meth c T locs r X K hz hF hR hL => by
  obtain ⟨hd, rfl⟩ := hd
  exact (h en p e s m args below meth c T locs r X K hz hF hR hL).pre (fun _ q => q) fun t k => XS.bipush X.here K.1 rfl (hb K.by hd) (by subst hz'; exact k)
theorem Wk.sipush {i : Int} {z : Int32} (hd : InsA md pc (.sipush i) 3 pc') (hz' : (Int16.ofInt i).toInt32 = z) (h : Wk l Z M md pc' L (.int z :: S) w cu su Q) : Wk l Z M md pc L (S) w cu su Q :=
  fun en p e s m args below meth c T locs r X K hz hF hR hL => by
  obtain ⟨hd, rfl⟩ := hd
  exact (h en p e s m args below meth c T locs r X K hz hF hR hL).pre (fun _ q => q) fun t k => XS.sipush X.here K.1 rfl (hb K.by hd) (by subst hz'; exact k)
theorem Wk.lconst {i : Fin 2} {z : Int64} (hd : InsA md pc (.lconst i) 1 pc') (hz' : Int64.ofNat i = z) (h : Wk l Z M md pc' L (.long z :: S) w cu su Q) : Wk l Z M md pc L (S) w cu su Q :=
  fun en p e s m args below meth c T locs r X K hz hF hR hL => by
  obtain ⟨hd, rfl⟩ := hd
  exact (h en p e s m args below meth c T locs r X K hz hF hR hL).pre (fun _ q => q) fun t k => XT.lconst X.here K.1 rfl (hb K.by hd) (by subst hz'; exact k)
theorem Wk.iadd {x y : Int32} (hd : InsA md pc (.iadd) 1 pc') (h : Wk l Z M md pc' L (.int (x + y) :: S) w cu su Q) : Wk l Z M md pc L (.int y :: .int x :: S) w cu su Q :=
  fun en p e s m args below meth c T locs r X K hz hF hR hL => by
  obtain ⟨hd, rfl⟩ := hd
  exact (h en p e s m args below meth c T locs r X K hz hF hR hL).pre (fun _ q => q) fun t k => XS.iadd X.here K.1 rfl (hb K.by hd) rfl k
theorem Wk.isub {x y : Int32} (hd : InsA md pc (.isub) 1 pc') (h : Wk l Z M md pc' L (.int (x - y) :: S) w cu su Q) : Wk l Z M md pc L (.int y :: .int x :: S) w cu su Q :=
  fun en p e s m args below meth c T locs r X K hz hF hR hL => by
  obtain ⟨hd, rfl⟩ := hd
  exact (h en p e s m args below meth c T locs r X K hz hF hR hL).pre (fun _ q => q) fun t k => XS.isub X.here K.1 rfl (hb K.by hd) rfl k
theorem Wk.imul {x y : Int32} (hd : InsA md pc (.imul) 1 pc') (h : Wk l Z M md pc' L (.int (x * y) :: S) w cu su Q) : Wk l Z M md pc L (.int y :: .int x :: S) w cu su Q :=
  fun en p e s m args below meth c T locs r X K hz hF hR hL => by
  obtain ⟨hd, rfl⟩ := hd
  exact (h en p e s m args below meth c T locs r X K hz hF hR hL).pre (fun _ q => q) fun t k => XS.imul X.here K.1 rfl (hb K.by hd) rfl k
theorem Wk.iand {x y : Int32} (hd : InsA md pc (.iand) 1 pc') (h : Wk l Z M md pc' L (.int (x &&& y) :: S) w cu su Q) : Wk l Z M md pc L (.int y :: .int x :: S) w cu su Q :=
  fun en p e s m args below meth c T locs r X K hz hF hR hL => by
  obtain ⟨hd, rfl⟩ := hd
  exact (h en p e s m args below meth c T locs r X K hz hF hR hL).pre (fun _ q => q) fun t k => XS.iand X.here K.1 rfl (hb K.by hd) rfl k
theorem Wk.ior {x y : Int32} (hd : InsA md pc (.ior) 1 pc') (h : Wk l Z M md pc' L (.int (x ||| y) :: S) w cu su Q) : Wk l Z M md pc L (.int y :: .int x :: S) w cu su Q :=
  fun en p e s m args below meth c T locs r X K hz hF hR hL => by
  obtain ⟨hd, rfl⟩ := hd
  exact (h en p e s m args below meth c T locs r X K hz hF hR hL).pre (fun _ q => q) fun t k => XT.ior X.here K.1 rfl (hb K.by hd) rfl k
theorem Wk.ixor {x y : Int32} (hd : InsA md pc (.ixor) 1 pc') (h : Wk l Z M md pc' L (.int (x ^^^ y) :: S) w cu su Q) : Wk l Z M md pc L (.int y :: .int x :: S) w cu su Q :=
  fun en p e s m args below meth c T locs r X K hz hF hR hL => by
  obtain ⟨hd, rfl⟩ := hd
  exact (h en p e s m args below meth c T locs r X K hz hF hR hL).pre (fun _ q => q) fun t k => XT.ixor X.here K.1 rfl (hb K.by hd) rfl k
theorem Wk.ishl {x y : Int32} (hd : InsA md pc (.ishl) 1 pc') (h : Wk l Z M md pc' L (.int (x <<< (y &&& 31)) :: S) w cu su Q) : Wk l Z M md pc L (.int y :: .int x :: S) w cu su Q :=
  fun en p e s m args below meth c T locs r X K hz hF hR hL => by
  obtain ⟨hd, rfl⟩ := hd
  exact (h en p e s m args below meth c T locs r X K hz hF hR hL).pre (fun _ q => q) fun t k => XT.ishl X.here K.1 rfl (hb K.by hd) rfl k
theorem Wk.ishr {x y : Int32} (hd : InsA md pc (.ishr) 1 pc') (h : Wk l Z M md pc' L (.int (x >>> (y &&& 31)) :: S) w cu su Q) : Wk l Z M md pc L (.int y :: .int x :: S) w cu su Q :=
  fun en p e s m args below meth c T locs r X K hz hF hR hL => by
  obtain ⟨hd, rfl⟩ := hd
  exact (h en p e s m args below meth c T locs r X K hz hF hR hL).pre (fun _ q => q) fun t k => XT.ishr X.here K.1 rfl (hb K.by hd) rfl k
theorem Wk.iushr {x y : Int32} (hd : InsA md pc (.iushr) 1 pc') (h : Wk l Z M md pc' L (.int (XT.ushr x y) :: S) w cu su Q) : Wk l Z M md pc L (.int y :: .int x :: S) w cu su Q :=
  fun en p e s m args below meth c T locs r X K hz hF hR hL => by
  obtain ⟨hd, rfl⟩ := hd
  exact (h en p e s m args below meth c T locs r X K hz hF hR hL).pre (fun _ q => q) fun t k => XT.iushr X.here K.1 rfl (hb K.by hd) rfl k
theorem Wk.ineg {x : Int32} (hd : InsA md pc (.ineg) 1 pc') (h : Wk l Z M md pc' L (.int (-x) :: S) w cu su Q) : Wk l Z M md pc L (.int x :: S) w cu su Q :=
  fun en p e s m args below meth c T locs r X K hz hF hR hL => by
  obtain ⟨hd, rfl⟩ := hd
  exact (h en p e s m args below meth c T locs r X K hz hF hR hL).pre (fun _ q => q) fun t k => XS.ineg X.here K.1 rfl (hb K.by hd) rfl k
theorem Wk.idiv {x y : Int32} (hd : InsA md pc (.idiv) 1 pc') (hy : y ≠ 0) (h : Wk l Z M md pc' L (.int (x / y) :: S) w cu su Q) : Wk l Z M md pc L (.int y :: .int x :: S) w cu su Q :=
  fun en p e s m args below meth c T locs r X K hz hF hR hL => by
  obtain ⟨hd, rfl⟩ := hd
  exact (h en p e s m args below meth c T locs r X K hz hF hR hL).pre (fun _ q => q) fun t k => XS.idiv X.here K.1 rfl (hb K.by hd) rfl hy k
theorem Wk.irem {x y : Int32} (hd : InsA md pc (.irem) 1 pc') (hy : y ≠ 0) (h : Wk l Z M md pc' L (.int (x % y) :: S) w cu su Q) : Wk l Z M md pc L (.int y :: .int x :: S) w cu su Q :=
  fun en p e s m args below meth c T locs r X K hz hF hR hL => by
  obtain ⟨hd, rfl⟩ := hd
  exact (h en p e s m args below meth c T locs r X K hz hF hR hL).pre (fun _ q => q) fun t k => Jvm.RoadKit.iremM X K.1 rfl (hb K.by hd) rfl hy k
theorem Wk.ladd {x y : Int64} (hd : InsA md pc (.ladd) 1 pc') (h : Wk l Z M md pc' L (.long (x + y) :: S) w cu su Q) : Wk l Z M md pc L (.long y :: .long x :: S) w cu su Q :=
  fun en p e s m args below meth c T locs r X K hz hF hR hL => by
  obtain ⟨hd, rfl⟩ := hd
  exact (h en p e s m args below meth c T locs r X K hz hF hR hL).pre (fun _ q => q) fun t k => XT.ladd X.here K.1 rfl (hb K.by hd) rfl k
theorem Wk.lsub {x y : Int64} (hd : InsA md pc (.lsub) 1 pc') (h : Wk l Z M md pc' L (.long (x - y) :: S) w cu su Q) : Wk l Z M md pc L (.long y :: .long x :: S) w cu su Q :=
  fun en p e s m args below meth c T locs r X K hz hF hR hL => by
  obtain ⟨hd, rfl⟩ := hd
  exact (h en p e s m args below meth c T locs r X K hz hF hR hL).pre (fun _ q => q) fun t k => XT.lsub X.here K.1 rfl (hb K.by hd) rfl k
theorem Wk.lmul {x y : Int64} (hd : InsA md pc (.lmul) 1 pc') (h : Wk l Z M md pc' L (.long (x * y) :: S) w cu su Q) : Wk l Z M md pc L (.long y :: .long x :: S) w cu su Q :=
  fun en p e s m args below meth c T locs r X K hz hF hR hL => by
  obtain ⟨hd, rfl⟩ := hd
  exact (h en p e s m args below meth c T locs r X K hz hF hR hL).pre (fun _ q => q) fun t k => XT.lmul X.here K.1 rfl (hb K.by hd) rfl k
theorem Wk.land {x y : Int64} (hd : InsA md pc (.land) 1 pc') (h : Wk l Z M md pc' L (.long (x &&& y) :: S) w cu su Q) : Wk l Z M md pc L (.long y :: .long x :: S) w cu su Q :=
  fun en p e s m args below meth c T locs r X K hz hF hR hL => by
  obtain ⟨hd, rfl⟩ := hd
  exact (h en p e s m args below meth c T locs r X K hz hF hR hL).pre (fun _ q => q) fun t k => XT.land X.here K.1 rfl (hb K.by hd) rfl k
theorem Wk.lor {x y : Int64} (hd : InsA md pc (.lor) 1 pc') (h : Wk l Z M md pc' L (.long (x ||| y) :: S) w cu su Q) : Wk l Z M md pc L (.long y :: .long x :: S) w cu su Q :=
  fun en p e s m args below meth c T locs r X K hz hF hR hL => by
  obtain ⟨hd, rfl⟩ := hd
  exact (h en p e s m args below meth c T locs r X K hz hF hR hL).pre (fun _ q => q) fun t k => XT.lor X.here K.1 rfl (hb K.by hd) rfl k
theorem Wk.lxor {x y : Int64} (hd : InsA md pc (.lxor) 1 pc') (h : Wk l Z M md pc' L (.long (x ^^^ y) :: S) w cu su Q) : Wk l Z M md pc L (.long y :: .long x :: S) w cu su Q :=
  fun en p e s m args below meth c T locs r X K hz hF hR hL => by
  obtain ⟨hd, rfl⟩ := hd
  exact (h en p e s m args below meth c T locs r X K hz hF hR hL).pre (fun _ q => q) fun t k => XT.lxor X.here K.1 rfl (hb K.by hd) rfl k
theorem Wk.ldiv {x y : Int64} (hd : InsA md pc (.ldiv) 1 pc') (hy : y ≠ 0) (h : Wk l Z M md pc' L (.long (x / y) :: S) w cu su Q) : Wk l Z M md pc L (.long y :: .long x :: S) w cu su Q :=
  fun en p e s m args below meth c T locs r X K hz hF hR hL => by
  obtain ⟨hd, rfl⟩ := hd
  exact (h en p e s m args below meth c T locs r X K hz hF hR hL).pre (fun _ q => q) fun t k => XT.ldiv X.here K.1 rfl (hb K.by hd) rfl hy k
theorem Wk.lrem {x y : Int64} (hd : InsA md pc (.lrem) 1 pc') (hy : y ≠ 0) (h : Wk l Z M md pc' L (.long (x - (x / y) * y) :: S) w cu su Q) : Wk l Z M md pc L (.long y :: .long x :: S) w cu su Q :=
  fun en p e s m args below meth c T locs r X K hz hF hR hL => by
  obtain ⟨hd, rfl⟩ := hd
  exact (h en p e s m args below meth c T locs r X K hz hF hR hL).pre (fun _ q => q) fun t k => XT.lrem X.here K.1 rfl (hb K.by hd) rfl hy k
theorem Wk.lshl {x : Int64} {y : Int32} (hd : InsA md pc (.lshl) 1 pc') (h : Wk l Z M md pc' L (.long (x <<< (y.toInt64 &&& 63)) :: S) w cu su Q) : Wk l Z M md pc L (.int y :: .long x :: S) w cu su Q :=
  fun en p e s m args below meth c T locs r X K hz hF hR hL => by
  obtain ⟨hd, rfl⟩ := hd
  exact (h en p e s m args below meth c T locs r X K hz hF hR hL).pre (fun _ q => q) fun t k => XT.lshl X.here K.1 rfl (hb K.by hd) rfl k
theorem Wk.lshr {x : Int64} {y : Int32} (hd : InsA md pc (.lshr) 1 pc') (h : Wk l Z M md pc' L (.long (x >>> (y.toInt64 &&& 63)) :: S) w cu su Q) : Wk l Z M md pc L (.int y :: .long x :: S) w cu su Q :=
  fun en p e s m args below meth c T locs r X K hz hF hR hL => by
  obtain ⟨hd, rfl⟩ := hd
  exact (h en p e s m args below meth c T locs r X K hz hF hR hL).pre (fun _ q => q) fun t k => XT.lshr X.here K.1 rfl (hb K.by hd) rfl k
theorem Wk.lushr {x : Int64} {y : Int32} (hd : InsA md pc (.lushr) 1 pc') (h : Wk l Z M md pc' L (.long (XT.ushrL x y) :: S) w cu su Q) : Wk l Z M md pc L (.int y :: .long x :: S) w cu su Q :=
  fun en p e s m args below meth c T locs r X K hz hF hR hL => by
  obtain ⟨hd, rfl⟩ := hd
  exact (h en p e s m args below meth c T locs r X K hz hF hR hL).pre (fun _ q => q) fun t k => XT.lushr X.here K.1 rfl (hb K.by hd) rfl k
theorem Wk.i2l {x : Int32} (hd : InsA md pc (.i2l) 1 pc') (h : Wk l Z M md pc' L (.long x.toInt64 :: S) w cu su Q) : Wk l Z M md pc L (.int x :: S) w cu su Q :=
  fun en p e s m args below meth c T locs r X K hz hF hR hL => by
  obtain ⟨hd, rfl⟩ := hd
  exact (h en p e s m args below meth c T locs r X K hz hF hR hL).pre (fun _ q => q) fun t k => XT.i2l X.here K.1 rfl (hb K.by hd) rfl k
theorem Wk.l2i {x : Int64} (hd : InsA md pc (.l2i) 1 pc') (h : Wk l Z M md pc' L (.int x.toInt32 :: S) w cu su Q) : Wk l Z M md pc L (.long x :: S) w cu su Q :=
  fun en p e s m args below meth c T locs r X K hz hF hR hL => by
  obtain ⟨hd, rfl⟩ := hd
  exact (h en p e s m args below meth c T locs r X K hz hF hR hL).pre (fun _ q => q) fun t k => XT.l2i X.here K.1 rfl (hb K.by hd) rfl k
theorem Wk.lcmp {x y : Int64} (hd : InsA md pc (.lcmp) 1 pc') (h : Wk l Z M md pc' L (.int (XT.cmpL x y) :: S) w cu su Q) : Wk l Z M md pc L (.long y :: .long x :: S) w cu su Q :=
  fun en p e s m args below meth c T locs r X K hz hF hR hL => by
  obtain ⟨hd, rfl⟩ := hd
  exact (h en p e s m args below meth c T locs r X K hz hF hR hL).pre (fun _ q => q) fun t k => XT.lcmp X.here K.1 rfl (hb K.by hd) rfl k
theorem Wk.dup {v : Value} (hd : InsA md pc (.dup) 1 pc') (hv : v.category = 1) (h : Wk l Z M md pc' L (v :: v :: S) w cu su Q) : Wk l Z M md pc L (v :: S) w cu su Q :=
  fun en p e s m args below meth c T locs r X K hz hF hR hL => by
  obtain ⟨hd, rfl⟩ := hd
  exact (h en p e s m args below meth c T locs r X K hz hF hR hL).pre (fun _ q => q) fun t k => XS.dup X.here K.1 rfl (hb K.by hd) rfl (by rw [rv_cat]; exact hv) k
theorem Wk.pop {v : Value} (hd : InsA md pc (.pop) 1 pc') (hv : v.category = 1) (h : Wk l Z M md pc' L (S) w cu su Q) : Wk l Z M md pc L (v :: S) w cu su Q :=
  fun en p e s m args below meth c T locs r X K hz hF hR hL => by
  obtain ⟨hd, rfl⟩ := hd
  exact (h en p e s m args below meth c T locs r X K hz hF hR hL).pre (fun _ q => q) fun t k => XT.pop X.here K.1 rfl (hb K.by hd) rfl (by rw [rv_cat]; exact hv) k
theorem Wk.dup2 {v u : Value} (hd : InsA md pc (.dup2) 1 pc') (hv : v.category = 1) (hu : u.category = 1) (h : Wk l Z M md pc' L (v :: u :: v :: u :: S) w cu su Q) : Wk l Z M md pc L (v :: u :: S) w cu su Q :=
  fun en p e s m args below meth c T locs r X K hz hF hR hL => by
  obtain ⟨hd, rfl⟩ := hd
  exact (h en p e s m args below meth c T locs r X K hz hF hR hL).pre (fun _ q => q) fun t k => XT.dup2 X.here K.1 rfl (hb K.by hd) rfl (by rw [rv_cat]; exact hv) (by rw [rv_cat]; exact hu) k
theorem Wk.dupX1 {v u : Value} (hd : InsA md pc (.dup_x1) 1 pc') (hv : v.category = 1) (hu : u.category = 1) (h : Wk l Z M md pc' L (v :: u :: v :: S) w cu su Q) : Wk l Z M md pc L (v :: u :: S) w cu su Q :=
  fun en p e s m args below meth c T locs r X K hz hF hR hL => by
  obtain ⟨hd, rfl⟩ := hd
  exact (h en p e s m args below meth c T locs r X K hz hF hR hL).pre (fun _ q => q) fun t k => XT.dupX1 X.here K.1 rfl (hb K.by hd) rfl (by rw [rv_cat]; exact hv) (by rw [rv_cat]; exact hu) k
theorem Wk.istoreN {k : Fin 4} {x : Int32} (hd : InsA md pc (.istore_n k) 1 pc') (ho : C1 L[k.val]?) (hl : L.set k.val (.val (.int x)) = L') (h : Wk l Z M md pc' L' S w cu su Q) : Wk l Z M md pc L (.int x :: S) w cu su Q :=
  fun en p e s m args below meth c T locs r X K hz hF hR hL => by
  obtain ⟨hd, rfl⟩ := hd
  obtain ⟨r', e1, hL2⟩ := hL.st1 (v := .int x) ho rfl
  subst hl
  exact (h en p e s m args below meth c T locs r' X K hz hF hR hL2).pre (fun _ q => q) fun t k => XS.istoreN X.here K.1 rfl (hb K.by hd) rfl e1 k
theorem Wk.istore {k : Nat} {x : Int32} (hd : InsA md pc (.istore k) 2 pc') (ho : C1 L[k]?) (hl : L.set k (.val (.int x)) = L') (h : Wk l Z M md pc' L' S w cu su Q) : Wk l Z M md pc L (.int x :: S) w cu su Q :=
  fun en p e s m args below meth c T locs r X K hz hF hR hL => by
  obtain ⟨hd, rfl⟩ := hd
  obtain ⟨r', e1, hL2⟩ := hL.st1 (v := .int x) ho rfl
  subst hl
  exact (h en p e s m args below meth c T locs r' X K hz hF hR hL2).pre (fun _ q => q) fun t k => XS.istore X.here K.1 rfl (hb K.by hd) rfl e1 k
theorem Wk.astoreN {k : Fin 4} {x : Nat} (hd : InsA md pc (.astore_n k) 1 pc') (ho : C1 L[k.val]?) (hl : L.set k.val (.val (.ref x)) = L') (h : Wk l Z M md pc' L' S w cu su Q) : Wk l Z M md pc L (.ref x :: S) w cu su Q :=
  fun en p e s m args below meth c T locs r X K hz hF hR hL => by
  obtain ⟨hd, rfl⟩ := hd
  obtain ⟨r', e1, hL2⟩ := hL.st1 (v := .ref x) ho rfl
  subst hl
  exact (h en p e s m args below meth c T locs r' X K hz hF hR hL2).pre (fun _ q => q) fun t k => XS.astoreN X.here K.1 rfl (hb K.by hd) rfl rfl e1 k
theorem Wk.astore {k : Nat} {x : Nat} (hd : InsA md pc (.astore k) 2 pc') (ho : C1 L[k]?) (hl : L.set k (.val (.ref x)) = L') (h : Wk l Z M md pc' L' S w cu su Q) : Wk l Z M md pc L (.ref x :: S) w cu su Q :=
  fun en p e s m args below meth c T locs r X K hz hF hR hL => by
  obtain ⟨hd, rfl⟩ := hd
  obtain ⟨r', e1, hL2⟩ := hL.st1 (v := .ref x) ho rfl
  subst hl
  exact (h en p e s m args below meth c T locs r' X K hz hF hR hL2).pre (fun _ q => q) fun t k => XS.astore X.here K.1 rfl (hb K.by hd) rfl rfl e1 k
theorem Wk.lstoreN {k : Fin 4} {x : Int64} (hd : InsA md pc (.lstore_n k) 1 pc') (ho : C1 L[k.val]?) (ho2 : C1 L[k.val + 1]?) (hl : (L.set k.val (.val (.long x))).set (k.val + 1) .second = L') (h : Wk l Z M md pc' L' S w cu su Q) : Wk l Z M md pc L (.long x :: S) w cu su Q :=
  fun en p e s m args below meth c T locs r X K hz hF hR hL => by
  obtain ⟨hd, rfl⟩ := hd
  obtain ⟨r', e1, hL2⟩ := hL.st2 (v := .long x) ho ho2 rfl
  subst hl
  exact (h en p e s m args below meth c T locs r' X K hz hF hR hL2).pre (fun _ q => q) fun t k => XT.lstoreN X.here K.1 rfl (hb K.by hd) rfl e1 k
theorem Wk.lstore {k : Nat} {x : Int64} (hd : InsA md pc (.lstore k) 2 pc') (ho : C1 L[k]?) (ho2 : C1 L[k + 1]?) (hl : (L.set k (.val (.long x))).set (k + 1) .second = L') (h : Wk l Z M md pc' L' S w cu su Q) : Wk l Z M md pc L (.long x :: S) w cu su Q :=
  fun en p e s m args below meth c T locs r X K hz hF hR hL => by
  obtain ⟨hd, rfl⟩ := hd
  obtain ⟨r', e1, hL2⟩ := hL.st2 (v := .long x) ho ho2 rfl
  subst hl
  exact (h en p e s m args below meth c T locs r' X K hz hF hR hL2).pre (fun _ q => q) fun t k => XT.lstore X.here K.1 rfl (hb K.by hd) rfl e1 k
theorem Wk.iinc {k : Nat} {cst : Int} {x z : Int32} (hd : InsA md pc (.iinc k cst) 3 pc') (hv : L[k]? = some (.val (.int x))) (hz' : x + Int32.ofInt cst = z) (hl : L.set k (.val (.int z)) = L') (h : Wk l Z M md pc' L' S w cu su Q) : Wk l Z M md pc L S w cu su Q :=
  fun en p e s m args below meth c T locs r X K hz hF hR hL => by
  obtain ⟨hd, rfl⟩ := hd
  obtain ⟨r', e1, hL2⟩ := hL.st1 (i := k) (v := .int z) (Or.inr ⟨_, hv, rfl⟩) rfl
  subst hl hz'
  exact (h en p e s m args below meth c T locs r' X K hz hF hR hL2).pre (fun _ q => q) fun t k => XS.iinc X.here K.1 rfl (hb K.by hd) (hL.get hv) e1 k
theorem Wk.goto {o : Int} {pt : Nat} (hd : InsB md pc (.goto o) 3 pc' o pt) (h : Wk l Z M md pt L S w cu su Q) : Wk l Z M md pc L S w cu su Q :=
  fun en p e s m args below meth c T locs r X K hz hF hR hL => by
  obtain ⟨hd, rfl, h3, h4⟩ := hd
  exact (h en p e s m args below meth c T locs r X K hz hF hR hL).pre (fun _ q => q) fun t k => XS.goto X.here K.1 rfl rfl (hb K.by hd) h3 h4 k
theorem Wk.icmp_lt {x y : Int32} {o : Int} {pt : Nat} (hd : InsB md pc (.if_icmp .lt o) 3 pc' o pt) (h1 : x < y → Wk l Z M md pt L S w cu su Q) (h2 : ¬ x < y → Wk l Z M md pc' L S w cu su Q) : Wk l Z M md pc L (.int y :: .int x :: S) w cu su Q :=
  fun en p e s m args below meth c T locs r X K hz hF hR hL => by
  obtain ⟨hd, rfl, h3, h4⟩ := hd
  by_cases q : x < y
  · exact (h1 q en p e s m args below meth c T locs r X K hz hF hR hL).pre (fun _ q => q) fun t k => XS.icmpYes X.here K.1 rfl rfl (hb K.by hd) rfl (tlt q).1 h3 h4 k
  · exact (h2 q en p e s m args below meth c T locs r X K hz hF hR hL).pre (fun _ q => q) fun t k => XS.icmpNo X.here K.1 rfl (hb K.by hd) rfl (flt q).1 k
theorem Wk.if_lt {x : Int32} {o : Int} {pt : Nat} (hd : InsB md pc (.ifCond .lt o) 3 pc' o pt) (h1 : x < 0 → Wk l Z M md pt L S w cu su Q) (h2 : ¬ x < 0 → Wk l Z M md pc' L S w cu su Q) : Wk l Z M md pc L (.int x :: S) w cu su Q :=
  fun en p e s m args below meth c T locs r X K hz hF hR hL => by
  obtain ⟨hd, rfl, h3, h4⟩ := hd
  by_cases q : x < 0
  · exact (h1 q en p e s m args below meth c T locs r X K hz hF hR hL).pre (fun _ q => q) fun t k => XS.ifYes X.here K.1 rfl rfl (hb K.by hd) rfl ((if0 _ _).trans (tlt q).1) h3 h4 k
  · exact (h2 q en p e s m args below meth c T locs r X K hz hF hR hL).pre (fun _ q => q) fun t k => XS.ifNo X.here K.1 rfl (hb K.by hd) rfl ((if0 _ _).trans (flt q).1) k
theorem Wk.icmp_ge {x y : Int32} {o : Int} {pt : Nat} (hd : InsB md pc (.if_icmp .ge o) 3 pc' o pt) (h1 : ¬ x < y → Wk l Z M md pt L S w cu su Q) (h2 : x < y → Wk l Z M md pc' L S w cu su Q) : Wk l Z M md pc L (.int y :: .int x :: S) w cu su Q :=
  fun en p e s m args below meth c T locs r X K hz hF hR hL => by
  obtain ⟨hd, rfl, h3, h4⟩ := hd
  by_cases q : x < y
  · exact (h2 q en p e s m args below meth c T locs r X K hz hF hR hL).pre (fun _ q => q) fun t k => XS.icmpNo X.here K.1 rfl (hb K.by hd) rfl (tlt q).2.1 k
  · exact (h1 q en p e s m args below meth c T locs r X K hz hF hR hL).pre (fun _ q => q) fun t k => XS.icmpYes X.here K.1 rfl rfl (hb K.by hd) rfl (flt q).2.1 h3 h4 k
theorem Wk.if_ge {x : Int32} {o : Int} {pt : Nat} (hd : InsB md pc (.ifCond .ge o) 3 pc' o pt) (h1 : ¬ x < 0 → Wk l Z M md pt L S w cu su Q) (h2 : x < 0 → Wk l Z M md pc' L S w cu su Q) : Wk l Z M md pc L (.int x :: S) w cu su Q :=
  fun en p e s m args below meth c T locs r X K hz hF hR hL => by
  obtain ⟨hd, rfl, h3, h4⟩ := hd
  by_cases q : x < 0
  · exact (h2 q en p e s m args below meth c T locs r X K hz hF hR hL).pre (fun _ q => q) fun t k => XS.ifNo X.here K.1 rfl (hb K.by hd) rfl ((if0 _ _).trans (tlt q).2.1) k
  · exact (h1 q en p e s m args below meth c T locs r X K hz hF hR hL).pre (fun _ q => q) fun t k => XS.ifYes X.here K.1 rfl rfl (hb K.by hd) rfl ((if0 _ _).trans (flt q).2.1) h3 h4 k
theorem Wk.icmp_gt {x y : Int32} {o : Int} {pt : Nat} (hd : InsB md pc (.if_icmp .gt o) 3 pc' o pt) (h1 : y < x → Wk l Z M md pt L S w cu su Q) (h2 : ¬ y < x → Wk l Z M md pc' L S w cu su Q) : Wk l Z M md pc L (.int y :: .int x :: S) w cu su Q :=
  fun en p e s m args below meth c T locs r X K hz hF hR hL => by
  obtain ⟨hd, rfl, h3, h4⟩ := hd
  by_cases q : y < x
  · exact (h1 q en p e s m args below meth c T locs r X K hz hF hR hL).pre (fun _ q => q) fun t k => XS.icmpYes X.here K.1 rfl rfl (hb K.by hd) rfl (tlt q).2.2.1 h3 h4 k
  · exact (h2 q en p e s m args below meth c T locs r X K hz hF hR hL).pre (fun _ q => q) fun t k => XS.icmpNo X.here K.1 rfl (hb K.by hd) rfl (flt q).2.2.1 k
theorem Wk.if_gt {x : Int32} {o : Int} {pt : Nat} (hd : InsB md pc (.ifCond .gt o) 3 pc' o pt) (h1 : 0 < x → Wk l Z M md pt L S w cu su Q) (h2 : ¬ 0 < x → Wk l Z M md pc' L S w cu su Q) : Wk l Z M md pc L (.int x :: S) w cu su Q :=
  fun en p e s m args below meth c T locs r X K hz hF hR hL => by
  obtain ⟨hd, rfl, h3, h4⟩ := hd
  by_cases q : 0 < x
  · exact (h1 q en p e s m args below meth c T locs r X K hz hF hR hL).pre (fun _ q => q) fun t k => XS.ifYes X.here K.1 rfl rfl (hb K.by hd) rfl ((if0 _ _).trans (tlt q).2.2.1) h3 h4 k
  · exact (h2 q en p e s m args below meth c T locs r X K hz hF hR hL).pre (fun _ q => q) fun t k => XS.ifNo X.here K.1 rfl (hb K.by hd) rfl ((if0 _ _).trans (flt q).2.2.1) k
theorem Wk.icmp_le {x y : Int32} {o : Int} {pt : Nat} (hd : InsB md pc (.if_icmp .le o) 3 pc' o pt) (h1 : ¬ y < x → Wk l Z M md pt L S w cu su Q) (h2 : y < x → Wk l Z M md pc' L S w cu su Q) : Wk l Z M md pc L (.int y :: .int x :: S) w cu su Q :=
  fun en p e s m args below meth c T locs r X K hz hF hR hL => by
  obtain ⟨hd, rfl, h3, h4⟩ := hd
  by_cases q : y < x
  · exact (h2 q en p e s m args below meth c T locs r X K hz hF hR hL).pre (fun _ q => q) fun t k => XS.icmpNo X.here K.1 rfl (hb K.by hd) rfl (tlt q).2.2.2 k
  · exact (h1 q en p e s m args below meth c T locs r X K hz hF hR hL).pre (fun _ q => q) fun t k => XS.icmpYes X.here K.1 rfl rfl (hb K.by hd) rfl (flt q).2.2.2 h3 h4 k
theorem Wk.if_le {x : Int32} {o : Int} {pt : Nat} (hd : InsB md pc (.ifCond .le o) 3 pc' o pt) (h1 : ¬ 0 < x → Wk l Z M md pt L S w cu su Q) (h2 : 0 < x → Wk l Z M md pc' L S w cu su Q) : Wk l Z M md pc L (.int x :: S) w cu su Q :=
  fun en p e s m args below meth c T locs r X K hz hF hR hL => by
  obtain ⟨hd, rfl, h3, h4⟩ := hd
  by_cases q : 0 < x
  · exact (h2 q en p e s m args below meth c T locs r X K hz hF hR hL).pre (fun _ q => q) fun t k => XS.ifNo X.here K.1 rfl (hb K.by hd) rfl ((if0 _ _).trans (tlt q).2.2.2) k
  · exact (h1 q en p e s m args below meth c T locs r X K hz hF hR hL).pre (fun _ q => q) fun t k => XS.ifYes X.here K.1 rfl rfl (hb K.by hd) rfl ((if0 _ _).trans (flt q).2.2.2) h3 h4 k
theorem Wk.icmp_eq {x y : Int32} {o : Int} {pt : Nat} (hd : InsB md pc (.if_icmp .eq o) 3 pc' o pt) (h1 : x = y → Wk l Z M md pt L S w cu su Q) (h2 : ¬ x = y → Wk l Z M md pc' L S w cu su Q) : Wk l Z M md pc L (.int y :: .int x :: S) w cu su Q :=
  fun en p e s m args below meth c T locs r X K hz hF hR hL => by
  obtain ⟨hd, rfl, h3, h4⟩ := hd
  by_cases q : x = y
  · exact (h1 q en p e s m args below meth c T locs r X K hz hF hR hL).pre (fun _ q => q) fun t k => XS.icmpYes X.here K.1 rfl rfl (hb K.by hd) rfl (teq q).1 h3 h4 k
  · exact (h2 q en p e s m args below meth c T locs r X K hz hF hR hL).pre (fun _ q => q) fun t k => XS.icmpNo X.here K.1 rfl (hb K.by hd) rfl (feq q).1 k
theorem Wk.if_eq {x : Int32} {o : Int} {pt : Nat} (hd : InsB md pc (.ifCond .eq o) 3 pc' o pt) (h1 : x = 0 → Wk l Z M md pt L S w cu su Q) (h2 : ¬ x = 0 → Wk l Z M md pc' L S w cu su Q) : Wk l Z M md pc L (.int x :: S) w cu su Q :=
  fun en p e s m args below meth c T locs r X K hz hF hR hL => by
  obtain ⟨hd, rfl, h3, h4⟩ := hd
  by_cases q : x = 0
  · exact (h1 q en p e s m args below meth c T locs r X K hz hF hR hL).pre (fun _ q => q) fun t k => XS.ifYes X.here K.1 rfl rfl (hb K.by hd) rfl ((if0 _ _).trans (teq q).1) h3 h4 k
  · exact (h2 q en p e s m args below meth c T locs r X K hz hF hR hL).pre (fun _ q => q) fun t k => XS.ifNo X.here K.1 rfl (hb K.by hd) rfl ((if0 _ _).trans (feq q).1) k
theorem Wk.icmp_ne {x y : Int32} {o : Int} {pt : Nat} (hd : InsB md pc (.if_icmp .ne o) 3 pc' o pt) (h1 : ¬ x = y → Wk l Z M md pt L S w cu su Q) (h2 : x = y → Wk l Z M md pc' L S w cu su Q) : Wk l Z M md pc L (.int y :: .int x :: S) w cu su Q :=
  fun en p e s m args below meth c T locs r X K hz hF hR hL => by
  obtain ⟨hd, rfl, h3, h4⟩ := hd
  by_cases q : x = y
  · exact (h2 q en p e s m args below meth c T locs r X K hz hF hR hL).pre (fun _ q => q) fun t k => XS.icmpNo X.here K.1 rfl (hb K.by hd) rfl (teq q).2 k
  · exact (h1 q en p e s m args below meth c T locs r X K hz hF hR hL).pre (fun _ q => q) fun t k => XS.icmpYes X.here K.1 rfl rfl (hb K.by hd) rfl (feq q).2 h3 h4 k
theorem Wk.if_ne {x : Int32} {o : Int} {pt : Nat} (hd : InsB md pc (.ifCond .ne o) 3 pc' o pt) (h1 : ¬ x = 0 → Wk l Z M md pt L S w cu su Q) (h2 : x = 0 → Wk l Z M md pc' L S w cu su Q) : Wk l Z M md pc L (.int x :: S) w cu su Q :=
  fun en p e s m args below meth c T locs r X K hz hF hR hL => by
  obtain ⟨hd, rfl, h3, h4⟩ := hd
  by_cases q : x = 0
  · exact (h2 q en p e s m args below meth c T locs r X K hz hF hR hL).pre (fun _ q => q) fun t k => XS.ifNo X.here K.1 rfl (hb K.by hd) rfl ((if0 _ _).trans (teq q).2) k
  · exact (h1 q en p e s m args below meth c T locs r X K hz hF hR hL).pre (fun _ q => q) fun t k => XS.ifYes X.here K.1 rfl rfl (hb K.by hd) rfl ((if0 _ _).trans (feq q).2) h3 h4 k
theorem Wk.tswIn {dflt low high o : Int} {offs : Array Int} {len pt : Nat} {x z : Int32} (hd : InsB md pc (.tableswitch dflt low high offs) len pc' o pt) (hx : x = z) (hin : ¬ (z.toInt < low ∨ z.toInt > high)) (hoff : offs[(z.toInt - low).toNat]? = some o) (h : Wk l Z M md pt L S w cu su Q) : Wk l Z M md pc L (.int x :: S) w cu su Q :=
  fun en p e s m args below meth c T locs r X K hz hF hR hL => by
  obtain ⟨hd, rfl, h3, h4⟩ := hd
  subst hx
  exact (h en p e s m args below meth c T locs r X K hz hF hR hL).pre (fun _ q => q) fun t k => XS.tswIn X.here K.1 rfl rfl (hb K.by hd) rfl hin hoff h3 h4 k
theorem Wk.tswOut {dflt low high : Int} {offs : Array Int} {len pt : Nat} {x : Int32} (hd : InsB md pc (.tableswitch dflt low high offs) len pc' dflt pt) (hout : x.toInt < low ∨ x.toInt > high) (h : Wk l Z M md pt L S w cu su Q) : Wk l Z M md pc L (.int x :: S) w cu su Q :=
  fun en p e s m args below meth c T locs r X K hz hF hR hL => by
  obtain ⟨hd, rfl, h3, h4⟩ := hd
  exact (h en p e s m args below meth c T locs r X K hz hF hR hL).pre (fun _ q => q) fun t k => XS.tswOut X.here K.1 rfl rfl (hb K.by hd) rfl hout h3 h4 k
theorem Wk.ldc {idx : Nat} {z : Int32} {a0 : Array Value} (hd : InsA md pc (.ldc idx) 2 pc') (wd : (Cond.constant M.own idx z).before a0 Z = true) (h : Wk l Z M md pc' L (.int z :: S) w cu su Q) : Wk l Z M md pc L S w cu su Q :=
  fun en p e s m args below meth c T locs r X K hz hF hR hL => by
  obtain ⟨hd, rfl⟩ := hd
  have hc : (Cond.constant M.own idx z).before args s = true := mvT K.2.1 wd
  exact (h en p e s m args below meth c T locs r X K hz hF hR hL).pre (fun _ q => q) fun t k => X.ldcInt K.1 K.2.2.1 hc (g := mkF m pc r (S.map (rv (M.rho en)))) rfl (hb K.by hd) t k
theorem Wk.ldcw {idx : Nat} {z : Int32} {a0 : Array Value} (hd : InsA md pc (.ldc_w idx) 3 pc') (wd : (Cond.constant M.own idx z).before a0 Z = true) (h : Wk l Z M md pc' L (.int z :: S) w cu su Q) : Wk l Z M md pc L S w cu su Q :=
  fun en p e s m args below meth c T locs r X K hz hF hR hL => by
  obtain ⟨hd, rfl⟩ := hd
  have hc : (Cond.constant M.own idx z).before args s = true := mvT K.2.1 wd
  exact (h en p e s m args below meth c T locs r X K hz hF hR hL).pre (fun _ q => q) fun t k => X.ldcwInt K.1 K.2.2.1 hc (g := mkF m pc r (S.map (rv (M.rho en)))) rfl (hb K.by hd) t k
theorem Wk.ldc2 {idx : Nat} {z : Int64} {a0 : Array Value} (hd : InsA md pc (.ldc2_w idx) 3 pc') (wd : (Cond.constantLong M.own idx z).before a0 Z = true) (h : Wk l Z M md pc' L (.long z :: S) w cu su Q) : Wk l Z M md pc L S w cu su Q :=
  fun en p e s m args below meth c T locs r X K hz hF hR hL => by
  obtain ⟨hd, rfl⟩ := hd
  have hc : (Cond.constantLong M.own idx z).before args s = true := mvT K.2.1 wd
  exact (h en p e s m args below meth c T locs r X K hz hF hR hL).pre (fun _ q => q) fun t k => X.ldc2Long K.1 K.2.2.1 hc (g := mkF m pc r (S.map (rv (M.rho en)))) rfl (hb K.by hd) t k
/-! returns -/
theorem Wk.ireturn {x : Int32} (hM : ∀ en h, M.frm en h h) (hret : rtOf md = some .int) (hd : InsA md pc .ireturn 1 pc') (hc : cu = exOf md) (hc2 : exOf md ≤ (rmOf md).cells) (hs : su ≤ (rmOf md).slots) (hq : Q (some (.int x)) w) : Wk l Z M md pc L (.int x :: S) w cu su Q :=
  fun en p e s m args below meth c T locs r X K hz hF hR hL => by
  subst hc
  have hr := K.2.2.2.2.1.trans hret
  exact ⟨T, locs, su, _, w, X, hc2, hs, hz, hF, hR, hM _ _, fun q => (by rw [hr] at q; cases q), fun ρ y e => (by cases e; rfl), hq, fun fs hf => retI X K.1 hr (hb K.by hd.1) hf⟩
theorem Wk.zreturn {x y : Int32} (hM : ∀ en h, M.frm en h h) (hret : rtOf md = some .boolean) (hd : InsA md pc .ireturn 1 pc') (hc : cu = exOf md) (hc2 : exOf md ≤ (rmOf md).cells) (hs : su ≤ (rmOf md).slots) (hy : nar .boolean x = y) (hq : Q (some (.int y)) w) : Wk l Z M md pc L (.int x :: S) w cu su Q :=
  fun en p e s m args below meth c T locs r X K hz hF hR hL => by
  subst hc hy
  have hr := K.2.2.2.2.1.trans hret
  exact ⟨T, locs, su, _, w, X, hc2, hs, hz, hF, hR, hM _ _, fun q => (by rw [hr] at q; cases q), fun ρ y e => (by cases e; rfl), hq, fun fs hf => retN X K.1 (t := .boolean) hr (by simp) (hb K.by hd.1) hf⟩
theorem Wk.lreturn {x : Int64} (hM : ∀ en h, M.frm en h h) (hret : rtOf md = some .long) (hd : InsA md pc .lreturn 1 pc') (hc : cu = exOf md) (hc2 : exOf md ≤ (rmOf md).cells) (hs : su ≤ (rmOf md).slots) (hq : Q (some (.long x)) w) : Wk l Z M md pc L [.long x] w cu su Q :=
  fun en p e s m args below meth c T locs r X K hz hF hR hL => by
  subst hc
  have hr := K.2.2.2.2.1.trans hret
  exact ⟨T, locs, su, _, w, X, hc2, hs, hz, hF, hR, hM _ _, fun q => (by rw [hr] at q; cases q), fun ρ y e => (by cases e; rfl), hq, fun fs hf => X.lreturnOut K.1 hr (hb K.by hd.1) hf⟩
theorem Wk.ret (hM : ∀ en h, M.frm en h h) (hret : rtOf md = none) (hd : InsA md pc .return_ 1 pc') (hc : cu = exOf md) (hc2 : exOf md ≤ (rmOf md).cells) (hs : su ≤ (rmOf md).slots) (hq : Q none w) : Wk l Z M md pc L [] w cu su Q :=
  fun en p e s m args below meth c T locs r X K hz hF hR hL => by
  subst hc
  have hr := K.2.2.2.2.1.trans hret
  exact ⟨T, locs, su, none, w, X, hc2, hs, hz, hF, hR, hM _ _, fun _ => rfl, fun ρ y e => (by cases e), hq, fun fs hf => X.returnOut K.1 hr (hb K.by hd.1) hf⟩
/-! a walk from the entry is a contract -/
theorem Wk.met (h : Wk l Z M md 0 L [] w 0 0 Q) (hp : plainName (nmOf md).cls = true) (ho : M.own = (nmOf md).cls) {en : E} {h0 : Heap} (hR : M.rel en w h0) (as : List Value) (hL : (argsToLocals as.toArray (mxOf md)).toList = L) (hw : wfL L = true) (ws : List Jvm.Cond) :
    MetFree l (nmOf md) (head1 (Jvm.Cond.code (nmOf md) (byOf md) (mxOf md) (rtOf md) :: ws) (rmOf md)) (fun a U => a = (as.map (rv (M.rho en))).toArray ∧ Z.Warmed39 U.vm ∧ U.heap = h0) (fun _ _ _ _ _ => True)
      (fun _ U o U' => ∃ v Lc, o = .returned v ∧ (∃ w', Q v w' ∧ M.rel en w' U'.heap ∧ M.frm en h0 U'.heap ∧ Fr (M.lo en) Lc ∧ U'.heap.size = h0.size + exOf md ∧ ∀ ρ x, v = some x → rv ρ x = x) ∧ FrameEnd U o U' Lc (rmOf md).cells (rmOf md).slots) := by
  refine MetFree.of_bodySF (plainFor_of_name hp) hisR ?_
  intro p e s m args below meth c s₁ Bd hml0 hP hK
  obtain ⟨rfl, hZ, hh⟩ := hP
  have hown : s.vm.findClass (nmOf md).cls = some m.cls := findClass_of_methodNamed Bd.named
  have hnm := (name_of_methodNamed Bd.named Bd.method).1
  have X0 : Stand p l e (rmOf md) s m (as.map (rv (M.rho en))).toArray below meth c s₁ [] 0 0 := Stand.of_body Bd
  have e0 : s₁.heap = s.heap := by rw [Bd.state]; rfl
  subst hh
  obtain ⟨T', locs', su', v, w', a1, a2, a3, a4, a5, a6, a7, a8, a9, a10, a11⟩ := h en p e s m _ below meth c s₁ [] _ X0 ⟨Bd.exec, hZ, by rw [ho]; exact hown, hnm, Bd.returns, BodyLoose.notSynchronized Bd, Bd.bytes, hml0⟩ (by rw [e0]; rfl) (Fr.nil _) (by rw [e0]; exact hR) (SR.entry (M.rho en) as (mxOf md) hL hw)
  obtain ⟨fs, hr, hrun, hended, hW, hsame⟩ := a1.leave (v := v) a8 (BodyLoose.notSynchronized Bd)
  rw [e0] at a7
  exact ⟨_, _, a11 fs hr, hrun, hended, v, locs', rfl, ⟨w', a10, a6, a7, a5, a4, a9⟩, ⟨_, rfl⟩, hW, hsame.mono a2 a3⟩
end Steps
end Jvm.Own

namespace Jvm.Own
open Jvm Jvm.ClassFile Sem Op Lib Jvm.Free Jvm.Stand Jvm.LawKit Jvm.RoadKit
/-! ## 3. One object of the project's class, with its arrays behind it -/
/-- how many arrays are made; the ints; the longs; the arrays of ints (and booleans); of longs -/
abbrev WO : Type := Nat × (Nat → Int32) × (Nat → Int64) × (Nat → Int32 → Int32) × (Nat → Int32 → Int64)
/-- the class; its fields of ints and booleans (number, name, descriptor); of longs; of arrays, in the order in which they are made -/
abbrev CD : Type := String × List (Nat × String × String) × List (Nat × String) × List (Nat × String × String × FieldType × Int32)
def ups {κ α : Type} [DecidableEq κ] (f : κ → α) (i : κ) (x : α) : κ → α := fun k => if k = i then x else f k
theorem ups_at {κ α : Type} [DecidableEq κ] (f : κ → α) (i : κ) (x : α) : ups f i x i = x := by simp [ups]
theorem ups_ne {κ α : Type} [DecidableEq κ] (f : κ → α) {i k : κ} (x : α) (h : k ≠ i) : ups f i x k = f k := by simp [ups, h]
def el : FieldType → Int32 → Int64 → Value
  | .long, _, j => .long j
  | _, i, _ => .int i
theorem el_int {ty : FieldType} (h : ty ≠ .long) (i : Int32) (j : Int64) : el ty i j = .int i := by cases ty <;> first | rfl | exact absurd rfl h
def AtA (Z : State) (h : Heap) (b : Addr) (ty : FieldType) (n : Int32) (f : Int32 → Int32) (g : Int32 → Int64) : Prop :=
  ∃ cl, Arr Z h b cl ty ∧ cl.slots.size = n.toNatClampNeg ∧ ∀ x : Int32, ¬ x < 0 → x < n → cl.slots[x.toNatClampNeg]? = some (el ty (f x) (g x))
def relC (Z : State) (cd : CD) (en : Nat × Nat) (w : WO) (h : Heap) : Prop :=
  en.2 ≤ en.1 ∧ Exa Z h en.1 cd.1 ∧ (∀ t ∈ cd.2.1, Fld Z h en.1 cd.1 t.2.1 t.2.2 (.int (w.2.1 t.1))) ∧ (∀ t ∈ cd.2.2.1, Fld Z h en.1 cd.1 t.2 "J" (.long (w.2.2.1 t.1))) ∧
  (∀ t ∈ cd.2.2.2, (t.1 < w.1 → Fld Z h en.1 cd.1 t.2.1 t.2.2.1 (.ref (en.1 + (t.1 + 1))) ∧ AtA Z h (en.1 + (t.1 + 1)) t.2.2.2.1 t.2.2.2.2 (w.2.2.2.1 t.1) (w.2.2.2.2 t.1)) ∧ (¬ t.1 < w.1 → Fld Z h en.1 cd.1 t.2.1 t.2.2.1 .null)) ∧
  (w.1 < cd.2.2.2.length → h.size = en.1 + 1 + w.1)
def frmC (cd : CD) (en : Nat × Nat) (h h' : Heap) : Prop := h.size ≤ h'.size ∧ ∀ (x : Nat) (c : Cell), h[x]? = some c → (x < en.1 ∨ en.1 + cd.2.2.2.length < x) → h'[x]? = some c
abbrev MoC (Z : State) (cd : CD) : Mode WO (Nat × Nat) := (cd.1, fun en k => en.1 + k, fun en => en.2, relC Z cd, frmC cd)
theorem nn {a b : Nat} (h : a ≠ b) : @Ne Addr a b := h
theorem frmC.refl (cd : CD) (en : Nat × Nat) (h : Heap) : frmC cd en h h := ⟨Nat.le_refl _, fun _ _ q _ => q⟩
theorem frmC.trans {cd : CD} {en : Nat × Nat} {h1 h2 h3 : Heap} (a : frmC cd en h1 h2) (b : frmC cd en h2 h3) : frmC cd en h1 h3 := ⟨Nat.le_trans a.1 b.1, fun x c q r => b.2 x c (a.2 x c q r) r⟩
theorem frmC.wr {cd : CD} {en : Nat × Nat} {h h' : Heap} {b : Nat} {sl : Nat} {v : Value} (W : Wr h h' b sl v) (h1 : en.1 ≤ b) (h2 : b ≤ en.1 + cd.2.2.2.length) : frmC cd en h h' := by
  refine ⟨Nat.le_of_eq W.size.symm, fun x c q r => ?_⟩
  obtain ⟨c', e1, -, -, -, e5, -⟩ := wr_at W q
  rw [← e5 (nn (by omega))]; exact e1
theorem frmC.ext {cd : CD} {en : Nat × Nat} {h h' : Heap} (E : Ext h h') : frmC cd en h h' := ⟨E.1, fun x c q _ => E.2 x c q⟩
def okC (cd : CD) : Prop :=
  (∀ t ∈ cd.2.1, ∀ t' ∈ cd.2.1, (t.1 = t'.1 → t = t') ∧ (t.1 ≠ t'.1 → t.2.1 ≠ t'.2.1)) ∧ (∀ t ∈ cd.2.2.1, ∀ t' ∈ cd.2.2.1, (t.1 = t'.1 → t = t') ∧ (t.1 ≠ t'.1 → t.2 ≠ t'.2)) ∧ (∀ t ∈ cd.2.2.2, ∀ t' ∈ cd.2.2.2, (t.1 = t'.1 → t = t') ∧ (t.1 ≠ t'.1 → t.2.1 ≠ t'.2.1)) ∧
  (∀ t ∈ cd.2.1, ∀ t' ∈ cd.2.2.1, t.2.1 ≠ t'.2) ∧ (∀ t ∈ cd.2.1, ∀ t' ∈ cd.2.2.2, t.2.1 ≠ t'.2.1) ∧ (∀ t ∈ cd.2.2.1, ∀ t' ∈ cd.2.2.2, t.2 ≠ t'.2.1) ∧
  (∀ t ∈ cd.2.1, parseFieldDescriptor t.2.2 = some .int ∨ parseFieldDescriptor t.2.2 = some .boolean) ∧
  (∀ t ∈ cd.2.2.2, parseFieldDescriptor t.2.2.1 = some (.array t.2.2.2.1) ∧ t.1 < cd.2.2.2.length ∧ (t.2.2.2.1 = .int ∨ t.2.2.2.1 = .boolean ∨ t.2.2.2.1 = .long) ∧ ¬ t.2.2.2.2 < 0)
/-- what the words say of the class -/
def CO (Z : State) (a0 : Array Value) (cd : CD) : Prop :=
  (∃ kk, (Cond.instantiable cd.1 kk).before a0 Z = true) ∧ (∀ t ∈ cd.2.1, Laid Z a0 cd.1 cd.1 t.2.1 t.2.2) ∧ (∀ t ∈ cd.2.2.1, Laid Z a0 cd.1 cd.1 t.2 "J") ∧ (∀ t ∈ cd.2.2.2, Laid Z a0 cd.1 cd.1 t.2.1 t.2.2.1) ∧ okC cd
theorem pJ : parseFieldDescriptor "J" = some .long := by decide +kernel
theorem snJ {Z : State} {a0 : Array Value} {C n n' d' : String} {t' : FieldType} (L : Laid Z a0 C C n "J") (L' : Laid Z a0 C C n' d') (hn : n ≠ n') (ht' : parseFieldDescriptor d' = some t') : Jvm.RoadKit.slotOf Z C n "J" ≠ Jvm.RoadKit.slotOf Z C n' d' := by
  have p := pJ
  generalize "J" = q at *
  exact slot_ne L L' hn p ht'
section Rel
variable {Z : State} {a0 : Array Value} {cd : CD} {en : Nat × Nat} {h h' : Heap} {k : Nat} {F : Nat → Int32} {G : Nat → Int64} {A : Nat → Int32 → Int32} {B : Nat → Int32 → Int64}
theorem pI (ok : CO Z a0 cd) {t : Nat × String × String} (ht : t ∈ cd.2.1) : ∃ ty, parseFieldDescriptor t.2.2 = some ty := by
  rcases ok.2.2.2.2.2.2.2.2.2.2.1 t ht with q | q <;> exact ⟨_, q⟩
theorem AtA.other {b b' : Addr} {ty : FieldType} {n : Int32} {f : Int32 → Int32} {g : Int32 → Int64} {sl : Nat} {v : Value} (W : Wr h h' b sl v) (H : AtA Z h b' ty n f g) (hne : b' ≠ b) : AtA Z h' b' ty n f g := by
  obtain ⟨cl, h1, h2, h3⟩ := H
  exact ⟨cl, h1.other W hne, h2, h3⟩
theorem AtA.ext {b' : Addr} {ty : FieldType} {n : Int32} {f : Int32 → Int32} {g : Int32 → Int64} (E : Ext h h') (H : AtA Z h b' ty n f g) : AtA Z h' b' ty n f g := by
  obtain ⟨cl, h1, h2, h3⟩ := H
  exact ⟨cl, h1.ext E, h2, h3⟩
theorem clamp_lt {x n : Int32} (h0 : ¬ x < 0) (h1 : x < n) : x.toNatClampNeg < n.toNatClampNeg := by
  simp only [Int32.lt_iff_toInt_lt, Int32.reduceToInt, Int32.toNatClampNeg] at *
  omega
theorem in_of {x n : Int32} {cl : Cell} (h2 : cl.slots.size = n.toNatClampNeg) (h0 : ¬ x < 0) (h1 : x < n) : ¬ (x < 0 ∨ cl.slots.size ≤ x.toNatClampNeg) := by
  have := clamp_lt h0 h1
  rintro (q | q)
  · exact h0 q
  · omega
theorem AtA.stI {b : Addr} {ty : FieldType} {n : Int32} {f : Int32 → Int32} {g : Int32 → Int64} {j x : Int32} (hty : ty ≠ .long) (h0 : ¬ j < 0) (h1 : j < n) (W : Wr h h' b j.toNatClampNeg (.int x)) (H : AtA Z h b ty n f g) : AtA Z h' b ty n (ups f j x) g := by
  obtain ⟨cl, g1, g2, g3⟩ := H
  refine ⟨_, g1.same W, by rw [sz_set]; exact g2, fun y y0 y1 => ?_⟩
  by_cases e : y = j
  · rw [get_hit (in_of g2 h0 h1) e, e, ups_at, el_int hty]
  · rw [get_miss h0 y0 e, ups_ne _ _ e]; exact g3 y y0 y1
theorem AtA.stJ {b : Addr} {n : Int32} {f : Int32 → Int32} {g : Int32 → Int64} {j : Int32} {x : Int64} (h0 : ¬ j < 0) (h1 : j < n) (W : Wr h h' b j.toNatClampNeg (.long x)) (H : AtA Z h b .long n f g) : AtA Z h' b .long n f (ups g j x) := by
  obtain ⟨cl, g1, g2, g3⟩ := H
  refine ⟨_, g1.same W, by rw [sz_set]; exact g2, fun y y0 y1 => ?_⟩
  by_cases e : y = j
  · rw [get_hit (in_of g2 h0 h1) e, e, ups_at]; rfl
  · rw [get_miss h0 y0 e, ups_ne _ _ e]; exact g3 y y0 y1
theorem relC.putI (ok : CO Z a0 cd) {i : Nat} {n d : String} {x : Int32} (hR : relC Z cd en (k, F, G, A, B) h) (ht : (i, n, d) ∈ cd.2.1) (W : Wr h h' en.1 (Jvm.RoadKit.slotOf Z cd.1 n d) (.int x)) : relC Z cd en (k, ups F i x, G, A, B) h' := by
  obtain ⟨r1, r2, r3, r4, r5, r6⟩ := hR
  obtain ⟨-, o2, o3, o4, q1, q2, q3, q4, q5, q6, q7, q8⟩ := ok
  obtain ⟨ty0, p0⟩ : ∃ ty, parseFieldDescriptor d = some ty := by rcases q7 _ ht with q | q <;> exact ⟨_, q⟩
  refine ⟨r1, r2.wr W, fun t m => ?_, fun t m => ?_, fun t m => ⟨fun hk => ?_, fun hk => ?_⟩, fun q => ?_⟩
  · obtain ⟨u1, u2⟩ := q1 _ m _ ht
    by_cases e : t.1 = i
    · have e2 := u1 e
      subst e2
      show Fld Z h' en.1 cd.1 n d (.int (ups F i x i))
      rw [ups_at]
      exact (r3 _ ht).same W
    · show Fld Z h' en.1 cd.1 _ _ (.int (ups F i x t.1))
      rw [ups_ne _ _ e]
      obtain ⟨ty1, p1⟩ : ∃ ty, parseFieldDescriptor t.2.2 = some ty := by rcases q7 _ m with q | q <;> exact ⟨_, q⟩
      have z0 := slot_ne (o2 _ m) (o2 _ ht) (u2 e) p1 p0
      exact (r3 t m).other W (Or.inr z0)
  · have e1 := o3 _ m
    have e2 := o2 _ ht
    have e3 := q4 _ ht _ m
    have e4 := snJ e1 e2 (Ne.symm e3) p0
    have e5 := r4 t m
    exact e5.other W (Or.inr e4)
  · obtain ⟨a1, a2⟩ := (r5 t m).1 hk
    have z0 := slot_ne (o4 _ m) (o2 _ ht) (Ne.symm (q5 _ ht _ m)) (q8 _ m).1 p0
    exact ⟨a1.other W (Or.inr z0), a2.other W (nn (by omega))⟩
  · have z0 := slot_ne (o4 _ m) (o2 _ ht) (Ne.symm (q5 _ ht _ m)) (q8 _ m).1 p0
    exact ((r5 t m).2 hk).other W (Or.inr z0)
  · rw [W.size]; exact r6 q
theorem relC.putJ (ok : CO Z a0 cd) {i : Nat} {n : String} {x : Int64} (hR : relC Z cd en (k, F, G, A, B) h) (ht : (i, n) ∈ cd.2.2.1) (W : Wr h h' en.1 (Jvm.RoadKit.slotOf Z cd.1 n "J") (.long x)) : relC Z cd en (k, F, ups G i x, A, B) h' := by
  obtain ⟨r1, r2, r3, r4, r5, r6⟩ := hR
  obtain ⟨-, o2, o3, o4, q1, q2, q3, q4, q5, q6, q7, q8⟩ := ok
  refine ⟨r1, r2.wr W, fun t m => ?_, fun t m => ?_, fun t m => ⟨fun hk => ?_, fun hk => ?_⟩, fun q => ?_⟩
  · obtain ⟨ty1, p1⟩ : ∃ ty, parseFieldDescriptor t.2.2 = some ty := by rcases q7 _ m with q | q <;> exact ⟨_, q⟩
    have z0 := Ne.symm (snJ (o3 _ ht) (o2 _ m) (Ne.symm (q4 _ m _ ht)) p1)
    exact (r3 t m).other W (Or.inr z0)
  · obtain ⟨u1, u2⟩ := q2 _ m _ ht
    by_cases e : t.1 = i
    · have e2 := u1 e
      subst e2
      show Fld Z h' en.1 cd.1 n "J" (.long (ups G i x i))
      rw [ups_at]
      exact (r4 _ ht).same W
    · show Fld Z h' en.1 cd.1 _ _ (.long (ups G i x t.1))
      rw [ups_ne _ _ e]
      have z0 := snJ (o3 _ m) (o3 _ ht) (u2 e) pJ
      exact (r4 t m).other W (Or.inr z0)
  · obtain ⟨a1, a2⟩ := (r5 t m).1 hk
    have z0 := Ne.symm (snJ (o3 _ ht) (o4 _ m) (q6 _ ht _ m) (q8 _ m).1)
    exact ⟨a1.other W (Or.inr z0), a2.other W (nn (by omega))⟩
  · have z0 := Ne.symm (snJ (o3 _ ht) (o4 _ m) (q6 _ ht _ m) (q8 _ m).1)
    exact ((r5 t m).2 hk).other W (Or.inr z0)
  · rw [W.size]; exact r6 q
theorem relC.stI (ok : CO Z a0 cd) {i : Nat} {n d : String} {ty : FieldType} {len j x : Int32} (hty : ty ≠ .long) (h0 : ¬ j < 0) (h1 : j < len) (hR : relC Z cd en (k, F, G, A, B) h) (ht : (i, n, d, ty, len) ∈ cd.2.2.2) (W : Wr h h' (en.1 + (i + 1)) j.toNatClampNeg (.int x)) : relC Z cd en (k, F, G, ups A i (ups (A i) j x), B) h' := by
  obtain ⟨r1, r2, r3, r4, r5, r6⟩ := hR
  obtain ⟨-, o2, o3, o4, q1, q2, q3, q4, q5, q6, q7, q8⟩ := ok
  refine ⟨r1, r2.wr W, fun t m => (r3 t m).other W (Or.inl (nn (by omega))), fun t m => (r4 t m).other W (Or.inl (nn (by omega))), fun t m => ⟨fun hk => ?_, fun hk => ((r5 t m).2 hk).other W (Or.inl (nn (by omega)))⟩, fun q => by rw [W.size]; exact r6 q⟩
  obtain ⟨a1, a2⟩ := (r5 t m).1 hk
  refine ⟨a1.other W (Or.inl (nn (by omega))), ?_⟩
  obtain ⟨u1, u2⟩ := q3 _ m _ ht
  show AtA Z h' _ _ _ (ups A i (ups (A i) j x) t.1) (B t.1)
  by_cases e : t.1 = i
  · have e2 := u1 e
    subst e2
    rw [ups_at]
    exact a2.stI hty h0 h1 W
  · rw [ups_ne _ _ e]
    exact a2.other W (nn (by omega))
theorem relC.stJ (ok : CO Z a0 cd) {i : Nat} {n d : String} {len j : Int32} {x : Int64} (h0 : ¬ j < 0) (h1 : j < len) (hR : relC Z cd en (k, F, G, A, B) h) (ht : (i, n, d, .long, len) ∈ cd.2.2.2) (W : Wr h h' (en.1 + (i + 1)) j.toNatClampNeg (.long x)) : relC Z cd en (k, F, G, A, ups B i (ups (B i) j x)) h' := by
  obtain ⟨r1, r2, r3, r4, r5, r6⟩ := hR
  obtain ⟨-, o2, o3, o4, q1, q2, q3, q4, q5, q6, q7, q8⟩ := ok
  refine ⟨r1, r2.wr W, fun t m => (r3 t m).other W (Or.inl (nn (by omega))), fun t m => (r4 t m).other W (Or.inl (nn (by omega))), fun t m => ⟨fun hk => ?_, fun hk => ((r5 t m).2 hk).other W (Or.inl (nn (by omega)))⟩, fun q => by rw [W.size]; exact r6 q⟩
  obtain ⟨a1, a2⟩ := (r5 t m).1 hk
  refine ⟨a1.other W (Or.inl (nn (by omega))), ?_⟩
  obtain ⟨u1, u2⟩ := q3 _ m _ ht
  show AtA Z h' _ _ _ (A t.1) (ups B i (ups (B i) j x) t.1)
  by_cases e : t.1 = i
  · have e2 := u1 e
    subst e2
    rw [ups_at]
    exact a2.stJ h0 h1 W
  · rw [ups_ne _ _ e]
    exact a2.other W (nn (by omega))
theorem relC.newA (ok : CO Z a0 cd) {h1 : Heap} {n d : String} {ty : FieldType} {len : Int32} {cA : ClassId} (hR : relC Z cd en (k, F, G, A, B) h) (ht : (k, n, d, ty, len) ∈ cd.2.2.2) (hA : A k = fun _ => 0) (hB : B k = fun _ => 0) (E : Ext h h1) (N : Arr Z h1 h.size (Jvm.RoadKit.newA cA ty len) ty) (W : Wr h1 h' en.1 (Jvm.RoadKit.slotOf Z cd.1 n d) (.ref h.size)) (hz : h'.size = h.size + 1) : relC Z cd en (k + 1, F, G, A, B) h' := by
  obtain ⟨r1, r2, r3, r4, r5, r6⟩ := hR
  obtain ⟨-, o2, o3, o4, q1, q2, q3, q4, q5, q6, q7, q8⟩ := ok
  have hsz : h.size = en.1 + 1 + k := r6 (q8 _ ht).2.1
  refine ⟨r1, (r2.ext E).wr W, fun t m => ?_, fun t m => ?_, fun t m => ⟨fun hk => ?_, fun hk => ?_⟩, fun q => ?_⟩
  · obtain ⟨ty1, p1⟩ : ∃ ty, parseFieldDescriptor t.2.2 = some ty := by rcases q7 _ m with q | q <;> exact ⟨_, q⟩
    have z0 := slot_ne (o2 _ m) (o4 _ ht) (q5 _ m _ ht) p1 (q8 _ ht).1
    exact ((r3 t m).ext E).other W (Or.inr z0)
  · have z0 := snJ (o3 _ m) (o4 _ ht) (q6 _ m _ ht) (q8 _ ht).1
    exact ((r4 t m).ext E).other W (Or.inr z0)
  · obtain ⟨u1, u2⟩ := q3 _ m _ ht
    by_cases e : t.1 = k
    · have e2 := u1 e
      subst e2
      have f0 := ((r5 _ ht).2 (Nat.lt_irrefl k)).ext E
      refine ⟨?_, ?_⟩
      · have := f0.same W
        rw [hsz] at this
        show Fld Z h' en.1 cd.1 n d (.ref (en.1 + (k + 1)))
        rw [show en.1 + (k + 1) = en.1 + 1 + k by omega]
        exact this
      · show AtA Z h' (en.1 + (k + 1)) ty len (A k) (B k)
        rw [hA, hB, show en.1 + (k + 1) = h.size by omega]
        refine AtA.other W ⟨_, N, sz_new _ _ _, fun x x0 x1 => ?_⟩ (nn (by omega))
        rw [get_new (in_of (cl := Jvm.RoadKit.newA cA ty len) (sz_new _ _ _) x0 x1 |> fun q => by rwa [sz_new] at q)]
        have o := (q8 _ ht).2.2.1
        rcases o with o | o | o <;> (have o' : ty = _ := o; subst o'; rfl)
    · obtain ⟨a1, a2⟩ := (r5 t m).1 (by show t.1 < k; have : t.1 < k + 1 := hk; omega)
      have z0 := slot_ne (o4 _ m) (o4 _ ht) (u2 e) (q8 _ m).1 (q8 _ ht).1
      exact ⟨(a1.ext E).other W (Or.inr z0), (a2.ext E).other W (nn (by omega))⟩
  · obtain ⟨u1, u2⟩ := q3 _ m _ ht
    have hk' : ¬ t.1 < k + 1 := hk
    have z0 := slot_ne (o4 _ m) (o4 _ ht) (u2 (by show t.1 ≠ k; omega)) (q8 _ m).1 (q8 _ ht).1
    exact (((r5 t m).2 (by show ¬ t.1 < k; omega)).ext E).other W (Or.inr z0)
  · show h'.size = en.1 + 1 + (k + 1)
    omega
end Rel
section StepsC
variable {l : Launch} {Z : State} {a0 : Array Value} {cd : CD} {md : MD} {pc pc' pc1 : Nat} {L L' : List Slot} {S : List Value} {k : Nat} {F : Nat → Int32} {G : Nat → Int64} {A : Nat → Int32 → Int32} {B : Nat → Int32 → Int64} {cu su cu' su' : Nat} {Q : Option Value → WO → Prop} {idx : Nat}
theorem Wk.getI {i : Nat} {n d : String} {x : Int32} (ht : (i, n, d) ∈ cd.2.1) (wl : (Cond.fieldLink cd.1 idx cd.1 n d).before a0 Z = true) (hd : InsA md pc (.getfield idx) 3 pc') (hx : F i = x) (h : Wk l Z (MoC Z cd) md pc' L (.int x :: S) (k, F, G, A, B) cu su Q) : Wk l Z (MoC Z cd) md pc L (.ref 0 :: S) (k, F, G, A, B) cu su Q :=
  fun en p e s m args below meth c T locs r X K hz hF hR hL => by
  obtain ⟨hd, rfl⟩ := hd
  subst hx
  obtain ⟨T1, X1, e1, st⟩ := getF X K.1 K.2.1 K.2.2.1 (host := "") (Or.inl wl) Via.refl rfl (hR.2.2.1 _ ht) (g := mkF m pc r (.ref en.1 :: S.map (rv ((MoC Z cd).rho en)))) rfl rfl (hb K.by hd)
  refine (h en p e s m args below meth c T1 locs r X1 K (by rw [e1]; exact hz) hF (by rw [e1]; exact hR) hL).pre (fun _ q => by rw [e1] at q; exact q) fun t q => st t q
theorem Wk.getJ {i : Nat} {n : String} {x : Int64} (ht : (i, n) ∈ cd.2.2.1) (wl : (Cond.fieldLink cd.1 idx cd.1 n "J").before a0 Z = true) (hd : InsA md pc (.getfield idx) 3 pc') (hx : G i = x) (h : Wk l Z (MoC Z cd) md pc' L (.long x :: S) (k, F, G, A, B) cu su Q) : Wk l Z (MoC Z cd) md pc L (.ref 0 :: S) (k, F, G, A, B) cu su Q :=
  fun en p e s m args below meth c T locs r X K hz hF hR hL => by
  obtain ⟨hd, rfl⟩ := hd
  subst hx
  obtain ⟨T1, X1, e1, st⟩ := getF X K.1 K.2.1 K.2.2.1 (host := "") (Or.inl wl) Via.refl rfl (hR.2.2.2.1 _ ht) (g := mkF m pc r (.ref en.1 :: S.map (rv ((MoC Z cd).rho en)))) rfl rfl (hb K.by hd)
  refine (h en p e s m args below meth c T1 locs r X1 K (by rw [e1]; exact hz) hF (by rw [e1]; exact hR) hL).pre (fun _ q => by rw [e1] at q; exact q) fun t q => st t q
theorem Wk.getA {i i' : Nat} {n d : String} {ty : FieldType} {len : Int32} (ht : (i, n, d, ty, len) ∈ cd.2.2.2) (hi : i < k) (hi' : i + 1 = i') (wl : (Cond.fieldLink cd.1 idx cd.1 n d).before a0 Z = true) (hd : InsA md pc (.getfield idx) 3 pc') (h : Wk l Z (MoC Z cd) md pc' L (.ref i' :: S) (k, F, G, A, B) cu su Q) : Wk l Z (MoC Z cd) md pc L (.ref 0 :: S) (k, F, G, A, B) cu su Q :=
  fun en p e s m args below meth c T locs r X K hz hF hR hL => by
  obtain ⟨hd, rfl⟩ := hd
  subst hi'
  obtain ⟨T1, X1, e1, st⟩ := getF X K.1 K.2.1 K.2.2.1 (host := "") (Or.inl wl) Via.refl rfl ((hR.2.2.2.2.1 _ ht).1 hi).1 (g := mkF m pc r (.ref en.1 :: S.map (rv ((MoC Z cd).rho en)))) rfl rfl (hb K.by hd)
  refine (h en p e s m args below meth c T1 locs r X1 K (by rw [e1]; exact hz) hF (by rw [e1]; exact hR) hL).pre (fun _ q => by rw [e1] at q; exact q) fun t q => st t q
theorem Wk.putI (ok : CO Z a0 cd) {i : Nat} {n : String} {x : Int32} (ht : (i, n, "I") ∈ cd.2.1) (wl : (Cond.fieldLink cd.1 idx cd.1 n "I").before a0 Z = true) (wy : (Cond.lays cd.1 cd.1 n "I").before a0 Z = true ∨ ((Cond.laysFinal cd.1 cd.1 n "I").before a0 Z = true ∧ (nmOf md).name = "<init>")) (hd : InsA md pc (.putfield idx) 3 pc') (h : Wk l Z (MoC Z cd) md pc' L S (k, ups F i x, G, A, B) cu su Q) : Wk l Z (MoC Z cd) md pc L (.int x :: .ref 0 :: S) (k, F, G, A, B) cu su Q :=
  fun en p e s m args below meth c T locs r X K hz hF hR hL => by
  obtain ⟨hd, rfl⟩ := hd
  obtain ⟨kk, wi⟩ := ok.1
  obtain ⟨T1, h1, X1, e1, W1, st⟩ := putF X K.1 K.2.1 K.2.2.1 (host := "") (Or.inl wl) Via.refl rfl (hR.2.2.1 _ ht) hR.2.1 (wy.imp id fun q => ⟨q.1, rfl, K.2.2.2.1.trans q.2⟩) wi (ty := .int) (v := .int x) (by decide +kernel) rfl rfl (g := mkF m pc r (.int x :: .ref en.1 :: S.map (rv ((MoC Z cd).rho en)))) rfl rfl (hb K.by hd)
  subst e1
  exact (h en p e s m args below meth c T1 _ r X1 K (by rw [W1.size]; exact hz) (Fr.snoc X1 hF hR.1) (relC.putI ok hR ht W1) hL).pre (fun _ q => (frmC.wr W1 (Nat.le_refl _) (Nat.le_add_right _ _)).trans q) fun t q => st t q
theorem Wk.putZ (ok : CO Z a0 cd) {i : Nat} {n : String} {x y : Int32} (hy : nar .boolean x = y) (ht : (i, n, "Z") ∈ cd.2.1) (wl : (Cond.fieldLink cd.1 idx cd.1 n "Z").before a0 Z = true) (wy : (Cond.lays cd.1 cd.1 n "Z").before a0 Z = true ∨ ((Cond.laysFinal cd.1 cd.1 n "Z").before a0 Z = true ∧ (nmOf md).name = "<init>")) (hd : InsA md pc (.putfield idx) 3 pc') (h : Wk l Z (MoC Z cd) md pc' L S (k, ups F i y, G, A, B) cu su Q) : Wk l Z (MoC Z cd) md pc L (.int x :: .ref 0 :: S) (k, F, G, A, B) cu su Q :=
  fun en p e s m args below meth c T locs r X K hz hF hR hL => by
  obtain ⟨hd, rfl⟩ := hd
  subst hy
  obtain ⟨kk, wi⟩ := ok.1
  obtain ⟨T1, h1, X1, e1, W1, st⟩ := putFN X K.1 K.2.1 K.2.2.1 wl Via.refl rfl (hR.2.2.1 _ ht) hR.2.1 (wy.imp id fun q => ⟨q.1, rfl, K.2.2.2.1.trans q.2⟩) wi (ty := .boolean) (v := .int x) (v' := .int (nar .boolean x)) (by decide +kernel) rfl (fits_nar_bool x) (g := mkF m pc r (.int x :: .ref en.1 :: S.map (rv ((MoC Z cd).rho en)))) rfl rfl (hb K.by hd)
  subst e1
  exact (h en p e s m args below meth c T1 _ r X1 K (by rw [W1.size]; exact hz) (Fr.snoc X1 hF hR.1) (relC.putI ok hR ht W1) hL).pre (fun _ q => (frmC.wr W1 (Nat.le_refl _) (Nat.le_add_right _ _)).trans q) fun t q => st t q
theorem Wk.putJ (ok : CO Z a0 cd) {i : Nat} {n : String} {x : Int64} (ht : (i, n) ∈ cd.2.2.1) (wl : (Cond.fieldLink cd.1 idx cd.1 n "J").before a0 Z = true) (wy : (Cond.lays cd.1 cd.1 n "J").before a0 Z = true ∨ ((Cond.laysFinal cd.1 cd.1 n "J").before a0 Z = true ∧ (nmOf md).name = "<init>")) (hd : InsA md pc (.putfield idx) 3 pc') (h : Wk l Z (MoC Z cd) md pc' L S (k, F, ups G i x, A, B) cu su Q) : Wk l Z (MoC Z cd) md pc L (.long x :: .ref 0 :: S) (k, F, G, A, B) cu su Q :=
  fun en p e s m args below meth c T locs r X K hz hF hR hL => by
  obtain ⟨hd, rfl⟩ := hd
  obtain ⟨kk, wi⟩ := ok.1
  obtain ⟨T1, h1, X1, e1, W1, st⟩ := putF X K.1 K.2.1 K.2.2.1 (host := "") (Or.inl wl) Via.refl rfl (hR.2.2.2.1 _ ht) hR.2.1 (wy.imp id fun q => ⟨q.1, rfl, K.2.2.2.1.trans q.2⟩) wi (ty := .long) (v := .long x) (by decide +kernel) rfl rfl (g := mkF m pc r (.long x :: .ref en.1 :: S.map (rv ((MoC Z cd).rho en)))) rfl rfl (hb K.by hd)
  subst e1
  exact (h en p e s m args below meth c T1 _ r X1 K (by rw [W1.size]; exact hz) (Fr.snoc X1 hF hR.1) (relC.putJ ok hR ht W1) hL).pre (fun _ q => (frmC.wr W1 (Nat.le_refl _) (Nat.le_add_right _ _)).trans q) fun t q => st t q
/-- an array is made and laid into its field at once -/
theorem Wk.newA (ok : CO Z a0 cd) {aty : ArrayType} {len : Int32} {n d : String} {ty : FieldType} {k' : Nat} (hty : newarray.typeOf aty = ty) (wa : (Cond.arrayClass (newarray.typeOf aty)).before a0 Z = true) (ht : (k, n, d, ty, len) ∈ cd.2.2.2) (wl : (Cond.fieldLink cd.1 idx cd.1 n d).before a0 Z = true)
    (wy : (Cond.lays cd.1 cd.1 n d).before a0 Z = true ∨ ((Cond.laysFinal cd.1 cd.1 n d).before a0 Z = true ∧ (nmOf md).name = "<init>")) (hd : InsA md pc (.newarray aty) 2 pc1) (hd2 : InsA md pc1 (.putfield idx) 3 pc') (hA : A k = fun _ => 0) (hB : B k = fun _ => 0) (hk : k + 1 = k') (hcu : cu + 1 = cu') (hsu : su + len.toNatClampNeg = su')
    (hcap : len.toNatClampNeg * 8 ≤ 536870912) (hc : cu' ≤ (rmOf md).cells) (hs : su' ≤ (rmOf md).slots) (h : Wk l Z (MoC Z cd) md pc' L S (k', F, G, A, B) cu' su' Q) : Wk l Z (MoC Z cd) md pc L (.int len :: .ref 0 :: S) (k, F, G, A, B) cu su Q :=
  fun en p e s m args below meth c T locs r X K hz hF hR hL => by
  obtain ⟨hd, rfl⟩ := hd
  obtain ⟨hd2, rfl⟩ := hd2
  subst hk hcu hsu hty
  obtain ⟨kk, wi⟩ := ok.1
  have p8 := ok.2.2.2.2.2.2.2.2.2.2.2 _ ht
  obtain ⟨T1, h1, cA, X1, e1, E1, N1, st1⟩ := newP X K.1 K.2.1 wa rfl (g := mkF m pc r (.int len :: .ref en.1 :: S.map (rv ((MoC Z cd).rho en)))) rfl (hb K.by hd) rfl p8.2.2.2 (cap := len.toNatClampNeg) (Nat.le_refl _) hcap hc hs
  subst e1
  obtain ⟨T2, h2, X2, e2, W2, st2⟩ := putF X1 K.1 K.2.1 K.2.2.1 (host := "") (Or.inl wl) Via.refl rfl (((hR.2.2.2.2.1 _ ht).2 (Nat.lt_irrefl k)).ext E1) (hR.2.1.ext E1) (wy.imp id fun q => ⟨q.1, rfl, K.2.2.2.1.trans q.2⟩) wi (v := .ref T.heap.size) p8.1 rfl rfl (g := mkF m (pc + 2) r (.ref T.heap.size :: .ref en.1 :: S.map (rv ((MoC Z cd).rho en)))) rfl rfl (hb K.by hd2)
  subst e2
  have z1 := X1.heapSize
  have z2 : (T.heap.size : Nat) < T1.heap.size := N1.lt
  have z3 := W2.size
  exact (h en p e s m args below meth c T2 _ r X2 K (by omega) (Fr.snoc X2 hF hR.1) (relC.newA ok hR ht hA hB E1 N1 W2 (by omega)) hL).pre (fun _ q => ((frmC.ext E1).trans (frmC.wr W2 (Nat.le_refl _) (Nat.le_add_right _ _))).trans q) fun t q => st1 t (st2 t q)
theorem relC.arr {en : Nat × Nat} {h : Heap} {i : Nat} {n d : String} {ty : FieldType} {len : Int32} (hR : relC Z cd en (k, F, G, A, B) h) (ht : (i, n, d, ty, len) ∈ cd.2.2.2) (hi : i < k) : AtA Z h (en.1 + (i + 1)) ty len (A i) (B i) := ((hR.2.2.2.2.1 _ ht).1 hi).2
theorem Wk.iaload {i i' : Nat} {n d : String} {len x : Int32} {y : Int32} (ht : (i, n, d, .int, len) ∈ cd.2.2.2) (hi : i < k) (hi' : i + 1 = i') (h0 : ¬ x < 0) (h1 : x < len) (hd : InsA md pc .iaload 1 pc') (hy : A i x = y) (h : Wk l Z (MoC Z cd) md pc' L (.int y :: S) (k, F, G, A, B) cu su Q) : Wk l Z (MoC Z cd) md pc L (.int x :: .ref i' :: S) (k, F, G, A, B) cu su Q :=
  fun en p e s m args below meth c T locs r X K hz hF hR hL => by
  obtain ⟨hd, rfl⟩ := hd
  subst hi' hy
  obtain ⟨cl, g1, g2, g3⟩ := relC.arr hR ht hi
  exact (h en p e s m args below meth c T locs r X K hz hF hR hL).pre (fun _ q => q) fun t q => X.iaload K.1 (j := x) (v := .int (A i x)) g1.1 (State.isArrayOf_alike K.2.1.alike g1.2.1) g1.2.2 (in_of g2 h0 h1) (g3 x h0 h1) (g := mkF m pc r (.int x :: .ref (en.1 + (i + 1)) :: S.map (rv ((MoC Z cd).rho en)))) rfl rfl (hb K.by hd) _ q
theorem Wk.baload {i i' : Nat} {n d : String} {len x : Int32} {y : Int32} (ht : (i, n, d, .boolean, len) ∈ cd.2.2.2) (hi : i < k) (hi' : i + 1 = i') (h0 : ¬ x < 0) (h1 : x < len) (hd : InsA md pc .baload 1 pc') (hy : A i x = y) (h : Wk l Z (MoC Z cd) md pc' L (.int y :: S) (k, F, G, A, B) cu su Q) : Wk l Z (MoC Z cd) md pc L (.int x :: .ref i' :: S) (k, F, G, A, B) cu su Q :=
  fun en p e s m args below meth c T locs r X K hz hF hR hL => by
  obtain ⟨hd, rfl⟩ := hd
  subst hi' hy
  obtain ⟨cl, g1, g2, g3⟩ := relC.arr hR ht hi
  exact (h en p e s m args below meth c T locs r X K hz hF hR hL).pre (fun _ q => q) fun t q => X.baloadBooleans K.1 (j := x) (v := .int (A i x)) g1.1 (State.isArrayOf_alike K.2.1.alike g1.2.1) g1.2.2 (in_of g2 h0 h1) (g3 x h0 h1) (g := mkF m pc r (.int x :: .ref (en.1 + (i + 1)) :: S.map (rv ((MoC Z cd).rho en)))) rfl rfl (hb K.by hd) _ q
theorem Wk.laload {i i' : Nat} {n d : String} {len x : Int32} {y : Int64} (ht : (i, n, d, .long, len) ∈ cd.2.2.2) (hi : i < k) (hi' : i + 1 = i') (h0 : ¬ x < 0) (h1 : x < len) (hd : InsA md pc .laload 1 pc') (hy : B i x = y) (h : Wk l Z (MoC Z cd) md pc' L (.long y :: S) (k, F, G, A, B) cu su Q) : Wk l Z (MoC Z cd) md pc L (.int x :: .ref i' :: S) (k, F, G, A, B) cu su Q :=
  fun en p e s m args below meth c T locs r X K hz hF hR hL => by
  obtain ⟨hd, rfl⟩ := hd
  subst hi' hy
  obtain ⟨cl, g1, g2, g3⟩ := relC.arr hR ht hi
  exact (h en p e s m args below meth c T locs r X K hz hF hR hL).pre (fun _ q => q) fun t q => X.laload K.1 (j := x) (v := .long (B i x)) g1.1 (State.isArrayOf_alike K.2.1.alike g1.2.1) g1.2.2 (in_of g2 h0 h1) (g3 x h0 h1) (g := mkF m pc r (.int x :: .ref (en.1 + (i + 1)) :: S.map (rv ((MoC Z cd).rho en)))) rfl rfl (hb K.by hd) _ q
theorem Wk.iastore (ok : CO Z a0 cd) {f : Int32 → Int32} {i i' : Nat} {n d : String} {len x v : Int32} (ht : (i, n, d, .int, len) ∈ cd.2.2.2) (hf : A i = f) (hi : i < k) (hi' : i + 1 = i') (h0 : ¬ x < 0) (h1 : x < len) (hd : InsA md pc .iastore 1 pc') (h : Wk l Z (MoC Z cd) md pc' L S (k, F, G, ups A i (ups f x v), B) cu su Q) : Wk l Z (MoC Z cd) md pc L (.int v :: .int x :: .ref i' :: S) (k, F, G, A, B) cu su Q :=
  fun en p e s m args below meth c T locs r X K hz hF hR hL => by
  obtain ⟨hd, rfl⟩ := hd
  subst hi' hf
  obtain ⟨cl, g1, g2, g3⟩ := relC.arr hR ht hi
  obtain ⟨T1, e1', X1, e1, W1, st⟩ := stI X K.1 K.2.1 rfl g1 (in_of g2 h0 h1) (g := mkF m pc r (.int v :: .int x :: .ref (en.1 + (i + 1)) :: S.map (rv ((MoC Z cd).rho en)))) rfl rfl (hb K.by hd)
  subst e1
  have p8 := (ok.2.2.2.2.2.2.2.2.2.2.2 _ ht).2.1
  exact (h en p e s m args below meth c T1 _ r X1 K (by rw [W1.size]; exact hz) (Fr.snoc X1 hF (Nat.le_trans hR.1 (Nat.le_add_right _ _))) (relC.stI ok (by decide) h0 h1 hR ht W1) hL).pre (fun _ q => (frmC.wr W1 (Nat.le_add_right _ _) (Nat.add_le_add_left (show i + 1 ≤ cd.2.2.2.length from p8) _)).trans q) fun t q => st t q
theorem Wk.bastore (ok : CO Z a0 cd) {f : Int32 → Int32} {i i' : Nat} {n d : String} {len x v v' : Int32} (hv : nar .boolean v = v') (ht : (i, n, d, .boolean, len) ∈ cd.2.2.2) (hf : A i = f) (hi : i < k) (hi' : i + 1 = i') (h0 : ¬ x < 0) (h1 : x < len) (hd : InsA md pc .bastore 1 pc') (h : Wk l Z (MoC Z cd) md pc' L S (k, F, G, ups A i (ups f x v'), B) cu su Q) : Wk l Z (MoC Z cd) md pc L (.int v :: .int x :: .ref i' :: S) (k, F, G, A, B) cu su Q :=
  fun en p e s m args below meth c T locs r X K hz hF hR hL => by
  obtain ⟨hd, rfl⟩ := hd
  subst hi' hv hf
  obtain ⟨cl, g1, g2, g3⟩ := relC.arr hR ht hi
  obtain ⟨T1, e1', X1, e1, W1, st⟩ := stZ X K.1 K.2.1 rfl g1 (in_of g2 h0 h1) (g := mkF m pc r (.int v :: .int x :: .ref (en.1 + (i + 1)) :: S.map (rv ((MoC Z cd).rho en)))) rfl rfl (hb K.by hd)
  subst e1
  have p8 := (ok.2.2.2.2.2.2.2.2.2.2.2 _ ht).2.1
  exact (h en p e s m args below meth c T1 _ r X1 K (by rw [W1.size]; exact hz) (Fr.snoc X1 hF (Nat.le_trans hR.1 (Nat.le_add_right _ _))) (relC.stI ok (by decide) h0 h1 hR ht W1) hL).pre (fun _ q => (frmC.wr W1 (Nat.le_add_right _ _) (Nat.add_le_add_left (show i + 1 ≤ cd.2.2.2.length from p8) _)).trans q) fun t q => st t q
theorem Wk.lastore (ok : CO Z a0 cd) {f : Int32 → Int64} {i i' : Nat} {n d : String} {len x : Int32} {v : Int64} (ht : (i, n, d, .long, len) ∈ cd.2.2.2) (hf : B i = f) (hi : i < k) (hi' : i + 1 = i') (h0 : ¬ x < 0) (h1 : x < len) (hd : InsA md pc .lastore 1 pc') (h : Wk l Z (MoC Z cd) md pc' L S (k, F, G, A, ups B i (ups f x v)) cu su Q) : Wk l Z (MoC Z cd) md pc L (.long v :: .int x :: .ref i' :: S) (k, F, G, A, B) cu su Q :=
  fun en p e s m args below meth c T locs r X K hz hF hR hL => by
  obtain ⟨hd, rfl⟩ := hd
  subst hi' hf
  obtain ⟨cl, g1, g2, g3⟩ := relC.arr hR ht hi
  obtain ⟨T1, e1', X1, e1, W1, st⟩ := stJ X K.1 K.2.1 rfl g1 (in_of g2 h0 h1) (g := mkF m pc r (.long v :: .int x :: .ref (en.1 + (i + 1)) :: S.map (rv ((MoC Z cd).rho en)))) rfl rfl (hb K.by hd)
  subst e1
  have p8 := (ok.2.2.2.2.2.2.2.2.2.2.2 _ ht).2.1
  exact (h en p e s m args below meth c T1 _ r X1 K (by rw [W1.size]; exact hz) (Fr.snoc X1 hF (Nat.le_trans hR.1 (Nat.le_add_right _ _))) (relC.stJ ok h0 h1 hR ht W1) hL).pre (fun _ q => (frmC.wr W1 (Nat.le_add_right _ _) (Nat.add_le_add_left (show i + 1 ≤ cd.2.2.2.length from p8) _)).trans q) fun t q => st t q
/-- Object.<init> -/
theorem Wk.initO {μ E : Type} {M : Mode μ E} {w : μ} {Q : Option Value → μ → Prop} {v : Nat} (w1 : (Cond.methodLink M.own idx Lib.objectInit).before a0 Z = true) (w2 : (Cond.instanceMethod Lib.objectInit).before a0 Z = true) (w3 : (Cond.code Lib.objectInit ⟨#[0xb1]⟩ 1 none).before a0 Z = true) (hd : InsA md pc (.invokespecial idx) 3 pc') (hl : L.length = mxOf md) (hf : 1 ≤ (rmOf md).frames) (hW : (S.map fun v => v.category).sum + 12 ≤ (rmOf md).locals)
    (h : Wk l Z M md pc' L S w cu su Q) : Wk l Z M md pc L (.ref v :: S) w cu su Q :=
  fun en p e s m args below meth c T locs r X K hz hF hR hL => by
  obtain ⟨hd, rfl⟩ := hd
  have cs : ∀ S : List Value, ((S.map (rv (M.rho en))).map fun v => v.category).sum = (S.map fun v => v.category).sum := fun S => by rw [List.map_map]; congr 1; exact List.map_congr_left fun v _ => rv_cat _ v
  obtain ⟨T1, X1, e1, st⟩ := Jvm.RoadKit.initO X K.1 K.2.1 K.2.2.1 w1 w2 w3 rfl (g := mkF m pc r (.ref (M.rho en v) :: S.map (rv (M.rho en)))) rfl (by show r.size = _; rw [hL.1, hl]; exact K.2.2.2.2.2.2.2.symm) rfl (hb K.by hd) hf (W := (S.map fun v => v.category).sum) (by show 2 * 0 + _ ≤ _; rw [cs]; omega) hW
  exact (h en p e s m args below meth c T1 locs r X1 K (by rw [e1]; exact hz) hF (by rw [e1]; exact hR) hL).pre (fun _ q => by rw [e1] at q; exact q) fun t q => st t q
end StepsC
end Jvm.Own

namespace Jvm.Own
open Jvm Jvm.ClassFile Sem Op Lib Jvm.Free Jvm.Stand Jvm.LawKit Jvm.RoadKit
/-! ## 4. Calls -/
def noRef : List Value → Bool
  | [] => true
  | .ref _ :: _ => false
  | _ :: t => noRef t
theorem noRef.map : (as : List Value) → noRef as = true → ∀ ρ, as.map (rv ρ) = as
  | [], _, _ => rfl
  | .ref _ :: _, h, _ => by cases h
  | .int _ :: t, h, ρ => by rw [List.map_cons, noRef.map t h ρ]; rfl
  | .long _ :: t, h, ρ => by rw [List.map_cons, noRef.map t h ρ]; rfl
  | .float _ :: t, h, ρ => by rw [List.map_cons, noRef.map t h ρ]; rfl
  | .double _ :: t, h, ρ => by rw [List.map_cons, noRef.map t h ρ]; rfl
  | .null :: t, h, ρ => by rw [List.map_cons, noRef.map t h ρ]; rfl
  | .retAddr _ :: t, h, ρ => by rw [List.map_cons, noRef.map t h ρ]; rfl
/-- what the words say of a callee: an instance method -/
def CalV (Z : State) (a0 : Array Value) (md : MD) (n : Nat) : Prop :=
  plainName (nmOf md).cls = true ∧ ((nmOf md).cls ≠ "java/lang/invoke/MethodHandle" ∧ (nmOf md).cls ≠ "java/lang/invoke/VarHandle") ∧ (∀ sig, parseMethodDescriptor (nmOf md).desc = some sig → n = sig.parameters.length) ∧
  (Cond.instanceMethod (nmOf md)).before a0 Z = true ∧ (Cond.code (nmOf md) (byOf md) (mxOf md) (rtOf md)).before a0 Z = true ∧ (Cond.initialized (nmOf md).cls).before a0 Z = true ∧
  (((Cond.declares (nmOf md)).before a0 Z = true ∧ (Cond.selects (nmOf md).cls (nmOf md) (nmOf md)).before a0 Z = true) ∨ ((Cond.privateMethod (nmOf md)).before a0 Z = true ∧ ∃ kk, (Cond.instantiable (nmOf md).cls kk).before a0 Z = true))
/-- a constructor -/
def CalI (Z : State) (a0 : Array Value) (md : MD) (n : Nat) : Prop :=
  plainName (nmOf md).cls = true ∧ ((nmOf md).cls ≠ "java/lang/invoke/MethodHandle" ∧ (nmOf md).cls ≠ "java/lang/invoke/VarHandle") ∧ (∀ sig, parseMethodDescriptor (nmOf md).desc = some sig → n = sig.parameters.length) ∧
  (Cond.instanceMethod (nmOf md)).before a0 Z = true ∧ (Cond.code (nmOf md) (byOf md) (mxOf md) (rtOf md)).before a0 Z = true ∧ (Cond.initialized (nmOf md).cls).before a0 Z = true ∧ (nmOf md).name = "<init>" ∧ rtOf md = none
/-- a static method -/
def CalS (Z : State) (a0 : Array Value) (md : MD) (n : Nat) : Prop :=
  plainName (nmOf md).cls = true ∧ ((nmOf md).cls ≠ "java/lang/invoke/MethodHandle" ∧ (nmOf md).cls ≠ "java/lang/invoke/VarHandle") ∧ (∀ sig, parseMethodDescriptor (nmOf md).desc = some sig → n = sig.parameters.length) ∧
  (Cond.static (nmOf md)).before a0 Z = true ∧ (Cond.code (nmOf md) (byOf md) (mxOf md) (rtOf md)).before a0 Z = true ∧ (Cond.initialized (nmOf md).cls).before a0 Z = true
/-- the figures of a call: the operands under it weigh wt -/
def Fits (md md' : MD) (wt cu su cu' su' : Nat) : Prop :=
  (rmOf md').frames + 1 ≤ (rmOf md).frames ∧ wt + (mxOf md' + 11) + (rmOf md').locals ≤ (rmOf md).locals ∧ cu + (rmOf md').cells = cu' ∧ su + (rmOf md').slots = su' ∧ cu' ≤ (rmOf md).cells ∧ su' ≤ (rmOf md).slots ∧ exOf md' = (rmOf md').cells
instance (md md' : MD) (wt cu su cu' su' : Nat) : Decidable (Fits md md' wt cu su cu' su') := by unfold Fits; infer_instance
section Core
variable {μ E : Type} {l : Launch} {Z : State} {a0 : Array Value} {M' : Mode μ E} {md md' : MD} {own : String} {p : Program} {e : Env} {s : State} {m : MethodId} {args : Array Value} {below : List Frame} {meth : Method} {c : Code} {T : State} {locs : List Loc} {cu su cu' su' wt pc idx : Nat} {as : List Value} {L' : List Slot} {w : μ} {Q' : Option Value → μ → Prop} {en : E} {a : Addr} {r : Array Slot} {rest : List Value}
theorem coreV (X : Stand p l e (rmOf md) s m args below meth c T locs cu su) (K : Kn Z own md p s m meth c) (hd : decode (byOf md) pc = .ok (.invokevirtual idx, 3)) (wl : (Cond.methodLink own idx (nmOf md')).before a0 Z = true) (cv : CalV Z a0 md' as.length) (hcal : Wk l Z M' md' 0 L' [] w 0 0 Q') (ho : M'.own = (nmOf md').cls) (hR : M'.rel en w T.heap) (hE : Exa Z T.heap a (nmOf md').cls) (ha : M'.rho en 0 = a)
    (hL : (argsToLocals (.ref 0 :: as).toArray (mxOf md')).toList = L') (hw : wfL L' = true) (ft : Fits md md' wt cu su cu' su') (hr : r.size = mxOf md) (hrest : (rest.map fun v => v.category).sum ≤ wt) :
    ∃ v T1 Lc w1, Stand p l e (rmOf md) s m args below meth c T1 (locs ++ Lc) cu' su' ∧ Q' v w1 ∧ M'.rel en w1 T1.heap ∧ M'.frm en T.heap T1.heap ∧ Fr (M'.lo en) Lc ∧ T1.heap.size = T.heap.size + exOf md' ∧ (∀ ρ x, v = some x → rv ρ x = x) ∧
      ∀ t, Steps p.tables e below (T1.setTop (mkF m (pc + 3) r (v.toList ++ rest))) t → Steps p.tables e below (T.setTop (mkF m pc r ((as.map (rv (M'.rho en))).reverse ++ .ref a :: rest))) t := by
  obtain ⟨v1, v2, v3, v4, v5, v6, v7⟩ := cv
  obtain ⟨f1, f2, f3, f4, f5, f6, f7⟩ := ft
  subst f3 f4 ha
  obtain ⟨hx, hZ, hown, -, -, -, hby, hml⟩ := K
  have bk := backOf (s := s) (args := args) (p := p) (e := e) (below := below) (len := 3) (W := wt) (R := rmOf md) (Q := fun v hh Lc => ∃ w', Q' v w' ∧ M'.rel en w' hh ∧ M'.frm en T.heap hh ∧ Fr (M'.lo en) Lc ∧ hh.size = T.heap.size + exOf md' ∧ ∀ ρ x, v = some x → rv ρ x = x) (hcal.met v1 ho hR (.ref 0 :: as) hL hw []) hZ v5 v6 f1 f2
  have hlen : ∀ sig, parseMethodDescriptor (nmOf md').desc = some sig → (as.map (rv (M'.rho en))).length = sig.parameters.length := fun sig q => by rw [List.length_map]; exact v3 sig q
  rcases v7 with ⟨d1, d2⟩ | ⟨d1, kk, d2⟩
  · obtain ⟨cq, kq, qa, qb, qc⟩ := isOf (T := T) hZ rfl hE
    obtain ⟨v, _, ⟨T1, L1, k1, n1⟩, -, X1, ⟨Lc, hQ, l1, y1, z1⟩, st⟩ := X.virtualBack hx (y := nmOf md') (z := nmOf md') hown (mvT hZ wl) (mvT hZ d1) (notFace_of_selects (args := #[]) (mvT hZ d2)) (mvT hZ d2) (mvT hZ v4) v2 bk qa qc (g := mkF m pc r ((as.map (rv (M'.rho en))).reverse ++ .ref (M'.rho en 0) :: rest)) rfl (hr.trans hml.symm) (Steps.refl _) (argsL := as.map (rv (M'.rho en))) (rest := rest) hlen rfl (by show 2 * 0 + _ ≤ _; omega) (hb hby hd) (fun _ _ => ⟨rfl, rfl, f5, f6⟩)
    dsimp only [Pt.U, Pt.locs, Pt.cells, Pt.slots] at X1 l1 y1 z1 st hQ
    subst l1 y1 z1
    obtain ⟨w1, q1, q2, q3, q4, q5, q6⟩ := hQ
    exact ⟨v, T1, Lc, w1, X1, q1, q2, q3, q4, q5, q6, fun t q => st.trans q⟩
  · obtain ⟨cc, kc, i1, i2, i3, i4, -⟩ := Cond.instantiable_spec (mvT (s := s) (args := #[]) hZ d2)
    have hni : kc.isInterface = false := by cases hq : kc.isInterface <;> simp [hq] at i4 ⊢
    have pv : s.PrivateAt (nmOf md') := Cond.privateMethod_at (mvP hZ d1 (args := #[]))
    have sel : (Cond.selects (nmOf md').cls (nmOf md') (nmOf md')).before args s = true := selects_self_of_private i1 i2 hni pv (mvT hZ v4) v2
    obtain ⟨cq, q7, q7'⟩ := hE.cell
    obtain ⟨v, _, ⟨T1, L1, k1, n1⟩, -, X1, ⟨Lc, hQ, l1, y1, z1⟩, st⟩ := X.privateBack hx (y := nmOf md') hown (mvT hZ wl) (mvT hZ v4) sel pv (mvT hZ v5) v2 bk (g := mkF m pc r ((as.map (rv (M'.rho en))).reverse ++ .ref (M'.rho en 0) :: rest)) rfl (hr.trans hml.symm) (Steps.refl _) (a := M'.rho en 0) q7 q7' (argsL := as.map (rv (M'.rho en))) (rest := rest) hlen rfl (by show 2 * 0 + _ ≤ _; omega) (hb hby hd) (fun _ _ => ⟨rfl, rfl, f5, f6⟩)
    dsimp only [Pt.U, Pt.locs, Pt.cells, Pt.slots] at X1 l1 y1 z1 st hQ
    subst l1 y1 z1
    obtain ⟨w1, q1, q2, q3, q4, q5, q6⟩ := hQ
    exact ⟨v, T1, Lc, w1, X1, q1, q2, q3, q4, q5, q6, fun t q => st.trans q⟩
theorem coreI (X : Stand p l e (rmOf md) s m args below meth c T locs cu su) (K : Kn Z own md p s m meth c) (hd : decode (byOf md) pc = .ok (.invokespecial idx, 3)) (wl : (Cond.methodLink own idx (nmOf md')).before a0 Z = true) (cv : CalI Z a0 md' as.length) (hcal : Wk l Z M' md' 0 L' [] w 0 0 Q') (ho : M'.own = (nmOf md').cls) (hR : M'.rel en w T.heap) (ha : M'.rho en 0 = a)
    (hL : (argsToLocals (.ref 0 :: as).toArray (mxOf md')).toList = L') (hw : wfL L' = true) (ft : Fits md md' wt cu su cu' su') (hr : r.size = mxOf md) (hrest : (rest.map fun v => v.category).sum ≤ wt) :
    ∃ v T1 Lc w1, Stand p l e (rmOf md) s m args below meth c T1 (locs ++ Lc) cu' su' ∧ Q' v w1 ∧ M'.rel en w1 T1.heap ∧ M'.frm en T.heap T1.heap ∧ Fr (M'.lo en) Lc ∧ T1.heap.size = T.heap.size + exOf md' ∧ (∀ ρ x, v = some x → rv ρ x = x) ∧
      ∀ t, Steps p.tables e below (T1.setTop (mkF m (pc + 3) r (v.toList ++ rest))) t → Steps p.tables e below (T.setTop (mkF m pc r ((as.map (rv (M'.rho en))).reverse ++ .ref a :: rest))) t := by
  obtain ⟨v1, v2, v3, v4, v5, v6, v7, v8⟩ := cv
  obtain ⟨f1, f2, f3, f4, f5, f6, f7⟩ := ft
  subst f3 f4 ha
  obtain ⟨hx, hZ, hown, -, -, -, hby, hml⟩ := K
  have bk := backOf (s := s) (args := args) (p := p) (e := e) (below := below) (len := 3) (W := wt) (R := rmOf md) (Q := fun v hh Lc => ∃ w', Q' v w' ∧ M'.rel en w' hh ∧ M'.frm en T.heap hh ∧ Fr (M'.lo en) Lc ∧ hh.size = T.heap.size + exOf md' ∧ ∀ ρ x, v = some x → rv ρ x = x) (hcal.met v1 ho hR (.ref 0 :: as) hL hw []) hZ v5 v6 f1 f2
  have hlen : ∀ sig, parseMethodDescriptor (nmOf md').desc = some sig → (as.map (rv (M'.rho en))).length = sig.parameters.length := fun sig q => by rw [List.length_map]; exact v3 sig q
  rw [v8] at v5
  obtain ⟨v, _, ⟨T1, L1, k1, n1⟩, -, X1, ⟨Lc, hQ, l1, y1, z1⟩, st⟩ := X.specialBack hx (y := nmOf md') v7 hown (mvT hZ wl) (mvT hZ v4) (mvT hZ v5) v2 bk (g := mkF m pc r ((as.map (rv (M'.rho en))).reverse ++ .ref (M'.rho en 0) :: rest)) rfl (hr.trans hml.symm) (Steps.refl _) (a := M'.rho en 0) (argsL := as.map (rv (M'.rho en))) (rest := rest) hlen rfl (by show 2 * 0 + _ ≤ _; omega) (hb hby hd) (fun _ _ => ⟨rfl, rfl, f5, f6⟩)
  dsimp only [Pt.U, Pt.locs, Pt.cells, Pt.slots] at X1 l1 y1 z1 st hQ
  subst l1 y1 z1
  obtain ⟨w1, q1, q2, q3, q4, q5, q6⟩ := hQ
  exact ⟨v, T1, Lc, w1, X1, q1, q2, q3, q4, q5, q6, fun t q => st.trans q⟩
theorem coreS (X : Stand p l e (rmOf md) s m args below meth c T locs cu su) (K : Kn Z own md p s m meth c) (hd : decode (byOf md) pc = .ok (.invokestatic idx, 3)) (wl : (Cond.methodLink own idx (nmOf md')).before a0 Z = true) (cv : CalS Z a0 md' as.length) (hcal : Wk l Z M' md' 0 L' [] w 0 0 Q') (ho : M'.own = (nmOf md').cls) (hR : M'.rel en w T.heap)
    (hL : (argsToLocals as.toArray (mxOf md')).toList = L') (hw : wfL L' = true) (ft : Fits md md' wt cu su cu' su') (hr : r.size = mxOf md) (hrest : (rest.map fun v => v.category).sum ≤ wt) :
    ∃ v T1 Lc w1, Stand p l e (rmOf md) s m args below meth c T1 (locs ++ Lc) cu' su' ∧ Q' v w1 ∧ M'.rel en w1 T1.heap ∧ M'.frm en T.heap T1.heap ∧ Fr (M'.lo en) Lc ∧ T1.heap.size = T.heap.size + exOf md' ∧ (∀ ρ x, v = some x → rv ρ x = x) ∧
      ∀ t, Steps p.tables e below (T1.setTop (mkF m (pc + 3) r (v.toList ++ rest))) t → Steps p.tables e below (T.setTop (mkF m pc r ((as.map (rv (M'.rho en))).reverse ++ rest))) t := by
  obtain ⟨v1, v2, v3, v4, v5, v6⟩ := cv
  obtain ⟨f1, f2, f3, f4, f5, f6, f7⟩ := ft
  subst f3 f4
  obtain ⟨hx, hZ, hown, -, -, -, hby, hml⟩ := K
  have bk := backOf (s := s) (args := args) (p := p) (e := e) (below := below) (len := 3) (W := wt) (R := rmOf md) (Q := fun v hh Lc => ∃ w', Q' v w' ∧ M'.rel en w' hh ∧ M'.frm en T.heap hh ∧ Fr (M'.lo en) Lc ∧ hh.size = T.heap.size + exOf md' ∧ ∀ ρ x, v = some x → rv ρ x = x) (hcal.met v1 ho hR as hL hw []) hZ v5 v6 f1 f2
  have hlen : ∀ sig, parseMethodDescriptor (nmOf md').desc = some sig → (as.map (rv (M'.rho en))).length = sig.parameters.length := fun sig q => by rw [List.length_map]; exact v3 sig q
  obtain ⟨v, _, ⟨T1, L1, k1, n1⟩, -, X1, ⟨Lc, hQ, l1, y1, z1⟩, st⟩ := Jvm.LawKit.callS X hx (y := nmOf md') hown (mvT hZ wl) (mvT hZ v4) (mvT hZ v6) (mvT hZ v5) v2 bk (g := mkF m pc r ((as.map (rv (M'.rho en))).reverse ++ rest)) rfl (hr.trans hml.symm) (argsL := as.map (rv (M'.rho en))) (rest := rest) hlen rfl (by show 2 * 0 + _ ≤ _; omega) (hb hby hd) (fun _ _ => ⟨rfl, rfl, f5, f6⟩)
  dsimp only [Pt.U, Pt.locs, Pt.cells, Pt.slots] at X1 l1 y1 z1 st hQ
  subst l1 y1 z1
  obtain ⟨w1, q1, q2, q3, q4, q5, q6⟩ := hQ
  exact ⟨v, T1, Lc, w1, X1, q1, q2, q3, q4, q5, q6, fun t q => st t q⟩
end Core
theorem cat_map (ρ : Nat → Addr) (S : List Value) : ((S.map (rv ρ)).map fun v => v.category).sum = (S.map fun v => v.category).sum := by
  rw [List.map_map]; congr 1; exact List.map_congr_left fun v _ => rv_cat _ v
theorem res_map {ρ : Nat → Addr} {v : Option Value} (h : ∀ ρ x, v = some x → rv ρ x = x) (S : List Value) : (v.toList ++ S).map (rv ρ) = v.toList ++ S.map (rv ρ) := by
  cases v with
  | none => rfl
  | some x => simp [h ρ x rfl]
section CallsC
variable {l : Launch} {Z : State} {a0 : Array Value} {cd : CD} {md md' : MD} {pc pc' wt idx : Nat} {L L' : List Slot} {S stk as : List Value} {w : WO} {cu su cu' su' : Nat} {Q Q' : Option Value → WO → Prop}
/-- a method of the same object -/
theorem Wk.callC (as : List Value) (S : List Value) (hs : stk = as.reverse ++ .ref 0 :: S) (wl : (Cond.methodLink cd.1 idx (nmOf md')).before a0 Z = true) (cv : CalV Z a0 md' as.length) (hc : (nmOf md').cls = cd.1) (nr : noRef as = true) (hcal : Wk l Z (MoC Z cd) md' 0 L' [] w 0 0 Q') (hL' : (argsToLocals (.ref 0 :: as).toArray (mxOf md')).toList = L') (hw : wfL L' = true) (hl : L.length = mxOf md)
    (hwt : (S.map fun v => v.category).sum = wt) (ft : Fits md md' wt cu su cu' su') (hd : InsA md pc (.invokevirtual idx) 3 pc') (h : ∀ v w', Q' v w' → Wk l Z (MoC Z cd) md pc' L (v.toList ++ S) w' cu' su' Q) : Wk l Z (MoC Z cd) md pc L stk w cu su Q :=
  fun en p e s m args below meth c T locs r X K hz hF hR hL => by
  obtain ⟨hd, rfl⟩ := hd
  subst hs
  obtain ⟨v, T1, Lc, w1, X1, q1, q2, q3, q4, q5, q6, st⟩ := coreV (M' := MoC Z cd) (en := en) (r := r) (rest := S.map (rv ((MoC Z cd).rho en))) X K hd wl cv hcal hc.symm hR (by rw [hc]; exact hR.2.1) rfl hL' hw ft (hL.1.trans hl) (by rw [cat_map]; omega)
  have f7 := ft.2.2.1
  have f8 := ft.2.2.2.2.2.2
  have em : (as.reverse ++ .ref 0 :: S).map (rv ((MoC Z cd).rho en)) = (as.map (rv ((MoC Z cd).rho en))).reverse ++ .ref ((MoC Z cd).rho en 0) :: S.map (rv ((MoC Z cd).rho en)) := by rw [List.map_append, List.map_reverse]; rfl
  have D := h v w1 q1 en p e s m args below meth c T1 _ r X1 K (by omega) (hF.app q4) q2 hL
  rw [res_map q6] at D
  rw [em]
  exact D.pre (fun _ q => frmC.trans q3 q) st
end CallsC
section CallsS
variable {μ E : Type} {l : Launch} {Z : State} {a0 : Array Value} {M : Mode μ E} {md md' : MD} {pc pc' wt idx : Nat} {L L' : List Slot} {S stk as : List Value} {w : μ} {cu su cu' su' : Nat} {Q Q' : Option Value → μ → Prop}
/-- a static method, in the same mode -/
theorem Wk.callS (hM : ∀ en h1 h2 h3, M.frm en h1 h2 → M.frm en h2 h3 → M.frm en h1 h3) (as : List Value) (S : List Value) (hs : stk = as.reverse ++ S) (wl : (Cond.methodLink M.own idx (nmOf md')).before a0 Z = true) (cv : CalS Z a0 md' as.length) (hc : (nmOf md').cls = M.own) (hcal : Wk l Z M md' 0 L' [] w 0 0 Q') (hL' : (argsToLocals as.toArray (mxOf md')).toList = L') (hw : wfL L' = true) (hl : L.length = mxOf md)
    (hwt : (S.map fun v => v.category).sum = wt) (ft : Fits md md' wt cu su cu' su') (hd : InsA md pc (.invokestatic idx) 3 pc') (h : ∀ v w', Q' v w' → Wk l Z M md pc' L (v.toList ++ S) w' cu' su' Q) : Wk l Z M md pc L stk w cu su Q :=
  fun en p e s m args below meth c T locs r X K hz hF hR hL => by
  obtain ⟨hd, rfl⟩ := hd
  subst hs
  obtain ⟨v, T1, Lc, w1, X1, q1, q2, q3, q4, q5, q6, st⟩ := coreS (M' := M) (en := en) (r := r) (rest := S.map (rv (M.rho en))) X K hd wl cv hcal hc.symm hR hL' hw ft (hL.1.trans hl) (by rw [cat_map]; omega)
  have f7 := ft.2.2.1
  have f8 := ft.2.2.2.2.2.2
  have em : (as.reverse ++ S).map (rv (M.rho en)) = (as.map (rv (M.rho en))).reverse ++ S.map (rv (M.rho en)) := by rw [List.map_append, List.map_reverse]
  have D := h v w1 q1 en p e s m args below meth c T1 _ r X1 K (by omega) (hF.app q4) q2 hL
  rw [res_map q6] at D
  rw [em]
  exact D.pre (fun _ q => hM _ _ _ _ q3 q) st
end CallsS
/-! ## 5. The law's own level: a script of ints (or none) and some objects, made one behind the other -/
abbrev WL : Type := Int32 × (Int32 → Int32) × List WO
def w0 : WO := (0, fun _ => 0, fun _ => 0, fun _ _ => 0, fun _ _ => 0)
def rhoL (cd : CD) (en : Nat × Nat) : Nat → Addr
  | 0 => en.2
  | i + 1 => en.1 + i * (cd.2.2.2.length + 1)
def relL (Z : State) (cd : CD) (sc : Bool) (en : Nat × Nat) (w : WL) (h : Heap) : Prop :=
  (sc = true → en.2 < en.1 ∧ ¬ w.1 < 0 ∧ AtA Z h en.2 .int w.1 w.2.1 (fun _ => 0)) ∧ (∀ i x, w.2.2[i]? = some x → relC Z cd (en.1 + i * (cd.2.2.2.length + 1), en.1) x h) ∧ h.size = en.1 + (w.2.2.map fun x => x.1 + 1).sum
abbrev MoL (Z : State) (cd : CD) (own : String) (sc : Bool) : Mode WL (Nat × Nat) := (own, rhoL cd, fun en => en.1, relL Z cd sc, fun _ _ _ => True)
def allK (n : Nat) : List WO → Prop
  | [] => True
  | x :: t => x.1 = n ∧ allK n t
theorem allK.get {n : Nat} : (ws : List WO) → allK n ws → ∀ (i : Nat) (x : WO), ws[i]? = some x → x.1 = n
  | [], _, i, x, h => by simp at h
  | y :: t, h, i, x, e => by
    cases i with
    | zero => simp at e; rw [← e]; exact h.1
    | succ i => exact allK.get t h.2 i x (by simpa using e)
theorem allK.sum {n : Nat} : {ws : List WO} → allK n ws → (ws.map fun x => x.1 + 1).sum = ws.length * (n + 1)
  | [], _ => by simp
  | y :: t, h => by rw [List.map_cons, List.sum_cons, allK.sum (ws := t) h.2, h.1, List.length_cons, Nat.add_mul]; omega
theorem sum_set : (ws : List WO) → (i : Nat) → (x y : WO) → ws[i]? = some x → ((ws.set i y).map fun x => x.1 + 1).sum + x.1 = (ws.map fun x => x.1 + 1).sum + y.1
  | [], i, x, y, h => by simp at h
  | z :: t, 0, x, y, h => by simp at h; subst h; simp; omega
  | z :: t, i + 1, x, y, h => by have := sum_set t i x y (by simpa using h); simp only [List.set_cons_succ, List.map_cons, List.sum_cons]; omega
section Keep
variable {Z : State} {cd : CD} {en : Nat × Nat} {h h' : Heap} {w : WO}
theorem Fld.cells {a : Addr} {C n d : String} {v : Value} (H : Fld Z h a C n d v) (q : ∀ c, h[a]? = some c → h'[a]? = some c) : Fld Z h' a C n d v := by
  obtain ⟨cell, cf, k, i, f, h1, r⟩ := H; exact ⟨cell, cf, k, i, f, q _ h1, r⟩
theorem Exa.cells {a : Addr} {C : String} (H : Exa Z h a C) (q : ∀ c, h[a]? = some c → h'[a]? = some c) : Exa Z h' a C := by
  obtain ⟨cell, k, h1, r⟩ := H; exact ⟨cell, k, q _ h1, r⟩
theorem AtA.cells {b : Addr} {ty : FieldType} {n : Int32} {f : Int32 → Int32} {g : Int32 → Int64} (H : AtA Z h b ty n f g) (q : ∀ c, h[b]? = some c → h'[b]? = some c) : AtA Z h' b ty n f g := by
  obtain ⟨cl, h1, r⟩ := H; exact ⟨cl, ⟨q _ h1.1, h1.2⟩, r⟩
theorem relC.cells (okA : ∀ t ∈ cd.2.2.2, t.1 < cd.2.2.2.length) (hR : relC Z cd en w h) (hk : w.1 = cd.2.2.2.length) (q : ∀ x c, en.1 ≤ x → x ≤ en.1 + cd.2.2.2.length → h[x]? = some c → h'[x]? = some c) : relC Z cd en w h' := by
  obtain ⟨r1, r2, r3, r4, r5, r6⟩ := hR
  have q0 := fun c => q en.1 c (Nat.le_refl _) (Nat.le_add_right _ _)
  refine ⟨r1, Exa.cells r2 q0, fun t m => Fld.cells (r3 t m) q0, fun t m => Fld.cells (r4 t m) q0, fun t m => ⟨fun k => ⟨Fld.cells ((r5 t m).1 k).1 q0, AtA.cells ((r5 t m).1 k).2 fun c => q _ c (Nat.le_add_right _ _) (by have := okA t m; omega)⟩, fun k => Fld.cells ((r5 t m).2 k) q0⟩, fun k => absurd k (by omega)⟩
end Keep
theorem apart {N i j n x : Nat} (hne : j ≠ i) (h1 : n + j * (N + 1) ≤ x) (h2 : x ≤ n + j * (N + 1) + N) : x < n + i * (N + 1) ∨ n + i * (N + 1) + N < x := by
  rcases Nat.lt_or_gt_of_ne hne with q | q
  · left
    have := Nat.mul_le_mul_right (N + 1) (show j + 1 ≤ i from q)
    rw [Nat.add_mul] at this
    omega
  · right
    have := Nat.mul_le_mul_right (N + 1) (show i + 1 ≤ j from q)
    rw [Nat.add_mul] at this
    omega
/-- one object's walk, seen from the law's level -/
theorem relL.step {Z : State} {cd : CD} {sc : Bool} {en : Nat × Nat} {sl : Int32} {sv : Int32 → Int32} {ws : List WO} {h h' : Heap} {i : Nat} {x y : WO} (okA : ∀ t ∈ cd.2.2.2, t.1 < cd.2.2.2.length) (hR : relL Z cd sc en (sl, sv, ws) h) (hi : ws[i]? = some x) (hoth : ∀ j z, ws[j]? = some z → j ≠ i → z.1 = cd.2.2.2.length)
    (hy : relC Z cd (en.1 + i * (cd.2.2.2.length + 1), en.1) y h') (hf : frmC cd (en.1 + i * (cd.2.2.2.length + 1), en.1) h h') (hz : h'.size + x.1 = h.size + y.1) : relL Z cd sc en (sl, sv, ws.set i y) h' := by
  obtain ⟨r1, r2, r3⟩ := hR
  refine ⟨fun q => ?_, fun j z hj => ?_, ?_⟩
  · obtain ⟨a1, a2, a3⟩ := r1 q
    refine ⟨a1, a2, AtA.cells a3 fun c hc => hf.2 _ c hc (Or.inl ?_)⟩
    show en.2 < en.1 + i * (cd.2.2.2.length + 1)
    omega
  · have hj' : (ws.set i y)[j]? = some z := hj
    rw [List.getElem?_set] at hj'
    by_cases e : i = j
    · subst e
      have : i < ws.length := (List.getElem?_eq_some_iff.mp hi).1
      simp [this] at hj'
      subst hj'
      exact hy
    · rw [if_neg e] at hj'
      exact relC.cells okA (r2 j z hj') (hoth j z hj' (Ne.symm e)) fun a c h1 h2 hc => hf.2 a c hc (apart (Ne.symm e) h1 h2)
  · have s1 := sum_set ws i x y hi
    have s2 : h.size = en.1 + (ws.map fun x => x.1 + 1).sum := r3
    show h'.size = en.1 + ((ws.set i y).map fun x => x.1 + 1).sum
    omega
section StepsL
variable {l : Launch} {Z : State} {a0 : Array Value} {cd : CD} {own : String} {sc : Bool} {md md' : MD} {pc pc' wt idx : Nat} {L L' : List Slot} {S stk as : List Value} {sl : Int32} {sv : Int32 → Int32} {ws ws' : List WO} {cu su cu' su' : Nat} {Q : Option Value → WL → Prop} {Q' : Option Value → WO → Prop}
theorem Wk.lenL (hd : InsA md pc .arraylength 1 pc') (h : Wk l Z (MoL Z cd own true) md pc' L (.int sl :: S) (sl, sv, ws) cu su Q) : Wk l Z (MoL Z cd own true) md pc L (.ref 0 :: S) (sl, sv, ws) cu su Q :=
  fun en p e s m args below meth c T locs r X K hz hF hR hL => by
  obtain ⟨hd, rfl⟩ := hd
  obtain ⟨a1, a2, cl, g1, g2, g3⟩ := hR.1 rfl
  have e1 : cl.slots.size.toInt32 = sl := by rw [g2]; exact (back32 a2).1
  refine (h en p e s m args below meth c T locs r X K hz hF hR hL).pre (fun _ q => q) fun t q => X.arraylength K.1 g1.1 (State.isArrayOf_alike K.2.1.alike g1.2.1) (g := mkF m pc r (.ref en.2 :: S.map (rv (rhoL cd en)))) rfl rfl (hb K.by hd) _ (by rw [e1]; exact q)
theorem Wk.ialoadL {x : Int32} (h0 : ¬ x < 0) (h1 : x < sl) (hd : InsA md pc .iaload 1 pc') (h : Wk l Z (MoL Z cd own true) md pc' L (.int (sv x) :: S) (sl, sv, ws) cu su Q) : Wk l Z (MoL Z cd own true) md pc L (.int x :: .ref 0 :: S) (sl, sv, ws) cu su Q :=
  fun en p e s m args below meth c T locs r X K hz hF hR hL => by
  obtain ⟨hd, rfl⟩ := hd
  obtain ⟨a1, a2, cl, g1, g2, g3⟩ := hR.1 rfl
  exact (h en p e s m args below meth c T locs r X K hz hF hR hL).pre (fun _ q => q) fun t q => X.iaload K.1 (j := x) (v := .int (sv x)) g1.1 (State.isArrayOf_alike K.2.1.alike g1.2.1) g1.2.2 (in_of g2 h0 h1) (g3 x h0 h1) (g := mkF m pc r (.int x :: .ref en.2 :: S.map (rv (rhoL cd en)))) rfl rfl (hb K.by hd) _ q
theorem Wk.newL (ok : CO Z a0 cd) {kk i' : Nat} (wc : (Cond.classLink own idx cd.1).before a0 Z = true) (wi : (Cond.instantiable cd.1 kk).before a0 Z = true) (wz : (Cond.initialized cd.1).before a0 Z = true) (hd : InsA md pc (.new idx) 3 pc') (hall : allK cd.2.2.2.length ws) (hi : ws.length + 1 = i') (hws : ws ++ [w0] = ws') (hcu : cu + 1 = cu') (hsu : su + kk = su') (hc : cu' ≤ (rmOf md).cells) (hs : su' ≤ (rmOf md).slots)
    (h : Wk l Z (MoL Z cd own sc) md pc' L (.ref i' :: S) (sl, sv, ws') cu' su' Q) : Wk l Z (MoL Z cd own sc) md pc L S (sl, sv, ws) cu su Q :=
  fun en p e s m args below meth c T locs r X K hz hF hR hL => by
  obtain ⟨hd, rfl⟩ := hd
  subst hi hws hcu hsu
  obtain ⟨T1, h1, X1, e1, E1, A1, D1, -, st⟩ := newO X K.1 K.2.1 K.2.2.1 wc wi wz rfl (g := mkF m pc r (S.map (rv (rhoL cd en)))) rfl (hb K.by hd) hc hs
  subst e1
  obtain ⟨r1, r2, r3⟩ := hR
  have r3' : T.heap.size = en.1 + (ws.map fun x => x.1 + 1).sum := r3
  have sm := hall.sum
  have z1 := X1.heapSize
  have z2 : (T.heap.size : Nat) < T1.heap.size := A1.lt
  have ea : T.heap.size = en.1 + ws.length * (cd.2.2.2.length + 1) := by rw [r3', sm]
  have okp := ok.2.2.2.2
  obtain ⟨q1, q2, q3, q4, q5, q6, q7, q8⟩ := okp
  have rel1 : relL Z cd sc en (sl, sv, ws ++ [w0]) T1.heap := by
    refine ⟨fun q => ⟨(r1 q).1, (r1 q).2.1, (r1 q).2.2.ext E1⟩, fun j z hj => ?_, ?_⟩
    · have hj' : (ws ++ [w0])[j]? = some z := hj
      by_cases e : j < ws.length
      · rw [List.getElem?_append_left e] at hj'
        exact relC.cells (fun t m => (q8 t m).2.1) (r2 j z hj') (allK.get _ hall _ _ hj') fun a c _ _ hc => E1.2 a c hc
      · have e2 : j = ws.length := by
          have := (List.getElem?_eq_some_iff.mp hj').1
          simp at this; omega
        subst e2
        simp at hj'
        subst hj'
        rw [← ea]
        refine ⟨by show en.1 ≤ T.heap.size; omega, A1, fun t m => ?_, fun t m => ?_, fun t m => ⟨fun k => absurd k (Nat.not_lt_zero _), fun _ => ?_⟩, fun _ => by show T1.heap.size = T.heap.size + 1 + 0; omega⟩
        · rcases q7 t m with q | q
          · exact D1 (ok.2.1 t m) q
          · exact D1 (ok.2.1 t m) q
        · exact D1 (ok.2.2.1 t m) pJ
        · exact D1 (ok.2.2.2.1 t m) (q8 t m).1
    · show T1.heap.size = en.1 + ((ws ++ [w0]).map fun x => x.1 + 1).sum
      rw [List.map_append, List.sum_append]
      show T1.heap.size = en.1 + ((ws.map fun x => x.1 + 1).sum + 1)
      omega
  refine (h en p e s m args below meth c T1 locs r X1 K (by omega) hF rel1 hL).pre (fun _ _ => trivial) fun t q => st t ?_
  rw [ea]
  exact q
theorem Wk.callLC (ok : CO Z a0 cd) (as : List Value) (i : Nat) (S : List Value) {i' : Nat} {x : WO} (hi' : i + 1 = i') (hs : stk = as.reverse ++ .ref i' :: S) (hx : ws[i]? = some x) (hoth : allK cd.2.2.2.length (ws.eraseIdx i)) (wl : (Cond.methodLink own idx (nmOf md')).before a0 Z = true) (cv : CalV Z a0 md' as.length) (hc : (nmOf md').cls = cd.1) (nr : noRef as = true) (hcal : Wk l Z (MoC Z cd) md' 0 L' [] x 0 0 Q') (hL' : (argsToLocals (.ref 0 :: as).toArray (mxOf md')).toList = L') (hw : wfL L' = true) (hl : L.length = mxOf md)
    (hwt : (S.map fun v => v.category).sum = wt) (ft : Fits md md' wt cu su cu' su') (hd : InsA md pc (.invokevirtual idx) 3 pc') (hk : ∀ v y, Q' v y → y.1 = x.1 + exOf md') (h : ∀ v y, Q' v y → Wk l Z (MoL Z cd own sc) md pc' L (v.toList ++ S) (sl, sv, ws.set i y) cu' su' Q) : Wk l Z (MoL Z cd own sc) md pc L stk (sl, sv, ws) cu su Q :=
  fun en p e s m args below meth c T locs r X K hz hF hR hL => by
  obtain ⟨hd, rfl⟩ := hd
  subst hs hi'
  have rx := hR.2.1 i x hx
  obtain ⟨v, T1, Lc, w1, X1, p1, p2, p3, p4, p5, p6, st⟩ := coreV (M' := MoC Z cd) (en := (en.1 + i * (cd.2.2.2.length + 1), en.1)) (r := r) (rest := S.map (rv (rhoL cd en))) X K hd wl cv hcal hc.symm rx (by rw [hc]; exact rx.2.1) rfl hL' hw ft (hL.1.trans hl) (by rw [cat_map]; omega)
  have f7 := ft.2.2.1
  have f8 := ft.2.2.2.2.2.2
  have em : (as.reverse ++ .ref (i + 1) :: S).map (rv (rhoL cd en)) = (as.map (rv ((MoC Z cd).rho (en.1 + i * (cd.2.2.2.length + 1), en.1)))).reverse ++ .ref ((MoC Z cd).rho (en.1 + i * (cd.2.2.2.length + 1), en.1) 0) :: S.map (rv (rhoL cd en)) := by
    rw [List.map_append, List.map_reverse, noRef.map as nr, noRef.map as nr]; rfl
  have oth : ∀ j z, ws[j]? = some z → j ≠ i → z.1 = cd.2.2.2.length := by
    intro j z hj hne
    by_cases e : j < i
    · exact allK.get _ hoth j z (by rw [List.getElem?_eraseIdx]; simp [e, hj])
    · refine allK.get _ hoth (j - 1) z ?_
      rw [List.getElem?_eraseIdx, if_neg (by omega), show j - 1 + 1 = j by omega]; exact hj
  have hkk := hk v w1 p1
  have okA : ∀ t ∈ cd.2.2.2, t.1 < cd.2.2.2.length := fun t m => (ok.2.2.2.2.2.2.2.2.2.2.2 t m).2.1
  have D := h v w1 p1 en p e s m args below meth c T1 _ r X1 K (by omega) (hF.app p4) (relL.step okA hR hx oth p2 p3 (by omega)) hL
  rw [res_map p6] at D
  show Done _ _ _ _ _ _ _ _ _ _ _ _ _ _ (mkF m pc r ((as.reverse ++ .ref (i + 1) :: S).map (rv (rhoL cd en))))
  rw [em]
  exact D.pre (fun _ _ => trivial) st
theorem Wk.ctorL (ok : CO Z a0 cd) (as : List Value) (i : Nat) (S : List Value) {i' : Nat} {x : WO} (hi' : i + 1 = i') (hs : stk = as.reverse ++ .ref i' :: S) (hx : ws[i]? = some x) (hoth : allK cd.2.2.2.length (ws.eraseIdx i)) (wl : (Cond.methodLink own idx (nmOf md')).before a0 Z = true) (cv : CalI Z a0 md' as.length) (hc : (nmOf md').cls = cd.1) (nr : noRef as = true) (hcal : Wk l Z (MoC Z cd) md' 0 L' [] x 0 0 Q') (hL' : (argsToLocals (.ref 0 :: as).toArray (mxOf md')).toList = L') (hw : wfL L' = true) (hl : L.length = mxOf md)
    (hwt : (S.map fun v => v.category).sum = wt) (ft : Fits md md' wt cu su cu' su') (hd : InsA md pc (.invokespecial idx) 3 pc') (hk : ∀ v y, Q' v y → y.1 = x.1 + exOf md') (h : ∀ v y, Q' v y → Wk l Z (MoL Z cd own sc) md pc' L (v.toList ++ S) (sl, sv, ws.set i y) cu' su' Q) : Wk l Z (MoL Z cd own sc) md pc L stk (sl, sv, ws) cu su Q :=
  fun en p e s m args below meth c T locs r X K hz hF hR hL => by
  obtain ⟨hd, rfl⟩ := hd
  subst hs hi'
  have rx := hR.2.1 i x hx
  obtain ⟨v, T1, Lc, w1, X1, p1, p2, p3, p4, p5, p6, st⟩ := coreI (M' := MoC Z cd) (en := (en.1 + i * (cd.2.2.2.length + 1), en.1)) (r := r) (rest := S.map (rv (rhoL cd en))) X K hd wl cv hcal hc.symm rx rfl hL' hw ft (hL.1.trans hl) (by rw [cat_map]; omega)
  have f7 := ft.2.2.1
  have f8 := ft.2.2.2.2.2.2
  have em : (as.reverse ++ .ref (i + 1) :: S).map (rv (rhoL cd en)) = (as.map (rv ((MoC Z cd).rho (en.1 + i * (cd.2.2.2.length + 1), en.1)))).reverse ++ .ref ((MoC Z cd).rho (en.1 + i * (cd.2.2.2.length + 1), en.1) 0) :: S.map (rv (rhoL cd en)) := by
    rw [List.map_append, List.map_reverse, noRef.map as nr, noRef.map as nr]; rfl
  have oth : ∀ j z, ws[j]? = some z → j ≠ i → z.1 = cd.2.2.2.length := by
    intro j z hj hne
    by_cases e : j < i
    · exact allK.get _ hoth j z (by rw [List.getElem?_eraseIdx]; simp [e, hj])
    · refine allK.get _ hoth (j - 1) z ?_
      rw [List.getElem?_eraseIdx, if_neg (by omega), show j - 1 + 1 = j by omega]; exact hj
  have hkk := hk v w1 p1
  have okA : ∀ t ∈ cd.2.2.2, t.1 < cd.2.2.2.length := fun t m => (ok.2.2.2.2.2.2.2.2.2.2.2 t m).2.1
  have D := h v w1 p1 en p e s m args below meth c T1 _ r X1 K (by omega) (hF.app p4) (relL.step okA hR hx oth p2 p3 (by omega)) hL
  rw [res_map p6] at D
  show Done _ _ _ _ _ _ _ _ _ _ _ _ _ _ (mkF m pc r ((as.reverse ++ .ref (i + 1) :: S).map (rv (rhoL cd en))))
  rw [em]
  exact D.pre (fun _ _ => trivial) st
end StepsL
end Jvm.Own

namespace Jvm.Own
open Jvm Jvm.ClassFile Sem Op Lib Jvm.Free Jvm.Stand Jvm.LawKit Jvm.RoadKit
/-- the class's list of fields, looked at -/
def okB (cd : CD) : Bool :=
  cd.2.1.all (fun (t : Nat × String × String) => cd.2.1.all fun t' => if t.1 = t'.1 then decide (t = t') else t.2.1 != t'.2.1) && cd.2.2.1.all (fun (t : Nat × String) => cd.2.2.1.all fun t' => if t.1 = t'.1 then decide (t = t') else t.2 != t'.2) && cd.2.2.2.all (fun (t : Nat × String × String × FieldType × Int32) => cd.2.2.2.all fun t' => if t.1 = t'.1 then decide (t = t') else t.2.1 != t'.2.1) &&
  cd.2.1.all (fun (t : Nat × String × String) => cd.2.2.1.all fun (t' : Nat × String) => t.2.1 != t'.2) && cd.2.1.all (fun (t : Nat × String × String) => cd.2.2.2.all fun (t' : Nat × String × String × FieldType × Int32) => t.2.1 != t'.2.1) && cd.2.2.1.all (fun (t : Nat × String) => cd.2.2.2.all fun (t' : Nat × String × String × FieldType × Int32) => t.2 != t'.2.1) &&
  cd.2.1.all (fun (t : Nat × String × String) => decide (parseFieldDescriptor t.2.2 = some .int) || decide (parseFieldDescriptor t.2.2 = some .boolean)) &&
  cd.2.2.2.all (fun (t : Nat × String × String × FieldType × Int32) => decide (parseFieldDescriptor t.2.2.1 = some (.array t.2.2.2.1)) && decide (t.1 < cd.2.2.2.length) && (decide (t.2.2.2.1 = .int) || decide (t.2.2.2.1 = .boolean) || decide (t.2.2.2.1 = .long)) && !decide (t.2.2.2.2 < 0))
theorem pair_of {α : Type} {L : List α} {f : α → Nat} {g : α → String} [DecidableEq α] (h : L.all (fun t => L.all fun t' => if f t = f t' then decide (t = t') else g t != g t') = true) : ∀ t ∈ L, ∀ t' ∈ L, (f t = f t' → t = t') ∧ (f t ≠ f t' → g t ≠ g t') := by
  intro t m t' m'
  have q := List.all_eq_true.mp (List.all_eq_true.mp h t m) t' m'
  constructor
  · intro e; rw [if_pos e] at q; exact of_decide_eq_true q
  · intro e; rw [if_neg e] at q; simpa using q
theorem apart_of {α β : Type} {L : List α} {L' : List β} {g : α → String} {g' : β → String} (h : L.all (fun t => L'.all fun t' => g t != g' t') = true) : ∀ t ∈ L, ∀ t' ∈ L', g t ≠ g' t' := by
  intro t m t' m'
  have q := List.all_eq_true.mp (List.all_eq_true.mp h t m) t' m'
  simpa using q
theorem okC.of {cd : CD} (h : okB cd = true) : okC cd := by
  unfold okB at h
  simp only [Bool.and_eq_true] at h
  obtain ⟨⟨⟨⟨⟨⟨⟨h1, h2⟩, h3⟩, h4⟩, h5⟩, h6⟩, h7⟩, h8⟩ := h
  refine ⟨pair_of (L := cd.2.1) (f := fun (t : Nat × String × String) => t.1) (g := fun (t : Nat × String × String) => t.2.1) h1, pair_of (L := cd.2.2.1) (f := fun (t : Nat × String) => t.1) (g := fun (t : Nat × String) => t.2) h2, pair_of (L := cd.2.2.2) (f := fun (t : Nat × String × String × FieldType × Int32) => t.1) (g := fun (t : Nat × String × String × FieldType × Int32) => t.2.1) h3, apart_of (L := cd.2.1) (L' := cd.2.2.1) (g := fun (t : Nat × String × String) => t.2.1) (g' := fun (t : Nat × String) => t.2) h4, apart_of (L := cd.2.1) (L' := cd.2.2.2) (g := fun (t : Nat × String × String) => t.2.1) (g' := fun (t : Nat × String × String × FieldType × Int32) => t.2.1) h5, apart_of (L := cd.2.2.1) (L' := cd.2.2.2) (g := fun (t : Nat × String) => t.2) (g' := fun (t : Nat × String × String × FieldType × Int32) => t.2.1) h6, fun t m => ?_, fun t m => ?_⟩
  · have q := List.all_eq_true.mp h7 t m
    simpa using q
  · have q := List.all_eq_true.mp h8 t m
    simp only [Bool.and_eq_true, Bool.or_eq_true, decide_eq_true_eq, Bool.not_eq_true', decide_eq_false_iff_not] at q
    exact ⟨q.1.1.1, q.1.1.2, by rcases q.1.2 with (a | a) | a <;> simp [a], q.2⟩
theorem nar1 : nar .boolean 1 = 1 := by decide
theorem nar0 : nar .boolean 0 = 0 := by decide
theorem nar_nar (x : Int32) : nar .boolean (nar .boolean x) = nar .boolean x := by
  show (x &&& 1) &&& 1 = x &&& 1
  rw [Int32.and_assoc]; rfl
theorem ne_toInt {x n : Int32} (q : ¬ x = n) : x.toInt ≠ n.toInt := fun h => q (Int32.toInt_inj.mp h)
/-! ## 6. The same calls where the callee's answer is known as a term -/
section FunC
variable {l : Launch} {Z : State} {a0 : Array Value} {cd : CD} {md md' : MD} {pc pc' wt idx : Nat} {L L' : List Slot} {S stk as : List Value} {w w1 : WO} {cu su cu' su' : Nat} {Q : Option Value → WO → Prop} {x : Value}
theorem Wk.callF (as : List Value) (S : List Value) (wl : (Cond.methodLink cd.1 idx (nmOf md')).before a0 Z = true) (cv : CalV Z a0 md' as.length) (hd : InsA md pc (.invokevirtual idx) 3 pc') (hcal : Wk l Z (MoC Z cd) md' 0 L' [] w 0 0 (fun v w' => v = some x ∧ w' = w1)) (ft : Fits md md' wt cu su cu' su') (hs : stk = as.reverse ++ .ref 0 :: S) (hc : (nmOf md').cls = cd.1) (nr : noRef as = true) (hL' : (argsToLocals (.ref 0 :: as).toArray (mxOf md')).toList = L') (hw : wfL L' = true) (hl : L.length = mxOf md)
    (hwt : (S.map fun v => v.category).sum = wt) (h : Wk l Z (MoC Z cd) md pc' L (x :: S) w1 cu' su' Q) : Wk l Z (MoC Z cd) md pc L stk w cu su Q :=
  Wk.callC as S hs wl cv hc nr hcal hL' hw hl hwt ft hd fun v w' q => by obtain ⟨rfl, rfl⟩ := q; exact h
theorem Wk.callU (as : List Value) (S : List Value) (wl : (Cond.methodLink cd.1 idx (nmOf md')).before a0 Z = true) (cv : CalV Z a0 md' as.length) (hd : InsA md pc (.invokevirtual idx) 3 pc') (hcal : Wk l Z (MoC Z cd) md' 0 L' [] w 0 0 (fun v w' => v = none ∧ w' = w1)) (ft : Fits md md' wt cu su cu' su') (hs : stk = as.reverse ++ .ref 0 :: S) (hc : (nmOf md').cls = cd.1) (nr : noRef as = true) (hL' : (argsToLocals (.ref 0 :: as).toArray (mxOf md')).toList = L') (hw : wfL L' = true) (hl : L.length = mxOf md)
    (hwt : (S.map fun v => v.category).sum = wt) (h : Wk l Z (MoC Z cd) md pc' L S w1 cu' su' Q) : Wk l Z (MoC Z cd) md pc L stk w cu su Q :=
  Wk.callC as S hs wl cv hc nr hcal hL' hw hl hwt ft hd fun v w' q => by obtain ⟨rfl, rfl⟩ := q; exact h
end FunC
section FunS
variable {μ E : Type} {l : Launch} {Z : State} {a0 : Array Value} {M : Mode μ E} {md md' : MD} {pc pc' wt idx : Nat} {L L' : List Slot} {S stk as : List Value} {w w1 : μ} {cu su cu' su' : Nat} {Q : Option Value → μ → Prop} {x : Value}
theorem Wk.callSF (hM : ∀ en h1 h2 h3, M.frm en h1 h2 → M.frm en h2 h3 → M.frm en h1 h3) (as : List Value) (S : List Value) (wl : (Cond.methodLink M.own idx (nmOf md')).before a0 Z = true) (cv : CalS Z a0 md' as.length) (hd : InsA md pc (.invokestatic idx) 3 pc') (hcal : Wk l Z M md' 0 L' [] w 0 0 (fun v w' => v = some x ∧ w' = w1)) (ft : Fits md md' wt cu su cu' su') (hs : stk = as.reverse ++ S) (hc : (nmOf md').cls = M.own) (hL' : (argsToLocals as.toArray (mxOf md')).toList = L') (hw : wfL L' = true) (hl : L.length = mxOf md)
    (hwt : (S.map fun v => v.category).sum = wt) (h : Wk l Z M md pc' L (x :: S) w1 cu' su' Q) : Wk l Z M md pc L stk w cu su Q :=
  Wk.callS hM as S hs wl cv hc hcal hL' hw hl hwt ft hd fun v w' q => by obtain ⟨rfl, rfl⟩ := q; exact h
theorem Wk.callSU (hM : ∀ en h1 h2 h3, M.frm en h1 h2 → M.frm en h2 h3 → M.frm en h1 h3) (as : List Value) (S : List Value) (wl : (Cond.methodLink M.own idx (nmOf md')).before a0 Z = true) (cv : CalS Z a0 md' as.length) (hd : InsA md pc (.invokestatic idx) 3 pc') (hcal : Wk l Z M md' 0 L' [] w 0 0 (fun v w' => v = none ∧ w' = w1)) (ft : Fits md md' wt cu su cu' su') (hs : stk = as.reverse ++ S) (hc : (nmOf md').cls = M.own) (hL' : (argsToLocals as.toArray (mxOf md')).toList = L') (hw : wfL L' = true) (hl : L.length = mxOf md)
    (hwt : (S.map fun v => v.category).sum = wt) (h : Wk l Z M md pc' L S w1 cu' su' Q) : Wk l Z M md pc L stk w cu su Q :=
  Wk.callS hM as S hs wl cv hc hcal hL' hw hl hwt ft hd fun v w' q => by obtain ⟨rfl, rfl⟩ := q; exact h
end FunS
section FunL
variable {l : Launch} {Z : State} {a0 : Array Value} {cd : CD} {own : String} {sc : Bool} {md md' : MD} {pc pc' wt idx : Nat} {L L' : List Slot} {S stk as : List Value} {sl : Int32} {sv : Int32 → Int32} {ws ws' : List WO} {cu su cu' su' : Nat} {Q : Option Value → WL → Prop} {v : Value} {y : WO}
theorem Wk.callLF (ok : CO Z a0 cd) (as : List Value) (i : Nat) (S : List Value) {i' : Nat} {x : WO} (wl : (Cond.methodLink own idx (nmOf md')).before a0 Z = true) (cv : CalV Z a0 md' as.length) (hd : InsA md pc (.invokevirtual idx) 3 pc') (hcal : Wk l Z (MoC Z cd) md' 0 L' [] x 0 0 (fun v' w' => v' = some v ∧ w' = y)) (ft : Fits md md' wt cu su cu' su') (hoth : allK cd.2.2.2.length (ws.eraseIdx i)) (hi' : i + 1 = i') (hs : stk = as.reverse ++ .ref i' :: S) (hx : ws[i]? = some x) (hc : (nmOf md').cls = cd.1) (nr : noRef as = true) (hL' : (argsToLocals (.ref 0 :: as).toArray (mxOf md')).toList = L') (hw : wfL L' = true) (hl : L.length = mxOf md)
    (hwt : (S.map fun v => v.category).sum = wt) (hk : y.1 = x.1 + exOf md') (hws : ws.set i y = ws') (h : Wk l Z (MoL Z cd own sc) md pc' L (v :: S) (sl, sv, ws') cu' su' Q) : Wk l Z (MoL Z cd own sc) md pc L stk (sl, sv, ws) cu su Q :=
  Wk.callLC ok as i S hi' hs hx hoth wl cv hc nr hcal hL' hw hl hwt ft hd (fun v' y' q => by obtain ⟨rfl, rfl⟩ := q; exact hk) fun v' y' q => by obtain ⟨rfl, rfl⟩ := q; subst hws; exact h
theorem Wk.callLU (ok : CO Z a0 cd) (as : List Value) (i : Nat) (S : List Value) {i' : Nat} {x : WO} (wl : (Cond.methodLink own idx (nmOf md')).before a0 Z = true) (cv : CalV Z a0 md' as.length) (hd : InsA md pc (.invokevirtual idx) 3 pc') (hcal : Wk l Z (MoC Z cd) md' 0 L' [] x 0 0 (fun v' w' => v' = none ∧ w' = y)) (ft : Fits md md' wt cu su cu' su') (hoth : allK cd.2.2.2.length (ws.eraseIdx i)) (hi' : i + 1 = i') (hs : stk = as.reverse ++ .ref i' :: S) (hx : ws[i]? = some x) (hc : (nmOf md').cls = cd.1) (nr : noRef as = true) (hL' : (argsToLocals (.ref 0 :: as).toArray (mxOf md')).toList = L') (hw : wfL L' = true) (hl : L.length = mxOf md)
    (hwt : (S.map fun v => v.category).sum = wt) (hk : y.1 = x.1 + exOf md') (hws : ws.set i y = ws') (h : Wk l Z (MoL Z cd own sc) md pc' L S (sl, sv, ws') cu' su' Q) : Wk l Z (MoL Z cd own sc) md pc L stk (sl, sv, ws) cu su Q :=
  Wk.callLC ok as i S hi' hs hx hoth wl cv hc nr hcal hL' hw hl hwt ft hd (fun v' y' q => by obtain ⟨rfl, rfl⟩ := q; exact hk) fun v' y' q => by obtain ⟨rfl, rfl⟩ := q; subst hws; exact h
theorem Wk.ctorLU (ok : CO Z a0 cd) (as : List Value) (i : Nat) (S : List Value) {i' : Nat} {x : WO} (wl : (Cond.methodLink own idx (nmOf md')).before a0 Z = true) (cv : CalI Z a0 md' as.length) (hd : InsA md pc (.invokespecial idx) 3 pc') (hcal : Wk l Z (MoC Z cd) md' 0 L' [] x 0 0 (fun v' w' => v' = none ∧ w' = y)) (ft : Fits md md' wt cu su cu' su') (hoth : allK cd.2.2.2.length (ws.eraseIdx i)) (hi' : i + 1 = i') (hs : stk = as.reverse ++ .ref i' :: S) (hx : ws[i]? = some x) (hc : (nmOf md').cls = cd.1) (nr : noRef as = true) (hL' : (argsToLocals (.ref 0 :: as).toArray (mxOf md')).toList = L') (hw : wfL L' = true) (hl : L.length = mxOf md)
    (hwt : (S.map fun v => v.category).sum = wt) (hk : y.1 = x.1 + exOf md') (hws : ws.set i y = ws') (h : Wk l Z (MoL Z cd own sc) md pc' L S (sl, sv, ws') cu' su' Q) : Wk l Z (MoL Z cd own sc) md pc L stk (sl, sv, ws) cu su Q :=
  Wk.ctorL ok as i S hi' hs hx hoth wl cv hc nr hcal hL' hw hl hwt ft hd (fun v' y' q => by obtain ⟨rfl, rfl⟩ := q; exact hk) fun v' y' q => by obtain ⟨rfl, rfl⟩ := q; subst hws; exact h
end FunL
end Jvm.Own

namespace Jvm.Own
open Jvm
/-! ## 7. Plain helpers -/
theorem lt_i {x y : Int32} : x < y ↔ x.toInt < y.toInt := Int32.lt_iff_toInt_lt
theorem add_toInt {x y : Int32} (h1 : -2147483648 ≤ x.toInt + y.toInt) (h2 : x.toInt + y.toInt < 2147483648) : (x + y).toInt = x.toInt + y.toInt := by
  rw [Int32.toInt_add]
  exact Int.bmod_eq_of_le (by omega) (by omega)
theorem sub_toInt {x y : Int32} (h1 : -2147483648 ≤ x.toInt - y.toInt) (h2 : x.toInt - y.toInt < 2147483648) : (x - y).toInt = x.toInt - y.toInt := by
  rw [Int32.toInt_sub]
  exact Int.bmod_eq_of_le (by omega) (by omega)
theorem succ_toInt {i n : Int32} (h : i < n) : (i + 1).toInt = i.toInt + 1 := by
  have h1 := lt_i.mp h
  have h2 := Int32.toInt_lt n
  have h3 := Int32.le_toInt i
  exact add_toInt (x := i) (y := 1) (by show -2147483648 ≤ i.toInt + 1; omega) (by show i.toInt + 1 < 2147483648; omega)
/-- a loop that counts up to n: backwards from its end -/
theorem loopUp {n : Int32} {P : Int32 → Prop} (hend : P n) (hstep : ∀ i, ¬ i < 0 → i < n → P (i + 1) → P i) : ∀ i, ¬ i < 0 → ¬ n < i → P i := by
  have key : ∀ (k : Nat) (i : Int32), ¬ i < 0 → ¬ n < i → (n.toInt - i.toInt).toNat = k → P i := by
    intro k
    induction k with
    | zero =>
      intro i h0 h1 hk
      have e : i = n := by
        rw [lt_i] at h1
        exact Int32.toInt_inj.mp (by omega)
      subst e; exact hend
    | succ k ih =>
      intro i h0 h1 hk
      rw [lt_i] at h1
      have hlt : i < n := lt_i.mpr (by omega)
      have hs := succ_toInt hlt
      have h0' : ¬ i.toInt < 0 := fun q => h0 (lt_i.mpr q)
      refine hstep i h0 hlt (ih (i + 1) ?_ ?_ ?_)
      · rw [lt_i, hs]; show ¬ i.toInt + 1 < 0; omega
      · rw [lt_i, hs]; omega
      · rw [hs]; omega
  exact fun i h0 h1 => key _ i h0 h1 rfl
/-- the first n places hold c -/
def fill {α : Type} (f : Int32 → α) (n : Int32) (c : α) : Int32 → α := fun x => if ¬ x < 0 ∧ x < n then c else f x
theorem fill_zero {α : Type} (f : Int32 → α) (c : α) : fill f 0 c = f := by
  funext x; exact if_neg fun q => q.1 q.2
theorem fill_succ {α : Type} (f : Int32 → α) (c : α) {i n : Int32} (h0 : ¬ i < 0) (h : i < n) : ups (fill f i c) i c = fill f (i + 1) c := by
  funext x
  have hs := succ_toInt h
  have h0' : ¬ i.toInt < 0 := fun q => h0 (lt_i.mpr q)
  unfold ups fill
  by_cases e : x = i
  · rw [if_pos e, if_pos]
    subst e
    exact ⟨h0, lt_i.mpr (by omega)⟩
  · rw [if_neg e]
    have e' : x.toInt ≠ i.toInt := fun q => e (Int32.toInt_inj.mp q)
    by_cases q : ¬ x < 0 ∧ x < i
    · rw [if_pos q, if_pos ⟨q.1, lt_i.mpr (by have := lt_i.mp q.2; omega)⟩]
    · rw [if_neg q, if_neg]
      rintro ⟨a, b⟩
      exact q ⟨a, lt_i.mpr (by have := lt_i.mp b; omega)⟩
theorem fill_in {α : Type} (f : Int32 → α) (c : α) {x n : Int32} (h0 : ¬ x < 0) (h : x < n) : fill f n c x = c := if_pos ⟨h0, h⟩
theorem ups_self {κ α : Type} [DecidableEq κ] (f : κ → α) (i : κ) : ups f i (f i) = f := by
  funext k; unfold ups; by_cases e : k = i
  · rw [if_pos e, e]
  · rw [if_neg e]
theorem ups_upd {κ α : Type} [DecidableEq κ] (f : κ → α) (i : κ) (x y : α) : ups (ups f i x) i y = ups f i y := by
  funext k; unfold ups; by_cases e : k = i
  · rw [if_pos e, if_pos e]
  · rw [if_neg e, if_neg e, if_neg e]
theorem ups_comm {κ α : Type} [DecidableEq κ] (f : κ → α) {i j : κ} (x y : α) (h : i ≠ j) : ups (ups f i x) j y = ups (ups f j y) i x := by
  funext k; unfold ups; by_cases e : k = i
  · have : k ≠ j := fun q => h (e.symm.trans q)
    rw [if_neg this, if_pos e, if_pos e]
  · by_cases e2 : k = j
    · rw [if_pos e2, if_neg e, if_pos e2]
    · rw [if_neg e2, if_neg e, if_neg e, if_neg e2]
end Jvm.Own

namespace Jvm.Own
open Jvm Jvm.Free
/-! ## 8. Bits -/
theorem toNat_toInt (x : Int32) : (x.toBitVec.toNat : Int) = x.toInt % 4294967296 := by
  have h1 : x.toInt = x.toBitVec.toInt := rfl
  rw [h1, BitVec.toInt_eq_toNat_bmod]
  have h2 := x.toBitVec.isLt
  have h3 := Int.bmod_emod (x := (x.toBitVec.toNat : Int)) (m := 2 ^ 32)
  have h4 : ((2 ^ 32 : Nat) : Int) = 4294967296 := rfl
  rw [h4] at h3
  rw [h3]; omega
theorem and_mask (x m : Int32) (k : Nat) (hk : k < 31) (hm : m.toBitVec.toNat = 2 ^ k - 1) : (x &&& m).toInt = x.toInt % ((2 ^ k : Nat) : Int) := by
  have h1 : (x &&& m).toInt = (x.toBitVec &&& m.toBitVec).toInt := rfl
  have h2 : (x.toBitVec &&& m.toBitVec).toNat = x.toBitVec.toNat % 2 ^ k := by rw [BitVec.toNat_and, hm, Nat.and_two_pow_sub_one_eq_mod]
  have h3 : (2 ^ k : Nat) ≤ 2 ^ 30 := Nat.pow_le_pow_right (by decide) (by omega)
  have h4 : x.toBitVec.toNat % 2 ^ k < 2 ^ k := Nat.mod_lt _ (Nat.two_pow_pos k)
  have h5 : (2 ^ k : Nat) ∣ 4294967296 := ⟨2 ^ (32 - k), by rw [← Nat.pow_add]; have : k + (32 - k) = 32 := by omega
                                                            rw [this]⟩
  rw [h1, BitVec.toInt_eq_toNat_of_lt (by rw [h2]; omega), h2, Int.natCast_emod, toNat_toInt]
  exact Int.emod_emod_of_dvd _ (Int.natCast_dvd_natCast.mpr h5)
theorem sar_toInt (x y : Int32) (k : Nat) (hy : y.toBitVec.smod 32#32 = BitVec.ofNat 32 k) (hk : k < 32) : (x >>> y).toInt = x.toInt / ((2 ^ k : Nat) : Int) := by
  have h1 : (x >>> y).toInt = (x.toBitVec.sshiftRight' (y.toBitVec.smod 32#32)).toInt := rfl
  rw [h1, hy, BitVec.sshiftRight_eq', BitVec.toInt_sshiftRight, BitVec.toNat_ofNat, Nat.mod_eq_of_lt (by omega), Int.shiftRight_eq_div_pow]
  rfl
theorem ushr_pos (x y : Int32) (k : Nat) (hy : (y &&& 31).toBitVec.toNat = k) (hx : ¬ x < 0) : (XT.ushr x y).toInt = x.toInt / ((2 ^ k : Nat) : Int) := by
  have hx' : 0 ≤ x.toInt := by rw [lt_i] at hx; have z : (0 : Int32).toInt = 0 := rfl; omega
  have h0 : (x.toBitVec.toNat : Int) = x.toInt := by rw [toNat_toInt]; have := Int32.toInt_lt x; omega
  have hy' : k < 32 := by
    rw [← hy]
    have : (y &&& 31).toBitVec.toNat = y.toBitVec.toNat % 2 ^ 5 := by
      show (y.toBitVec &&& 31#32).toNat = _
      rw [BitVec.toNat_and]; exact Nat.and_two_pow_sub_one_eq_mod _ 5
    omega
  have h1 : (XT.ushr x y).toBitVec = x.toBitVec >>> k := by
    show x.toBitVec >>> ((y &&& 31).toBitVec % 32#32) = _
    rw [BitVec.ushiftRight_eq', BitVec.toNat_umod, hy]
    show x.toBitVec >>> (k % 32) = _
    rw [Nat.mod_eq_of_lt hy']
  have h2 : (x.toBitVec >>> k).toNat = x.toBitVec.toNat / 2 ^ k := by rw [BitVec.toNat_ushiftRight, Nat.shiftRight_eq_div_pow]
  have h3 : (XT.ushr x y).toInt = (x.toBitVec >>> k).toInt := by rw [← h1]; rfl
  have h4 : x.toBitVec.toNat / 2 ^ k ≤ x.toBitVec.toNat := Nat.div_le_self _ _
  rw [h3, BitVec.toInt_eq_toNat_of_lt (by rw [h2]; have := Int32.toInt_lt x; omega), h2, Int.natCast_ediv, h0]
end Jvm.Own
namespace Jvm.Pilot.@@N@@
open Jvm Jvm.ClassFile Sem Op Lib Jvm.Free Jvm.Stand Jvm.LawKit Jvm.RoadKit Bundle Jvm.Own Jvm.Pilot.@@N@@.Jvm.D
def OK (Z : State) (a0 : Array Value) : Prop := ∀ d ∈ tables_1, d.before a0 Z = true
theorem OK.w {Z : State} {a0 : Array Value} (H : OK Z a0) (i : Nat) {d : Jvm.Cond} (h : tables_1[i]? = some d) : d.before a0 Z = true := H _ (List.mem_of_getElem? h)
abbrev cdC : CD := ("RecursiveCte", [(0, "maxNodes", "I"), (1, "maxEdges", "I"), (2, "rowLimit", "I"), (3, "edges", "I"), (4, "kind", "I"), (5, "search", "I"), (6, "cycle", "Z"), (7, "maxDepth", "I"), (8, "status", "I"), (9, "count", "I"), (10, "top", "I")], [], [(0, "adj", "[Z", .boolean, 256), (1, "seed", "[Z", .boolean, 16), (2, "rowNodeA", "[I", .int, 64), (3, "rowDepthA", "[I", .int, 64), (4, "rowCycA", "[Z", .boolean, 64), (5, "rowPathA", "[I", .int, 1024), (6, "stkNode", "[I", .int, 16), (7, "stkNext", "[I", .int, 16), (8, "stkCyc", "[Z", .boolean, 16), (9, "found", "[Z", .boolean, 16)])
theorem okcC : okC cdC := okC.of (by decide +kernel)
theorem mI_maxNodes : (0, "maxNodes", "I") ∈ cdC.2.1 := List.mem_of_getElem? (i := 0) rfl
theorem mI_maxEdges : (1, "maxEdges", "I") ∈ cdC.2.1 := List.mem_of_getElem? (i := 1) rfl
theorem mI_rowLimit : (2, "rowLimit", "I") ∈ cdC.2.1 := List.mem_of_getElem? (i := 2) rfl
theorem mI_edges : (3, "edges", "I") ∈ cdC.2.1 := List.mem_of_getElem? (i := 3) rfl
theorem mI_kind : (4, "kind", "I") ∈ cdC.2.1 := List.mem_of_getElem? (i := 4) rfl
theorem mI_search : (5, "search", "I") ∈ cdC.2.1 := List.mem_of_getElem? (i := 5) rfl
theorem mI_cycle : (6, "cycle", "Z") ∈ cdC.2.1 := List.mem_of_getElem? (i := 6) rfl
theorem mI_maxDepth : (7, "maxDepth", "I") ∈ cdC.2.1 := List.mem_of_getElem? (i := 7) rfl
theorem mI_status : (8, "status", "I") ∈ cdC.2.1 := List.mem_of_getElem? (i := 8) rfl
theorem mI_count : (9, "count", "I") ∈ cdC.2.1 := List.mem_of_getElem? (i := 9) rfl
theorem mI_top : (10, "top", "I") ∈ cdC.2.1 := List.mem_of_getElem? (i := 10) rfl
theorem mA_adj : (0, "adj", "[Z", FieldType.boolean, (256 : Int32)) ∈ cdC.2.2.2 := List.mem_of_getElem? (i := 0) rfl
theorem mA_seed : (1, "seed", "[Z", FieldType.boolean, (16 : Int32)) ∈ cdC.2.2.2 := List.mem_of_getElem? (i := 1) rfl
theorem mA_rowNodeA : (2, "rowNodeA", "[I", FieldType.int, (64 : Int32)) ∈ cdC.2.2.2 := List.mem_of_getElem? (i := 2) rfl
theorem mA_rowDepthA : (3, "rowDepthA", "[I", FieldType.int, (64 : Int32)) ∈ cdC.2.2.2 := List.mem_of_getElem? (i := 3) rfl
theorem mA_rowCycA : (4, "rowCycA", "[Z", FieldType.boolean, (64 : Int32)) ∈ cdC.2.2.2 := List.mem_of_getElem? (i := 4) rfl
theorem mA_rowPathA : (5, "rowPathA", "[I", FieldType.int, (1024 : Int32)) ∈ cdC.2.2.2 := List.mem_of_getElem? (i := 5) rfl
theorem mA_stkNode : (6, "stkNode", "[I", FieldType.int, (16 : Int32)) ∈ cdC.2.2.2 := List.mem_of_getElem? (i := 6) rfl
theorem mA_stkNext : (7, "stkNext", "[I", FieldType.int, (16 : Int32)) ∈ cdC.2.2.2 := List.mem_of_getElem? (i := 7) rfl
theorem mA_stkCyc : (8, "stkCyc", "[Z", FieldType.boolean, (16 : Int32)) ∈ cdC.2.2.2 := List.mem_of_getElem? (i := 8) rfl
theorem mA_found : (9, "found", "[Z", FieldType.boolean, (16 : Int32)) ∈ cdC.2.2.2 := List.mem_of_getElem? (i := 9) rfl
theorem wf_adj {Z : State} {a0 : Array Value} (H : OK Z a0) : (Cond.fieldLink "RecursiveCte" 7 "RecursiveCte" "adj" "[Z").before a0 Z = true := H.w 10 rfl
theorem wf_seed {Z : State} {a0 : Array Value} (H : OK Z a0) : (Cond.fieldLink "RecursiveCte" 13 "RecursiveCte" "seed" "[Z").before a0 Z = true := H.w 12 rfl
theorem wf_rowNodeA {Z : State} {a0 : Array Value} (H : OK Z a0) : (Cond.fieldLink "RecursiveCte" 16 "RecursiveCte" "rowNodeA" "[I").before a0 Z = true := H.w 15 rfl
theorem wf_rowDepthA {Z : State} {a0 : Array Value} (H : OK Z a0) : (Cond.fieldLink "RecursiveCte" 20 "RecursiveCte" "rowDepthA" "[I").before a0 Z = true := H.w 17 rfl
theorem wf_rowCycA {Z : State} {a0 : Array Value} (H : OK Z a0) : (Cond.fieldLink "RecursiveCte" 23 "RecursiveCte" "rowCycA" "[Z").before a0 Z = true := H.w 19 rfl
theorem wf_rowPathA {Z : State} {a0 : Array Value} (H : OK Z a0) : (Cond.fieldLink "RecursiveCte" 26 "RecursiveCte" "rowPathA" "[I").before a0 Z = true := H.w 21 rfl
theorem wf_stkNode {Z : State} {a0 : Array Value} (H : OK Z a0) : (Cond.fieldLink "RecursiveCte" 29 "RecursiveCte" "stkNode" "[I").before a0 Z = true := H.w 23 rfl
theorem wf_stkNext {Z : State} {a0 : Array Value} (H : OK Z a0) : (Cond.fieldLink "RecursiveCte" 32 "RecursiveCte" "stkNext" "[I").before a0 Z = true := H.w 25 rfl
theorem wf_stkCyc {Z : State} {a0 : Array Value} (H : OK Z a0) : (Cond.fieldLink "RecursiveCte" 35 "RecursiveCte" "stkCyc" "[Z").before a0 Z = true := H.w 27 rfl
theorem wf_found {Z : State} {a0 : Array Value} (H : OK Z a0) : (Cond.fieldLink "RecursiveCte" 38 "RecursiveCte" "found" "[Z").before a0 Z = true := H.w 29 rfl
theorem wf_maxNodes {Z : State} {a0 : Array Value} (H : OK Z a0) : (Cond.fieldLink "RecursiveCte" 45 "RecursiveCte" "maxNodes" "I").before a0 Z = true := H.w 35 rfl
theorem wf_maxEdges {Z : State} {a0 : Array Value} (H : OK Z a0) : (Cond.fieldLink "RecursiveCte" 49 "RecursiveCte" "maxEdges" "I").before a0 Z = true := H.w 37 rfl
theorem wf_rowLimit {Z : State} {a0 : Array Value} (H : OK Z a0) : (Cond.fieldLink "RecursiveCte" 52 "RecursiveCte" "rowLimit" "I").before a0 Z = true := H.w 39 rfl
theorem wf_edges {Z : State} {a0 : Array Value} (H : OK Z a0) : (Cond.fieldLink "RecursiveCte" 55 "RecursiveCte" "edges" "I").before a0 Z = true := H.w 41 rfl
theorem wf_kind {Z : State} {a0 : Array Value} (H : OK Z a0) : (Cond.fieldLink "RecursiveCte" 58 "RecursiveCte" "kind" "I").before a0 Z = true := H.w 43 rfl
theorem wf_search {Z : State} {a0 : Array Value} (H : OK Z a0) : (Cond.fieldLink "RecursiveCte" 61 "RecursiveCte" "search" "I").before a0 Z = true := H.w 45 rfl
theorem wf_cycle {Z : State} {a0 : Array Value} (H : OK Z a0) : (Cond.fieldLink "RecursiveCte" 64 "RecursiveCte" "cycle" "Z").before a0 Z = true := H.w 47 rfl
theorem wf_maxDepth {Z : State} {a0 : Array Value} (H : OK Z a0) : (Cond.fieldLink "RecursiveCte" 68 "RecursiveCte" "maxDepth" "I").before a0 Z = true := H.w 49 rfl
theorem wf_status {Z : State} {a0 : Array Value} (H : OK Z a0) : (Cond.fieldLink "RecursiveCte" 71 "RecursiveCte" "status" "I").before a0 Z = true := H.w 51 rfl
theorem wf_count {Z : State} {a0 : Array Value} (H : OK Z a0) : (Cond.fieldLink "RecursiveCte" 74 "RecursiveCte" "count" "I").before a0 Z = true := H.w 53 rfl
theorem wf_top {Z : State} {a0 : Array Value} (H : OK Z a0) : (Cond.fieldLink "RecursiveCte" 77 "RecursiveCte" "top" "I").before a0 Z = true := H.w 55 rfl
theorem wy_adj {Z : State} {a0 : Array Value} (H : OK Z a0) : (Cond.laysFinal "RecursiveCte" "RecursiveCte" "adj" "[Z").before a0 Z = true := H.w 11 rfl
theorem wy_seed {Z : State} {a0 : Array Value} (H : OK Z a0) : (Cond.laysFinal "RecursiveCte" "RecursiveCte" "seed" "[Z").before a0 Z = true := H.w 13 rfl
theorem wy_rowNodeA {Z : State} {a0 : Array Value} (H : OK Z a0) : (Cond.laysFinal "RecursiveCte" "RecursiveCte" "rowNodeA" "[I").before a0 Z = true := H.w 16 rfl
theorem wy_rowDepthA {Z : State} {a0 : Array Value} (H : OK Z a0) : (Cond.laysFinal "RecursiveCte" "RecursiveCte" "rowDepthA" "[I").before a0 Z = true := H.w 18 rfl
theorem wy_rowCycA {Z : State} {a0 : Array Value} (H : OK Z a0) : (Cond.laysFinal "RecursiveCte" "RecursiveCte" "rowCycA" "[Z").before a0 Z = true := H.w 20 rfl
theorem wy_rowPathA {Z : State} {a0 : Array Value} (H : OK Z a0) : (Cond.laysFinal "RecursiveCte" "RecursiveCte" "rowPathA" "[I").before a0 Z = true := H.w 22 rfl
theorem wy_stkNode {Z : State} {a0 : Array Value} (H : OK Z a0) : (Cond.laysFinal "RecursiveCte" "RecursiveCte" "stkNode" "[I").before a0 Z = true := H.w 24 rfl
theorem wy_stkNext {Z : State} {a0 : Array Value} (H : OK Z a0) : (Cond.laysFinal "RecursiveCte" "RecursiveCte" "stkNext" "[I").before a0 Z = true := H.w 26 rfl
theorem wy_stkCyc {Z : State} {a0 : Array Value} (H : OK Z a0) : (Cond.laysFinal "RecursiveCte" "RecursiveCte" "stkCyc" "[Z").before a0 Z = true := H.w 28 rfl
theorem wy_found {Z : State} {a0 : Array Value} (H : OK Z a0) : (Cond.laysFinal "RecursiveCte" "RecursiveCte" "found" "[Z").before a0 Z = true := H.w 30 rfl
theorem wy_maxNodes {Z : State} {a0 : Array Value} (H : OK Z a0) : (Cond.lays "RecursiveCte" "RecursiveCte" "maxNodes" "I").before a0 Z = true := H.w 36 rfl
theorem wy_maxEdges {Z : State} {a0 : Array Value} (H : OK Z a0) : (Cond.lays "RecursiveCte" "RecursiveCte" "maxEdges" "I").before a0 Z = true := H.w 38 rfl
theorem wy_rowLimit {Z : State} {a0 : Array Value} (H : OK Z a0) : (Cond.lays "RecursiveCte" "RecursiveCte" "rowLimit" "I").before a0 Z = true := H.w 40 rfl
theorem wy_edges {Z : State} {a0 : Array Value} (H : OK Z a0) : (Cond.lays "RecursiveCte" "RecursiveCte" "edges" "I").before a0 Z = true := H.w 42 rfl
theorem wy_kind {Z : State} {a0 : Array Value} (H : OK Z a0) : (Cond.lays "RecursiveCte" "RecursiveCte" "kind" "I").before a0 Z = true := H.w 44 rfl
theorem wy_search {Z : State} {a0 : Array Value} (H : OK Z a0) : (Cond.lays "RecursiveCte" "RecursiveCte" "search" "I").before a0 Z = true := H.w 46 rfl
theorem wy_cycle {Z : State} {a0 : Array Value} (H : OK Z a0) : (Cond.lays "RecursiveCte" "RecursiveCte" "cycle" "Z").before a0 Z = true := H.w 48 rfl
theorem wy_maxDepth {Z : State} {a0 : Array Value} (H : OK Z a0) : (Cond.lays "RecursiveCte" "RecursiveCte" "maxDepth" "I").before a0 Z = true := H.w 50 rfl
theorem wy_status {Z : State} {a0 : Array Value} (H : OK Z a0) : (Cond.lays "RecursiveCte" "RecursiveCte" "status" "I").before a0 Z = true := H.w 52 rfl
theorem wy_count {Z : State} {a0 : Array Value} (H : OK Z a0) : (Cond.lays "RecursiveCte" "RecursiveCte" "count" "I").before a0 Z = true := H.w 54 rfl
theorem wy_top {Z : State} {a0 : Array Value} (H : OK Z a0) : (Cond.lays "RecursiveCte" "RecursiveCte" "top" "I").before a0 Z = true := H.w 56 rfl
theorem wa_int {Z : State} {a0 : Array Value} (H : OK Z a0) : (Cond.arrayClass (newarray.typeOf .int)).before a0 Z = true := H.w 14 rfl
theorem wa_boolean {Z : State} {a0 : Array Value} (H : OK Z a0) : (Cond.arrayClass (newarray.typeOf .boolean)).before a0 Z = true := H.w 9 rfl
theorem wz_C {Z : State} {a0 : Array Value} (H : OK Z a0) : (Cond.initialized "RecursiveCte").before a0 Z = true := H.w 2 rfl
theorem coC {Z : State} {a0 : Array Value} (H : OK Z a0) : CO Z a0 cdC := by
  refine ⟨⟨21, H.w 1 rfl⟩, ?_, ?_, ?_, okcC⟩
  · intro t m; simp only [cdC, List.mem_cons, List.not_mem_nil, or_false] at m
    rcases m with rfl | rfl | rfl | rfl | rfl | rfl | rfl | rfl | rfl | rfl | rfl
    · exact Or.inl (wy_maxNodes H)
    · exact Or.inl (wy_maxEdges H)
    · exact Or.inl (wy_rowLimit H)
    · exact Or.inl (wy_edges H)
    · exact Or.inl (wy_kind H)
    · exact Or.inl (wy_search H)
    · exact Or.inl (wy_cycle H)
    · exact Or.inl (wy_maxDepth H)
    · exact Or.inl (wy_status H)
    · exact Or.inl (wy_count H)
    · exact Or.inl (wy_top H)
  · intro t m; cases m
  · intro t m; simp only [cdC, List.mem_cons, List.not_mem_nil, or_false] at m
    rcases m with rfl | rfl | rfl | rfl | rfl | rfl | rfl | rfl | rfl | rfl
    · exact Or.inr (wy_adj H)
    · exact Or.inr (wy_seed H)
    · exact Or.inr (wy_rowNodeA H)
    · exact Or.inr (wy_rowDepthA H)
    · exact Or.inr (wy_rowCycA H)
    · exact Or.inr (wy_rowPathA H)
    · exact Or.inr (wy_stkNode H)
    · exact Or.inr (wy_stkNext H)
    · exact Or.inr (wy_stkCyc H)
    · exact Or.inr (wy_found H)
theorem mrC {Z : State} (en : Nat × Nat) (h : Heap) : (MoC Z cdC).frm en h h := frmC.refl _ _ _
theorem mtC {Z : State} (en : Nat × Nat) (h1 h2 h3 : Heap) (a : (MoC Z cdC).frm en h1 h2) (b : (MoC Z cdC).frm en h2 h3) : (MoC Z cdC).frm en h1 h3 := frmC.trans a b
theorem mrL {Z : State} (en : Nat × Nat) (h : Heap) : (MoL Z cdC "RecursiveCteL3" false).frm en h h := trivial
theorem mtL {Z : State} (en : Nat × Nat) (h1 h2 h3 : Heap) (a : (MoL Z cdC "RecursiveCteL3" false).frm en h1 h2) (b : (MoL Z cdC "RecursiveCteL3" false).frm en h2 h3) : (MoL Z cdC "RecursiveCteL3" false).frm en h1 h3 := trivial
theorem pn_RecursiveCte : plainName "RecursiveCte" = true := by first | (simp [plainName, overriddenIn]; done) | decide +kernel
theorem pn_RecursiveCteL3 : plainName "RecursiveCteL3" = true := by first | (simp [plainName, overriddenIn]; done) | decide +kernel
theorem pd___I : ∀ sig, parseMethodDescriptor "()I" = some sig → 0 = sig.parameters.length := fun sig h => by
  have q : parseMethodDescriptor "()I" = some ⟨[], some .int⟩ := by decide +kernel
  cases q.symm.trans h; rfl
theorem pd___V : ∀ sig, parseMethodDescriptor "()V" = some sig → 0 = sig.parameters.length := fun sig h => by
  have q : parseMethodDescriptor "()V" = some ⟨[], none⟩ := by decide +kernel
  cases q.symm.trans h; rfl
theorem pd___Z : ∀ sig, parseMethodDescriptor "()Z" = some sig → 0 = sig.parameters.length := fun sig h => by
  have q : parseMethodDescriptor "()Z" = some ⟨[], some .boolean⟩ := by decide +kernel
  cases q.symm.trans h; rfl
theorem pd__I_I : ∀ sig, parseMethodDescriptor "(I)I" = some sig → 1 = sig.parameters.length := fun sig h => by
  have q : parseMethodDescriptor "(I)I" = some ⟨[.int], some .int⟩ := by decide +kernel
  cases q.symm.trans h; rfl
theorem pd__I_Z : ∀ sig, parseMethodDescriptor "(I)Z" = some sig → 1 = sig.parameters.length := fun sig h => by
  have q : parseMethodDescriptor "(I)Z" = some ⟨[.int], some .boolean⟩ := by decide +kernel
  cases q.symm.trans h; rfl
theorem pd__II_I : ∀ sig, parseMethodDescriptor "(II)I" = some sig → 2 = sig.parameters.length := fun sig h => by
  have q : parseMethodDescriptor "(II)I" = some ⟨[.int, .int], some .int⟩ := by decide +kernel
  cases q.symm.trans h; rfl
theorem pd__II_Z : ∀ sig, parseMethodDescriptor "(II)Z" = some sig → 2 = sig.parameters.length := fun sig h => by
  have q : parseMethodDescriptor "(II)Z" = some ⟨[.int, .int], some .boolean⟩ := by decide +kernel
  cases q.symm.trans h; rfl
theorem pd__III_I : ∀ sig, parseMethodDescriptor "(III)I" = some sig → 3 = sig.parameters.length := fun sig h => by
  have q : parseMethodDescriptor "(III)I" = some ⟨[.int, .int, .int], some .int⟩ := by decide +kernel
  cases q.symm.trans h; rfl
theorem pd__III_V : ∀ sig, parseMethodDescriptor "(III)V" = some sig → 3 = sig.parameters.length := fun sig h => by
  have q : parseMethodDescriptor "(III)V" = some ⟨[.int, .int, .int], none⟩ := by decide +kernel
  cases q.symm.trans h; rfl
theorem pd__III_Z : ∀ sig, parseMethodDescriptor "(III)Z" = some sig → 3 = sig.parameters.length := fun sig h => by
  have q : parseMethodDescriptor "(III)Z" = some ⟨[.int, .int, .int], some .boolean⟩ := by decide +kernel
  cases q.symm.trans h; rfl
theorem pd__LRecursiveCte_IIIIIZ_Z : ∀ sig, parseMethodDescriptor "(LRecursiveCte;IIIIIZ)Z" = some sig → 7 = sig.parameters.length := fun sig h => by
  have q : parseMethodDescriptor "(LRecursiveCte;IIIIIZ)Z" = some ⟨[(.object "RecursiveCte"), .int, .int, .int, .int, .int, .boolean], some .boolean⟩ := by decide +kernel
  cases q.symm.trans h; rfl
abbrev md_init : MD := (⟨"RecursiveCte", "<init>", "(III)V"⟩, prog_1_method_1_code, 4, none, { frames := 1, cells := 10, slots := 1552, locals := 16 }, 10)
theorem cv_init {Z : State} {a0 : Array Value} (H : OK Z a0) : CalI Z a0 md_init 3 := ⟨pn_RecursiveCte, by decide, pd__III_V, H.w 4 rfl, H.w 5 rfl, H.w 2 rfl, rfl, rfl⟩
theorem o_init_0 : InsA md_init 0 (.aload_n 0) 1 1 := ⟨by decide +kernel, rfl⟩
theorem o_init_1 : InsA md_init 1 (.invokespecial 1) 3 4 := ⟨by decide +kernel, rfl⟩
theorem o_init_4 : InsA md_init 4 (.aload_n 0) 1 5 := ⟨by decide +kernel, rfl⟩
theorem o_init_5 : InsA md_init 5 (.sipush 256) 3 8 := ⟨by decide +kernel, rfl⟩
theorem o_init_8 : InsA md_init 8 (.newarray .boolean) 2 10 := ⟨by decide +kernel, rfl⟩
theorem o_init_10 : InsA md_init 10 (.putfield 7) 3 13 := ⟨by decide +kernel, rfl⟩
theorem o_init_13 : InsA md_init 13 (.aload_n 0) 1 14 := ⟨by decide +kernel, rfl⟩
theorem o_init_14 : InsA md_init 14 (.bipush 16) 2 16 := ⟨by decide +kernel, rfl⟩
theorem o_init_16 : InsA md_init 16 (.newarray .boolean) 2 18 := ⟨by decide +kernel, rfl⟩
theorem o_init_18 : InsA md_init 18 (.putfield 13) 3 21 := ⟨by decide +kernel, rfl⟩
theorem o_init_21 : InsA md_init 21 (.aload_n 0) 1 22 := ⟨by decide +kernel, rfl⟩
theorem o_init_22 : InsA md_init 22 (.bipush 64) 2 24 := ⟨by decide +kernel, rfl⟩
theorem o_init_24 : InsA md_init 24 (.newarray .int) 2 26 := ⟨by decide +kernel, rfl⟩
theorem o_init_26 : InsA md_init 26 (.putfield 16) 3 29 := ⟨by decide +kernel, rfl⟩
theorem o_init_29 : InsA md_init 29 (.aload_n 0) 1 30 := ⟨by decide +kernel, rfl⟩
theorem o_init_30 : InsA md_init 30 (.bipush 64) 2 32 := ⟨by decide +kernel, rfl⟩
theorem o_init_32 : InsA md_init 32 (.newarray .int) 2 34 := ⟨by decide +kernel, rfl⟩
theorem o_init_34 : InsA md_init 34 (.putfield 20) 3 37 := ⟨by decide +kernel, rfl⟩
theorem o_init_37 : InsA md_init 37 (.aload_n 0) 1 38 := ⟨by decide +kernel, rfl⟩
theorem o_init_38 : InsA md_init 38 (.bipush 64) 2 40 := ⟨by decide +kernel, rfl⟩
theorem o_init_40 : InsA md_init 40 (.newarray .boolean) 2 42 := ⟨by decide +kernel, rfl⟩
theorem o_init_42 : InsA md_init 42 (.putfield 23) 3 45 := ⟨by decide +kernel, rfl⟩
theorem o_init_45 : InsA md_init 45 (.aload_n 0) 1 46 := ⟨by decide +kernel, rfl⟩
theorem o_init_46 : InsA md_init 46 (.sipush 1024) 3 49 := ⟨by decide +kernel, rfl⟩
theorem o_init_49 : InsA md_init 49 (.newarray .int) 2 51 := ⟨by decide +kernel, rfl⟩
theorem o_init_51 : InsA md_init 51 (.putfield 26) 3 54 := ⟨by decide +kernel, rfl⟩
theorem o_init_54 : InsA md_init 54 (.aload_n 0) 1 55 := ⟨by decide +kernel, rfl⟩
theorem o_init_55 : InsA md_init 55 (.bipush 16) 2 57 := ⟨by decide +kernel, rfl⟩
theorem o_init_57 : InsA md_init 57 (.newarray .int) 2 59 := ⟨by decide +kernel, rfl⟩
theorem o_init_59 : InsA md_init 59 (.putfield 29) 3 62 := ⟨by decide +kernel, rfl⟩
theorem o_init_62 : InsA md_init 62 (.aload_n 0) 1 63 := ⟨by decide +kernel, rfl⟩
theorem o_init_63 : InsA md_init 63 (.bipush 16) 2 65 := ⟨by decide +kernel, rfl⟩
theorem o_init_65 : InsA md_init 65 (.newarray .int) 2 67 := ⟨by decide +kernel, rfl⟩
theorem o_init_67 : InsA md_init 67 (.putfield 32) 3 70 := ⟨by decide +kernel, rfl⟩
theorem o_init_70 : InsA md_init 70 (.aload_n 0) 1 71 := ⟨by decide +kernel, rfl⟩
theorem o_init_71 : InsA md_init 71 (.bipush 16) 2 73 := ⟨by decide +kernel, rfl⟩
theorem o_init_73 : InsA md_init 73 (.newarray .boolean) 2 75 := ⟨by decide +kernel, rfl⟩
theorem o_init_75 : InsA md_init 75 (.putfield 35) 3 78 := ⟨by decide +kernel, rfl⟩
theorem o_init_78 : InsA md_init 78 (.aload_n 0) 1 79 := ⟨by decide +kernel, rfl⟩
theorem o_init_79 : InsA md_init 79 (.bipush 16) 2 81 := ⟨by decide +kernel, rfl⟩
theorem o_init_81 : InsA md_init 81 (.newarray .boolean) 2 83 := ⟨by decide +kernel, rfl⟩
theorem o_init_83 : InsA md_init 83 (.putfield 38) 3 86 := ⟨by decide +kernel, rfl⟩
theorem o_init_86 : InsA md_init 86 (.aload_n 0) 1 87 := ⟨by decide +kernel, rfl⟩
theorem o_init_87 : InsA md_init 87 (.aload_n 0) 1 88 := ⟨by decide +kernel, rfl⟩
theorem o_init_88 : InsA md_init 88 (.iload_n 1) 1 89 := ⟨by decide +kernel, rfl⟩
theorem o_init_89 : InsA md_init 89 (.iconst 2) 1 90 := ⟨by decide +kernel, rfl⟩
theorem o_init_90 : InsA md_init 90 (.bipush 16) 2 92 := ⟨by decide +kernel, rfl⟩
theorem o_init_92 : InsA md_init 92 (.invokevirtual 41) 3 95 := ⟨by decide +kernel, rfl⟩
theorem o_init_95 : InsA md_init 95 (.putfield 45) 3 98 := ⟨by decide +kernel, rfl⟩
theorem o_init_98 : InsA md_init 98 (.aload_n 0) 1 99 := ⟨by decide +kernel, rfl⟩
theorem o_init_99 : InsA md_init 99 (.aload_n 0) 1 100 := ⟨by decide +kernel, rfl⟩
theorem o_init_100 : InsA md_init 100 (.iload_n 2) 1 101 := ⟨by decide +kernel, rfl⟩
theorem o_init_101 : InsA md_init 101 (.iconst 1) 1 102 := ⟨by decide +kernel, rfl⟩
theorem o_init_102 : InsA md_init 102 (.bipush 32) 2 104 := ⟨by decide +kernel, rfl⟩
theorem o_init_104 : InsA md_init 104 (.invokevirtual 41) 3 107 := ⟨by decide +kernel, rfl⟩
theorem o_init_107 : InsA md_init 107 (.putfield 49) 3 110 := ⟨by decide +kernel, rfl⟩
theorem o_init_110 : InsA md_init 110 (.aload_n 0) 1 111 := ⟨by decide +kernel, rfl⟩
theorem o_init_111 : InsA md_init 111 (.aload_n 0) 1 112 := ⟨by decide +kernel, rfl⟩
theorem o_init_112 : InsA md_init 112 (.iload_n 3) 1 113 := ⟨by decide +kernel, rfl⟩
theorem o_init_113 : InsA md_init 113 (.iconst 1) 1 114 := ⟨by decide +kernel, rfl⟩
theorem o_init_114 : InsA md_init 114 (.bipush 64) 2 116 := ⟨by decide +kernel, rfl⟩
theorem o_init_116 : InsA md_init 116 (.invokevirtual 41) 3 119 := ⟨by decide +kernel, rfl⟩
theorem o_init_119 : InsA md_init 119 (.putfield 52) 3 122 := ⟨by decide +kernel, rfl⟩
theorem o_init_122 : InsA md_init 122 (.aload_n 0) 1 123 := ⟨by decide +kernel, rfl⟩
theorem o_init_123 : InsA md_init 123 (.iconst 0) 1 124 := ⟨by decide +kernel, rfl⟩
theorem o_init_124 : InsA md_init 124 (.putfield 55) 3 127 := ⟨by decide +kernel, rfl⟩
theorem o_init_127 : InsA md_init 127 (.aload_n 0) 1 128 := ⟨by decide +kernel, rfl⟩
theorem o_init_128 : InsA md_init 128 (.iconst 0) 1 129 := ⟨by decide +kernel, rfl⟩
theorem o_init_129 : InsA md_init 129 (.putfield 58) 3 132 := ⟨by decide +kernel, rfl⟩
theorem o_init_132 : InsA md_init 132 (.aload_n 0) 1 133 := ⟨by decide +kernel, rfl⟩
theorem o_init_133 : InsA md_init 133 (.iconst 0) 1 134 := ⟨by decide +kernel, rfl⟩
theorem o_init_134 : InsA md_init 134 (.putfield 61) 3 137 := ⟨by decide +kernel, rfl⟩
theorem o_init_137 : InsA md_init 137 (.aload_n 0) 1 138 := ⟨by decide +kernel, rfl⟩
theorem o_init_138 : InsA md_init 138 (.iconst 1) 1 139 := ⟨by decide +kernel, rfl⟩
theorem o_init_139 : InsA md_init 139 (.putfield 64) 3 142 := ⟨by decide +kernel, rfl⟩
theorem o_init_142 : InsA md_init 142 (.aload_n 0) 1 143 := ⟨by decide +kernel, rfl⟩
theorem o_init_143 : InsA md_init 143 (.iconst 4) 1 144 := ⟨by decide +kernel, rfl⟩
theorem o_init_144 : InsA md_init 144 (.putfield 68) 3 147 := ⟨by decide +kernel, rfl⟩
theorem o_init_147 : InsA md_init 147 (.aload_n 0) 1 148 := ⟨by decide +kernel, rfl⟩
theorem o_init_148 : InsA md_init 148 (.iconst 0) 1 149 := ⟨by decide +kernel, rfl⟩
theorem o_init_149 : InsA md_init 149 (.putfield 71) 3 152 := ⟨by decide +kernel, rfl⟩
theorem o_init_152 : InsA md_init 152 (.aload_n 0) 1 153 := ⟨by decide +kernel, rfl⟩
theorem o_init_153 : InsA md_init 153 (.iconst 0) 1 154 := ⟨by decide +kernel, rfl⟩
theorem o_init_154 : InsA md_init 154 (.putfield 74) 3 157 := ⟨by decide +kernel, rfl⟩
theorem o_init_157 : InsA md_init 157 (.aload_n 0) 1 158 := ⟨by decide +kernel, rfl⟩
theorem o_init_158 : InsA md_init 158 (.iconst (-1)) 1 159 := ⟨by decide +kernel, rfl⟩
theorem o_init_159 : InsA md_init 159 (.putfield 77) 3 162 := ⟨by decide +kernel, rfl⟩
theorem o_init_162 : InsA md_init 162 (.return_) 1 163 := ⟨by decide +kernel, rfl⟩
abbrev md_clamp : MD := (⟨"RecursiveCte", "clamp", "(III)I"⟩, prog_1_method_2_code, 4, some .int, { frames := 0, cells := 0, slots := 0, locals := 0 }, 0)
theorem cv_clamp {Z : State} {a0 : Array Value} (H : OK Z a0) : CalV Z a0 md_clamp 3 := ⟨pn_RecursiveCte, by decide, pd__III_I, H.w 32 rfl, H.w 34 rfl, H.w 2 rfl, Or.inr ⟨H.w 33 rfl, 21, H.w 1 rfl⟩⟩
theorem o_clamp_0 : InsA md_clamp 0 (.iload_n 1) 1 1 := ⟨by decide +kernel, rfl⟩
theorem o_clamp_1 : InsA md_clamp 1 (.iload_n 2) 1 2 := ⟨by decide +kernel, rfl⟩
theorem o_clamp_2 : InsB md_clamp 2 (.if_icmp .ge 5) 3 5 (5) 7 := ⟨by decide +kernel, rfl, by decide, by decide⟩
theorem o_clamp_5 : InsA md_clamp 5 (.iload_n 2) 1 6 := ⟨by decide +kernel, rfl⟩
theorem o_clamp_6 : InsA md_clamp 6 (.ireturn) 1 7 := ⟨by decide +kernel, rfl⟩
theorem o_clamp_7 : InsA md_clamp 7 (.iload_n 1) 1 8 := ⟨by decide +kernel, rfl⟩
theorem o_clamp_8 : InsA md_clamp 8 (.iload_n 3) 1 9 := ⟨by decide +kernel, rfl⟩
theorem o_clamp_9 : InsB md_clamp 9 (.if_icmp .le 5) 3 12 (5) 14 := ⟨by decide +kernel, rfl, by decide, by decide⟩
theorem o_clamp_12 : InsA md_clamp 12 (.iload_n 3) 1 13 := ⟨by decide +kernel, rfl⟩
theorem o_clamp_13 : InsA md_clamp 13 (.ireturn) 1 14 := ⟨by decide +kernel, rfl⟩
theorem o_clamp_14 : InsA md_clamp 14 (.iload_n 1) 1 15 := ⟨by decide +kernel, rfl⟩
theorem o_clamp_15 : InsA md_clamp 15 (.ireturn) 1 16 := ⟨by decide +kernel, rfl⟩
abbrev md_addEdge : MD := (⟨"RecursiveCte", "addEdge", "(II)I"⟩, prog_1_method_5_code, 3, some .int, { frames := 1, cells := 0, slots := 0, locals := 13 }, 0)
theorem cv_addEdge {Z : State} {a0 : Array Value} (H : OK Z a0) : CalV Z a0 md_addEdge 2 := ⟨pn_RecursiveCte, by decide, pd__II_I, H.w 59 rfl, H.w 61 rfl, H.w 2 rfl, Or.inl ⟨H.w 58 rfl, H.w 60 rfl⟩⟩
theorem o_addEdge_0 : InsA md_addEdge 0 (.aload_n 0) 1 1 := ⟨by decide +kernel, rfl⟩
theorem o_addEdge_1 : InsA md_addEdge 1 (.iload_n 1) 1 2 := ⟨by decide +kernel, rfl⟩
theorem o_addEdge_2 : InsA md_addEdge 2 (.invokevirtual 80) 3 5 := ⟨by decide +kernel, rfl⟩
theorem o_addEdge_5 : InsB md_addEdge 5 (.ifCond .ne 5) 3 8 (5) 10 := ⟨by decide +kernel, rfl, by decide, by decide⟩
theorem o_addEdge_8 : InsA md_addEdge 8 (.iconst (-1)) 1 9 := ⟨by decide +kernel, rfl⟩
theorem o_addEdge_9 : InsA md_addEdge 9 (.ireturn) 1 10 := ⟨by decide +kernel, rfl⟩
theorem o_addEdge_10 : InsA md_addEdge 10 (.aload_n 0) 1 11 := ⟨by decide +kernel, rfl⟩
theorem o_addEdge_11 : InsA md_addEdge 11 (.iload_n 2) 1 12 := ⟨by decide +kernel, rfl⟩
theorem o_addEdge_12 : InsA md_addEdge 12 (.invokevirtual 80) 3 15 := ⟨by decide +kernel, rfl⟩
theorem o_addEdge_15 : InsB md_addEdge 15 (.ifCond .ne 5) 3 18 (5) 20 := ⟨by decide +kernel, rfl, by decide, by decide⟩
theorem o_addEdge_18 : InsA md_addEdge 18 (.iconst (-1)) 1 19 := ⟨by decide +kernel, rfl⟩
theorem o_addEdge_19 : InsA md_addEdge 19 (.ireturn) 1 20 := ⟨by decide +kernel, rfl⟩
theorem o_addEdge_20 : InsA md_addEdge 20 (.aload_n 0) 1 21 := ⟨by decide +kernel, rfl⟩
theorem o_addEdge_21 : InsA md_addEdge 21 (.getfield 7) 3 24 := ⟨by decide +kernel, rfl⟩
theorem o_addEdge_24 : InsA md_addEdge 24 (.iload_n 1) 1 25 := ⟨by decide +kernel, rfl⟩
theorem o_addEdge_25 : InsA md_addEdge 25 (.bipush 16) 2 27 := ⟨by decide +kernel, rfl⟩
theorem o_addEdge_27 : InsA md_addEdge 27 (.imul) 1 28 := ⟨by decide +kernel, rfl⟩
theorem o_addEdge_28 : InsA md_addEdge 28 (.iload_n 2) 1 29 := ⟨by decide +kernel, rfl⟩
theorem o_addEdge_29 : InsA md_addEdge 29 (.iadd) 1 30 := ⟨by decide +kernel, rfl⟩
theorem o_addEdge_30 : InsA md_addEdge 30 (.baload) 1 31 := ⟨by decide +kernel, rfl⟩
theorem o_addEdge_31 : InsB md_addEdge 31 (.ifCond .eq 6) 3 34 (6) 37 := ⟨by decide +kernel, rfl, by decide, by decide⟩
theorem o_addEdge_34 : InsA md_addEdge 34 (.bipush (-2)) 2 36 := ⟨by decide +kernel, rfl⟩
theorem o_addEdge_36 : InsA md_addEdge 36 (.ireturn) 1 37 := ⟨by decide +kernel, rfl⟩
theorem o_addEdge_37 : InsA md_addEdge 37 (.aload_n 0) 1 38 := ⟨by decide +kernel, rfl⟩
theorem o_addEdge_38 : InsA md_addEdge 38 (.getfield 55) 3 41 := ⟨by decide +kernel, rfl⟩
theorem o_addEdge_41 : InsA md_addEdge 41 (.aload_n 0) 1 42 := ⟨by decide +kernel, rfl⟩
theorem o_addEdge_42 : InsA md_addEdge 42 (.getfield 49) 3 45 := ⟨by decide +kernel, rfl⟩
theorem o_addEdge_45 : InsB md_addEdge 45 (.if_icmp .lt 6) 3 48 (6) 51 := ⟨by decide +kernel, rfl, by decide, by decide⟩
theorem o_addEdge_48 : InsA md_addEdge 48 (.bipush (-4)) 2 50 := ⟨by decide +kernel, rfl⟩
theorem o_addEdge_50 : InsA md_addEdge 50 (.ireturn) 1 51 := ⟨by decide +kernel, rfl⟩
theorem o_addEdge_51 : InsA md_addEdge 51 (.aload_n 0) 1 52 := ⟨by decide +kernel, rfl⟩
theorem o_addEdge_52 : InsA md_addEdge 52 (.getfield 7) 3 55 := ⟨by decide +kernel, rfl⟩
theorem o_addEdge_55 : InsA md_addEdge 55 (.iload_n 1) 1 56 := ⟨by decide +kernel, rfl⟩
theorem o_addEdge_56 : InsA md_addEdge 56 (.bipush 16) 2 58 := ⟨by decide +kernel, rfl⟩
theorem o_addEdge_58 : InsA md_addEdge 58 (.imul) 1 59 := ⟨by decide +kernel, rfl⟩
theorem o_addEdge_59 : InsA md_addEdge 59 (.iload_n 2) 1 60 := ⟨by decide +kernel, rfl⟩
theorem o_addEdge_60 : InsA md_addEdge 60 (.iadd) 1 61 := ⟨by decide +kernel, rfl⟩
theorem o_addEdge_61 : InsA md_addEdge 61 (.iconst 1) 1 62 := ⟨by decide +kernel, rfl⟩
theorem o_addEdge_62 : InsA md_addEdge 62 (.bastore) 1 63 := ⟨by decide +kernel, rfl⟩
theorem o_addEdge_63 : InsA md_addEdge 63 (.aload_n 0) 1 64 := ⟨by decide +kernel, rfl⟩
theorem o_addEdge_64 : InsA md_addEdge 64 (.dup) 1 65 := ⟨by decide +kernel, rfl⟩
theorem o_addEdge_65 : InsA md_addEdge 65 (.getfield 55) 3 68 := ⟨by decide +kernel, rfl⟩
theorem o_addEdge_68 : InsA md_addEdge 68 (.iconst 1) 1 69 := ⟨by decide +kernel, rfl⟩
theorem o_addEdge_69 : InsA md_addEdge 69 (.iadd) 1 70 := ⟨by decide +kernel, rfl⟩
theorem o_addEdge_70 : InsA md_addEdge 70 (.putfield 55) 3 73 := ⟨by decide +kernel, rfl⟩
theorem o_addEdge_73 : InsA md_addEdge 73 (.aload_n 0) 1 74 := ⟨by decide +kernel, rfl⟩
theorem o_addEdge_74 : InsA md_addEdge 74 (.invokevirtual 84) 3 77 := ⟨by decide +kernel, rfl⟩
theorem o_addEdge_77 : InsA md_addEdge 77 (.iconst 0) 1 78 := ⟨by decide +kernel, rfl⟩
theorem o_addEdge_78 : InsA md_addEdge 78 (.ireturn) 1 79 := ⟨by decide +kernel, rfl⟩
abbrev md_inRange : MD := (⟨"RecursiveCte", "inRange", "(I)Z"⟩, prog_1_method_3_code, 2, some .boolean, { frames := 0, cells := 0, slots := 0, locals := 0 }, 0)
theorem cv_inRange {Z : State} {a0 : Array Value} (H : OK Z a0) : CalV Z a0 md_inRange 1 := ⟨pn_RecursiveCte, by decide, pd__I_Z, H.w 63 rfl, H.w 65 rfl, H.w 2 rfl, Or.inr ⟨H.w 64 rfl, 21, H.w 1 rfl⟩⟩
theorem o_inRange_0 : InsA md_inRange 0 (.iload_n 1) 1 1 := ⟨by decide +kernel, rfl⟩
theorem o_inRange_1 : InsB md_inRange 1 (.ifCond .lt 15) 3 4 (15) 16 := ⟨by decide +kernel, rfl, by decide, by decide⟩
theorem o_inRange_4 : InsA md_inRange 4 (.iload_n 1) 1 5 := ⟨by decide +kernel, rfl⟩
theorem o_inRange_5 : InsA md_inRange 5 (.aload_n 0) 1 6 := ⟨by decide +kernel, rfl⟩
theorem o_inRange_6 : InsA md_inRange 6 (.getfield 45) 3 9 := ⟨by decide +kernel, rfl⟩
theorem o_inRange_9 : InsB md_inRange 9 (.if_icmp .ge 7) 3 12 (7) 16 := ⟨by decide +kernel, rfl, by decide, by decide⟩
theorem o_inRange_12 : InsA md_inRange 12 (.iconst 1) 1 13 := ⟨by decide +kernel, rfl⟩
theorem o_inRange_13 : InsB md_inRange 13 (.goto 4) 3 16 (4) 17 := ⟨by decide +kernel, rfl, by decide, by decide⟩
theorem o_inRange_16 : InsA md_inRange 16 (.iconst 0) 1 17 := ⟨by decide +kernel, rfl⟩
theorem o_inRange_17 : InsA md_inRange 17 (.ireturn) 1 18 := ⟨by decide +kernel, rfl⟩
abbrev md_clearResult : MD := (⟨"RecursiveCte", "clearResult", "()V"⟩, prog_1_method_4_code, 1, none, { frames := 0, cells := 0, slots := 0, locals := 0 }, 0)
theorem cv_clearResult {Z : State} {a0 : Array Value} (H : OK Z a0) : CalV Z a0 md_clearResult 0 := ⟨pn_RecursiveCte, by decide, pd___V, H.w 67 rfl, H.w 69 rfl, H.w 2 rfl, Or.inr ⟨H.w 68 rfl, 21, H.w 1 rfl⟩⟩
theorem o_clearResult_0 : InsA md_clearResult 0 (.aload_n 0) 1 1 := ⟨by decide +kernel, rfl⟩
theorem o_clearResult_1 : InsA md_clearResult 1 (.iconst 0) 1 2 := ⟨by decide +kernel, rfl⟩
theorem o_clearResult_2 : InsA md_clearResult 2 (.putfield 71) 3 5 := ⟨by decide +kernel, rfl⟩
theorem o_clearResult_5 : InsA md_clearResult 5 (.aload_n 0) 1 6 := ⟨by decide +kernel, rfl⟩
theorem o_clearResult_6 : InsA md_clearResult 6 (.iconst 0) 1 7 := ⟨by decide +kernel, rfl⟩
theorem o_clearResult_7 : InsA md_clearResult 7 (.putfield 74) 3 10 := ⟨by decide +kernel, rfl⟩
theorem o_clearResult_10 : InsA md_clearResult 10 (.return_) 1 11 := ⟨by decide +kernel, rfl⟩
abbrev md_addSeed : MD := (⟨"RecursiveCte", "addSeed", "(I)I"⟩, prog_1_method_7_code, 2, some .int, { frames := 1, cells := 0, slots := 0, locals := 13 }, 0)
theorem cv_addSeed {Z : State} {a0 : Array Value} (H : OK Z a0) : CalV Z a0 md_addSeed 1 := ⟨pn_RecursiveCte, by decide, pd__I_I, H.w 72 rfl, H.w 74 rfl, H.w 2 rfl, Or.inl ⟨H.w 71 rfl, H.w 73 rfl⟩⟩
theorem o_addSeed_0 : InsA md_addSeed 0 (.aload_n 0) 1 1 := ⟨by decide +kernel, rfl⟩
theorem o_addSeed_1 : InsA md_addSeed 1 (.iload_n 1) 1 2 := ⟨by decide +kernel, rfl⟩
theorem o_addSeed_2 : InsA md_addSeed 2 (.invokevirtual 80) 3 5 := ⟨by decide +kernel, rfl⟩
theorem o_addSeed_5 : InsB md_addSeed 5 (.ifCond .ne 5) 3 8 (5) 10 := ⟨by decide +kernel, rfl, by decide, by decide⟩
theorem o_addSeed_8 : InsA md_addSeed 8 (.iconst (-1)) 1 9 := ⟨by decide +kernel, rfl⟩
theorem o_addSeed_9 : InsA md_addSeed 9 (.ireturn) 1 10 := ⟨by decide +kernel, rfl⟩
theorem o_addSeed_10 : InsA md_addSeed 10 (.aload_n 0) 1 11 := ⟨by decide +kernel, rfl⟩
theorem o_addSeed_11 : InsA md_addSeed 11 (.getfield 13) 3 14 := ⟨by decide +kernel, rfl⟩
theorem o_addSeed_14 : InsA md_addSeed 14 (.iload_n 1) 1 15 := ⟨by decide +kernel, rfl⟩
theorem o_addSeed_15 : InsA md_addSeed 15 (.baload) 1 16 := ⟨by decide +kernel, rfl⟩
theorem o_addSeed_16 : InsB md_addSeed 16 (.ifCond .eq 6) 3 19 (6) 22 := ⟨by decide +kernel, rfl, by decide, by decide⟩
theorem o_addSeed_19 : InsA md_addSeed 19 (.bipush (-2)) 2 21 := ⟨by decide +kernel, rfl⟩
theorem o_addSeed_21 : InsA md_addSeed 21 (.ireturn) 1 22 := ⟨by decide +kernel, rfl⟩
theorem o_addSeed_22 : InsA md_addSeed 22 (.aload_n 0) 1 23 := ⟨by decide +kernel, rfl⟩
theorem o_addSeed_23 : InsA md_addSeed 23 (.getfield 13) 3 26 := ⟨by decide +kernel, rfl⟩
theorem o_addSeed_26 : InsA md_addSeed 26 (.iload_n 1) 1 27 := ⟨by decide +kernel, rfl⟩
theorem o_addSeed_27 : InsA md_addSeed 27 (.iconst 1) 1 28 := ⟨by decide +kernel, rfl⟩
theorem o_addSeed_28 : InsA md_addSeed 28 (.bastore) 1 29 := ⟨by decide +kernel, rfl⟩
theorem o_addSeed_29 : InsA md_addSeed 29 (.aload_n 0) 1 30 := ⟨by decide +kernel, rfl⟩
theorem o_addSeed_30 : InsA md_addSeed 30 (.invokevirtual 84) 3 33 := ⟨by decide +kernel, rfl⟩
theorem o_addSeed_33 : InsA md_addSeed 33 (.iconst 0) 1 34 := ⟨by decide +kernel, rfl⟩
theorem o_addSeed_34 : InsA md_addSeed 34 (.ireturn) 1 35 := ⟨by decide +kernel, rfl⟩
abbrev md_run : MD := (⟨"RecursiveCte", "run", "()I"⟩, prog_1_method_10_code, 2, some .int, { frames := 3, cells := 0, slots := 0, locals := 46 }, 0)
theorem cv_run {Z : State} {a0 : Array Value} (H : OK Z a0) : CalV Z a0 md_run 0 := ⟨pn_RecursiveCte, by decide, pd___I, H.w 77 rfl, H.w 79 rfl, H.w 2 rfl, Or.inl ⟨H.w 76 rfl, H.w 78 rfl⟩⟩
theorem o_run_0 : InsA md_run 0 (.aload_n 0) 1 1 := ⟨by decide +kernel, rfl⟩
theorem o_run_1 : InsA md_run 1 (.iconst 0) 1 2 := ⟨by decide +kernel, rfl⟩
theorem o_run_2 : InsA md_run 2 (.putfield 74) 3 5 := ⟨by decide +kernel, rfl⟩
theorem o_run_5 : InsA md_run 5 (.aload_n 0) 1 6 := ⟨by decide +kernel, rfl⟩
theorem o_run_6 : InsA md_run 6 (.getfield 58) 3 9 := ⟨by decide +kernel, rfl⟩
theorem o_run_9 : InsB md_run 9 (.ifCond .ne 27) 3 12 (27) 36 := ⟨by decide +kernel, rfl, by decide, by decide⟩
theorem o_run_12 : InsA md_run 12 (.aload_n 0) 1 13 := ⟨by decide +kernel, rfl⟩
theorem o_run_13 : InsA md_run 13 (.getfield 61) 3 16 := ⟨by decide +kernel, rfl⟩
theorem o_run_16 : InsB md_run 16 (.ifCond .ne 11) 3 19 (11) 27 := ⟨by decide +kernel, rfl, by decide, by decide⟩
theorem o_run_19 : InsA md_run 19 (.aload_n 0) 1 20 := ⟨by decide +kernel, rfl⟩
theorem o_run_20 : InsA md_run 20 (.invokevirtual 87) 3 23 := ⟨by decide +kernel, rfl⟩
theorem o_run_23 : InsA md_run 23 (.istore_n 1) 1 24 := ⟨by decide +kernel, rfl⟩
theorem o_run_24 : InsB md_run 24 (.goto 33) 3 27 (33) 57 := ⟨by decide +kernel, rfl, by decide, by decide⟩
theorem o_run_27 : InsA md_run 27 (.aload_n 0) 1 28 := ⟨by decide +kernel, rfl⟩
theorem o_run_28 : InsA md_run 28 (.iconst 0) 1 29 := ⟨by decide +kernel, rfl⟩
theorem o_run_29 : InsA md_run 29 (.invokevirtual 91) 3 32 := ⟨by decide +kernel, rfl⟩
theorem o_run_36 : InsA md_run 36 (.aload_n 0) 1 37 := ⟨by decide +kernel, rfl⟩
theorem o_run_37 : InsA md_run 37 (.iconst 1) 1 38 := ⟨by decide +kernel, rfl⟩
theorem o_run_38 : InsA md_run 38 (.invokevirtual 91) 3 41 := ⟨by decide +kernel, rfl⟩
theorem o_run_57 : InsA md_run 57 (.iload_n 1) 1 58 := ⟨by decide +kernel, rfl⟩
theorem o_run_58 : InsB md_run 58 (.ifCond .ne 16) 3 61 (16) 74 := ⟨by decide +kernel, rfl, by decide, by decide⟩
theorem o_run_61 : InsA md_run 61 (.aload_n 0) 1 62 := ⟨by decide +kernel, rfl⟩
theorem o_run_62 : InsA md_run 62 (.iconst 0) 1 63 := ⟨by decide +kernel, rfl⟩
theorem o_run_63 : InsA md_run 63 (.putfield 74) 3 66 := ⟨by decide +kernel, rfl⟩
theorem o_run_66 : InsA md_run 66 (.aload_n 0) 1 67 := ⟨by decide +kernel, rfl⟩
theorem o_run_67 : InsA md_run 67 (.iconst 2) 1 68 := ⟨by decide +kernel, rfl⟩
theorem o_run_68 : InsA md_run 68 (.putfield 71) 3 71 := ⟨by decide +kernel, rfl⟩
theorem o_run_71 : InsA md_run 71 (.bipush (-6)) 2 73 := ⟨by decide +kernel, rfl⟩
theorem o_run_73 : InsA md_run 73 (.ireturn) 1 74 := ⟨by decide +kernel, rfl⟩
theorem o_run_74 : InsA md_run 74 (.aload_n 0) 1 75 := ⟨by decide +kernel, rfl⟩
theorem o_run_75 : InsA md_run 75 (.iconst 1) 1 76 := ⟨by decide +kernel, rfl⟩
theorem o_run_76 : InsA md_run 76 (.putfield 71) 3 79 := ⟨by decide +kernel, rfl⟩
theorem o_run_79 : InsA md_run 79 (.aload_n 0) 1 80 := ⟨by decide +kernel, rfl⟩
theorem o_run_80 : InsA md_run 80 (.getfield 74) 3 83 := ⟨by decide +kernel, rfl⟩
theorem o_run_83 : InsA md_run 83 (.ireturn) 1 84 := ⟨by decide +kernel, rfl⟩
abbrev md_runDepthFirstAll : MD := (⟨"RecursiveCte", "runDepthFirstAll", "()Z"⟩, prog_1_method_11_code, 2, some .boolean, { frames := 2, cells := 0, slots := 0, locals := 33 }, 0)
theorem cv_runDepthFirstAll {Z : State} {a0 : Array Value} (H : OK Z a0) : CalV Z a0 md_runDepthFirstAll 0 := ⟨pn_RecursiveCte, by decide, pd___Z, H.w 81 rfl, H.w 83 rfl, H.w 2 rfl, Or.inr ⟨H.w 82 rfl, 21, H.w 1 rfl⟩⟩
theorem o_runDepthFirstAll_0 : InsA md_runDepthFirstAll 0 (.iconst 0) 1 1 := ⟨by decide +kernel, rfl⟩
theorem o_runDepthFirstAll_1 : InsA md_runDepthFirstAll 1 (.istore_n 1) 1 2 := ⟨by decide +kernel, rfl⟩
theorem o_runDepthFirstAll_2 : InsA md_runDepthFirstAll 2 (.iload_n 1) 1 3 := ⟨by decide +kernel, rfl⟩
theorem o_runDepthFirstAll_3 : InsA md_runDepthFirstAll 3 (.aload_n 0) 1 4 := ⟨by decide +kernel, rfl⟩
theorem o_runDepthFirstAll_4 : InsA md_runDepthFirstAll 4 (.getfield 45) 3 7 := ⟨by decide +kernel, rfl⟩
theorem o_runDepthFirstAll_7 : InsB md_runDepthFirstAll 7 (.if_icmp .ge 34) 3 10 (34) 41 := ⟨by decide +kernel, rfl, by decide, by decide⟩
theorem o_runDepthFirstAll_10 : InsA md_runDepthFirstAll 10 (.iload_n 1) 1 11 := ⟨by decide +kernel, rfl⟩
theorem o_runDepthFirstAll_11 : InsA md_runDepthFirstAll 11 (.bipush 16) 2 13 := ⟨by decide +kernel, rfl⟩
theorem o_runDepthFirstAll_13 : InsB md_runDepthFirstAll 13 (.if_icmp .ge 28) 3 16 (28) 41 := ⟨by decide +kernel, rfl, by decide, by decide⟩
theorem o_runDepthFirstAll_16 : InsA md_runDepthFirstAll 16 (.aload_n 0) 1 17 := ⟨by decide +kernel, rfl⟩
theorem o_runDepthFirstAll_17 : InsA md_runDepthFirstAll 17 (.getfield 13) 3 20 := ⟨by decide +kernel, rfl⟩
theorem o_runDepthFirstAll_20 : InsA md_runDepthFirstAll 20 (.iload_n 1) 1 21 := ⟨by decide +kernel, rfl⟩
theorem o_runDepthFirstAll_21 : InsA md_runDepthFirstAll 21 (.baload) 1 22 := ⟨by decide +kernel, rfl⟩
theorem o_runDepthFirstAll_22 : InsB md_runDepthFirstAll 22 (.ifCond .eq 13) 3 25 (13) 35 := ⟨by decide +kernel, rfl, by decide, by decide⟩
theorem o_runDepthFirstAll_25 : InsA md_runDepthFirstAll 25 (.aload_n 0) 1 26 := ⟨by decide +kernel, rfl⟩
theorem o_runDepthFirstAll_26 : InsA md_runDepthFirstAll 26 (.iload_n 1) 1 27 := ⟨by decide +kernel, rfl⟩
theorem o_runDepthFirstAll_27 : InsA md_runDepthFirstAll 27 (.invokevirtual 98) 3 30 := ⟨by decide +kernel, rfl⟩
theorem o_runDepthFirstAll_30 : InsB md_runDepthFirstAll 30 (.ifCond .ne 5) 3 33 (5) 35 := ⟨by decide +kernel, rfl, by decide, by decide⟩
theorem o_runDepthFirstAll_33 : InsA md_runDepthFirstAll 33 (.iconst 0) 1 34 := ⟨by decide +kernel, rfl⟩
theorem o_runDepthFirstAll_34 : InsA md_runDepthFirstAll 34 (.ireturn) 1 35 := ⟨by decide +kernel, rfl⟩
theorem o_runDepthFirstAll_35 : InsA md_runDepthFirstAll 35 (.iinc 1 1) 3 38 := ⟨by decide +kernel, rfl⟩
theorem o_runDepthFirstAll_38 : InsB md_runDepthFirstAll 38 (.goto (-36)) 3 41 (-36) 2 := ⟨by decide +kernel, rfl, by decide, by decide⟩
theorem o_runDepthFirstAll_41 : InsA md_runDepthFirstAll 41 (.iconst 1) 1 42 := ⟨by decide +kernel, rfl⟩
theorem o_runDepthFirstAll_42 : InsA md_runDepthFirstAll 42 (.ireturn) 1 43 := ⟨by decide +kernel, rfl⟩
abbrev md_walkFrom : MD := (⟨"RecursiveCte", "walkFrom", "(I)Z"⟩, prog_1_method_12_code, 6, some .boolean, { frames := 1, cells := 0, slots := 0, locals := 16 }, 0)
theorem cv_walkFrom {Z : State} {a0 : Array Value} (H : OK Z a0) : CalV Z a0 md_walkFrom 1 := ⟨pn_RecursiveCte, by decide, pd__I_Z, H.w 85 rfl, H.w 87 rfl, H.w 2 rfl, Or.inr ⟨H.w 86 rfl, 21, H.w 1 rfl⟩⟩
theorem o_walkFrom_0 : InsA md_walkFrom 0 (.aload_n 0) 1 1 := ⟨by decide +kernel, rfl⟩
theorem o_walkFrom_1 : InsA md_walkFrom 1 (.iconst 0) 1 2 := ⟨by decide +kernel, rfl⟩
theorem o_walkFrom_2 : InsA md_walkFrom 2 (.putfield 77) 3 5 := ⟨by decide +kernel, rfl⟩
theorem o_walkFrom_5 : InsA md_walkFrom 5 (.aload_n 0) 1 6 := ⟨by decide +kernel, rfl⟩
theorem o_walkFrom_6 : InsA md_walkFrom 6 (.getfield 29) 3 9 := ⟨by decide +kernel, rfl⟩
theorem o_walkFrom_9 : InsA md_walkFrom 9 (.iconst 0) 1 10 := ⟨by decide +kernel, rfl⟩
theorem o_walkFrom_10 : InsA md_walkFrom 10 (.iload_n 1) 1 11 := ⟨by decide +kernel, rfl⟩
theorem o_walkFrom_11 : InsA md_walkFrom 11 (.iastore) 1 12 := ⟨by decide +kernel, rfl⟩
theorem o_walkFrom_12 : InsA md_walkFrom 12 (.aload_n 0) 1 13 := ⟨by decide +kernel, rfl⟩
theorem o_walkFrom_13 : InsA md_walkFrom 13 (.getfield 32) 3 16 := ⟨by decide +kernel, rfl⟩
theorem o_walkFrom_16 : InsA md_walkFrom 16 (.iconst 0) 1 17 := ⟨by decide +kernel, rfl⟩
theorem o_walkFrom_17 : InsA md_walkFrom 17 (.iconst 0) 1 18 := ⟨by decide +kernel, rfl⟩
theorem o_walkFrom_18 : InsA md_walkFrom 18 (.iastore) 1 19 := ⟨by decide +kernel, rfl⟩
theorem o_walkFrom_19 : InsA md_walkFrom 19 (.aload_n 0) 1 20 := ⟨by decide +kernel, rfl⟩
theorem o_walkFrom_20 : InsA md_walkFrom 20 (.getfield 35) 3 23 := ⟨by decide +kernel, rfl⟩
theorem o_walkFrom_23 : InsA md_walkFrom 23 (.iconst 0) 1 24 := ⟨by decide +kernel, rfl⟩
theorem o_walkFrom_24 : InsA md_walkFrom 24 (.iconst 0) 1 25 := ⟨by decide +kernel, rfl⟩
theorem o_walkFrom_25 : InsA md_walkFrom 25 (.bastore) 1 26 := ⟨by decide +kernel, rfl⟩
theorem o_walkFrom_26 : InsA md_walkFrom 26 (.aload_n 0) 1 27 := ⟨by decide +kernel, rfl⟩
theorem o_walkFrom_27 : InsA md_walkFrom 27 (.invokevirtual 101) 3 30 := ⟨by decide +kernel, rfl⟩
theorem o_walkFrom_30 : InsB md_walkFrom 30 (.ifCond .ne 5) 3 33 (5) 35 := ⟨by decide +kernel, rfl, by decide, by decide⟩
theorem o_walkFrom_33 : InsA md_walkFrom 33 (.iconst 0) 1 34 := ⟨by decide +kernel, rfl⟩
theorem o_walkFrom_34 : InsA md_walkFrom 34 (.ireturn) 1 35 := ⟨by decide +kernel, rfl⟩
theorem o_walkFrom_35 : InsA md_walkFrom 35 (.iconst 0) 1 36 := ⟨by decide +kernel, rfl⟩
theorem o_walkFrom_36 : InsA md_walkFrom 36 (.istore_n 2) 1 37 := ⟨by decide +kernel, rfl⟩
theorem o_walkFrom_37 : InsA md_walkFrom 37 (.iload_n 2) 1 38 := ⟨by decide +kernel, rfl⟩
theorem o_walkFrom_38 : InsA md_walkFrom 38 (.sipush 400) 3 41 := ⟨by decide +kernel, rfl⟩
theorem o_walkFrom_41 : InsB md_walkFrom 41 (.if_icmp .ge 162) 3 44 (162) 203 := ⟨by decide +kernel, rfl, by decide, by decide⟩
theorem o_walkFrom_44 : InsA md_walkFrom 44 (.aload_n 0) 1 45 := ⟨by decide +kernel, rfl⟩
theorem o_walkFrom_45 : InsA md_walkFrom 45 (.getfield 77) 3 48 := ⟨by decide +kernel, rfl⟩
theorem o_walkFrom_48 : InsB md_walkFrom 48 (.ifCond .lt 155) 3 51 (155) 203 := ⟨by decide +kernel, rfl, by decide, by decide⟩
theorem o_walkFrom_51 : InsA md_walkFrom 51 (.aload_n 0) 1 52 := ⟨by decide +kernel, rfl⟩
theorem o_walkFrom_52 : InsA md_walkFrom 52 (.getfield 77) 3 55 := ⟨by decide +kernel, rfl⟩
theorem o_walkFrom_55 : InsA md_walkFrom 55 (.istore_n 3) 1 56 := ⟨by decide +kernel, rfl⟩
theorem o_walkFrom_56 : InsA md_walkFrom 56 (.iconst (-1)) 1 57 := ⟨by decide +kernel, rfl⟩
theorem o_walkFrom_57 : InsA md_walkFrom 57 (.istore 4) 2 59 := ⟨by decide +kernel, rfl⟩
theorem o_walkFrom_59 : InsA md_walkFrom 59 (.iload_n 3) 1 60 := ⟨by decide +kernel, rfl⟩
theorem o_walkFrom_60 : InsA md_walkFrom 60 (.aload_n 0) 1 61 := ⟨by decide +kernel, rfl⟩
theorem o_walkFrom_61 : InsA md_walkFrom 61 (.getfield 68) 3 64 := ⟨by decide +kernel, rfl⟩
theorem o_walkFrom_64 : InsB md_walkFrom 64 (.if_icmp .ge 36) 3 67 (36) 100 := ⟨by decide +kernel, rfl, by decide, by decide⟩
theorem o_walkFrom_67 : InsA md_walkFrom 67 (.iload_n 3) 1 68 := ⟨by decide +kernel, rfl⟩
theorem o_walkFrom_68 : InsA md_walkFrom 68 (.bipush 15) 2 70 := ⟨by decide +kernel, rfl⟩
theorem o_walkFrom_70 : InsB md_walkFrom 70 (.if_icmp .ge 30) 3 73 (30) 100 := ⟨by decide +kernel, rfl, by decide, by decide⟩
theorem o_walkFrom_73 : InsA md_walkFrom 73 (.aload_n 0) 1 74 := ⟨by decide +kernel, rfl⟩
theorem o_walkFrom_74 : InsA md_walkFrom 74 (.getfield 35) 3 77 := ⟨by decide +kernel, rfl⟩
theorem o_walkFrom_77 : InsA md_walkFrom 77 (.iload_n 3) 1 78 := ⟨by decide +kernel, rfl⟩
theorem o_walkFrom_78 : InsA md_walkFrom 78 (.baload) 1 79 := ⟨by decide +kernel, rfl⟩
theorem o_walkFrom_79 : InsB md_walkFrom 79 (.ifCond .ne 21) 3 82 (21) 100 := ⟨by decide +kernel, rfl, by decide, by decide⟩
theorem o_walkFrom_82 : InsA md_walkFrom 82 (.aload_n 0) 1 83 := ⟨by decide +kernel, rfl⟩
theorem o_walkFrom_83 : InsA md_walkFrom 83 (.aload_n 0) 1 84 := ⟨by decide +kernel, rfl⟩
theorem o_walkFrom_84 : InsA md_walkFrom 84 (.getfield 29) 3 87 := ⟨by decide +kernel, rfl⟩
theorem o_walkFrom_87 : InsA md_walkFrom 87 (.iload_n 3) 1 88 := ⟨by decide +kernel, rfl⟩
theorem o_walkFrom_88 : InsA md_walkFrom 88 (.iaload) 1 89 := ⟨by decide +kernel, rfl⟩
theorem o_walkFrom_89 : InsA md_walkFrom 89 (.aload_n 0) 1 90 := ⟨by decide +kernel, rfl⟩
theorem o_walkFrom_90 : InsA md_walkFrom 90 (.getfield 32) 3 93 := ⟨by decide +kernel, rfl⟩
theorem o_walkFrom_93 : InsA md_walkFrom 93 (.iload_n 3) 1 94 := ⟨by decide +kernel, rfl⟩
theorem o_walkFrom_94 : InsA md_walkFrom 94 (.iaload) 1 95 := ⟨by decide +kernel, rfl⟩
theorem o_walkFrom_95 : InsA md_walkFrom 95 (.invokevirtual 104) 3 98 := ⟨by decide +kernel, rfl⟩
theorem o_walkFrom_98 : InsA md_walkFrom 98 (.istore 4) 2 100 := ⟨by decide +kernel, rfl⟩
theorem o_walkFrom_100 : InsA md_walkFrom 100 (.iload 4) 2 102 := ⟨by decide +kernel, rfl⟩
theorem o_walkFrom_102 : InsB md_walkFrom 102 (.ifCond .ge 16) 3 105 (16) 118 := ⟨by decide +kernel, rfl, by decide, by decide⟩
theorem o_walkFrom_105 : InsA md_walkFrom 105 (.aload_n 0) 1 106 := ⟨by decide +kernel, rfl⟩
theorem o_walkFrom_106 : InsA md_walkFrom 106 (.dup) 1 107 := ⟨by decide +kernel, rfl⟩
theorem o_walkFrom_107 : InsA md_walkFrom 107 (.getfield 77) 3 110 := ⟨by decide +kernel, rfl⟩
theorem o_walkFrom_110 : InsA md_walkFrom 110 (.iconst 1) 1 111 := ⟨by decide +kernel, rfl⟩
theorem o_walkFrom_111 : InsA md_walkFrom 111 (.isub) 1 112 := ⟨by decide +kernel, rfl⟩
theorem o_walkFrom_112 : InsA md_walkFrom 112 (.putfield 77) 3 115 := ⟨by decide +kernel, rfl⟩
theorem o_walkFrom_115 : InsB md_walkFrom 115 (.goto 82) 3 118 (82) 197 := ⟨by decide +kernel, rfl, by decide, by decide⟩
theorem o_walkFrom_118 : InsA md_walkFrom 118 (.aload_n 0) 1 119 := ⟨by decide +kernel, rfl⟩
theorem o_walkFrom_119 : InsA md_walkFrom 119 (.getfield 32) 3 122 := ⟨by decide +kernel, rfl⟩
theorem o_walkFrom_122 : InsA md_walkFrom 122 (.iload_n 3) 1 123 := ⟨by decide +kernel, rfl⟩
theorem o_walkFrom_123 : InsA md_walkFrom 123 (.iload 4) 2 125 := ⟨by decide +kernel, rfl⟩
theorem o_walkFrom_125 : InsA md_walkFrom 125 (.iconst 1) 1 126 := ⟨by decide +kernel, rfl⟩
theorem o_walkFrom_126 : InsA md_walkFrom 126 (.iadd) 1 127 := ⟨by decide +kernel, rfl⟩
theorem o_walkFrom_127 : InsA md_walkFrom 127 (.iastore) 1 128 := ⟨by decide +kernel, rfl⟩
theorem o_walkFrom_128 : InsA md_walkFrom 128 (.aload_n 0) 1 129 := ⟨by decide +kernel, rfl⟩
theorem o_walkFrom_129 : InsA md_walkFrom 129 (.getfield 64) 3 132 := ⟨by decide +kernel, rfl⟩
theorem o_walkFrom_132 : InsB md_walkFrom 132 (.ifCond .eq 17) 3 135 (17) 149 := ⟨by decide +kernel, rfl, by decide, by decide⟩
theorem o_walkFrom_135 : InsA md_walkFrom 135 (.aload_n 0) 1 136 := ⟨by decide +kernel, rfl⟩
theorem o_walkFrom_136 : InsA md_walkFrom 136 (.iload 4) 2 138 := ⟨by decide +kernel, rfl⟩
theorem o_walkFrom_138 : InsA md_walkFrom 138 (.iload_n 3) 1 139 := ⟨by decide +kernel, rfl⟩
theorem o_walkFrom_139 : InsA md_walkFrom 139 (.invokevirtual 108) 3 142 := ⟨by decide +kernel, rfl⟩
theorem o_walkFrom_142 : InsB md_walkFrom 142 (.ifCond .eq 7) 3 145 (7) 149 := ⟨by decide +kernel, rfl, by decide, by decide⟩
theorem o_walkFrom_145 : InsA md_walkFrom 145 (.iconst 1) 1 146 := ⟨by decide +kernel, rfl⟩
theorem o_walkFrom_146 : InsB md_walkFrom 146 (.goto 4) 3 149 (4) 150 := ⟨by decide +kernel, rfl, by decide, by decide⟩
theorem o_walkFrom_149 : InsA md_walkFrom 149 (.iconst 0) 1 150 := ⟨by decide +kernel, rfl⟩
theorem o_walkFrom_150 : InsA md_walkFrom 150 (.istore 5) 2 152 := ⟨by decide +kernel, rfl⟩
theorem o_walkFrom_152 : InsA md_walkFrom 152 (.aload_n 0) 1 153 := ⟨by decide +kernel, rfl⟩
theorem o_walkFrom_153 : InsA md_walkFrom 153 (.getfield 29) 3 156 := ⟨by decide +kernel, rfl⟩
theorem o_walkFrom_156 : InsA md_walkFrom 156 (.iload_n 3) 1 157 := ⟨by decide +kernel, rfl⟩
theorem o_walkFrom_157 : InsA md_walkFrom 157 (.iconst 1) 1 158 := ⟨by decide +kernel, rfl⟩
theorem o_walkFrom_158 : InsA md_walkFrom 158 (.iadd) 1 159 := ⟨by decide +kernel, rfl⟩
theorem o_walkFrom_159 : InsA md_walkFrom 159 (.iload 4) 2 161 := ⟨by decide +kernel, rfl⟩
theorem o_walkFrom_161 : InsA md_walkFrom 161 (.iastore) 1 162 := ⟨by decide +kernel, rfl⟩
theorem o_walkFrom_162 : InsA md_walkFrom 162 (.aload_n 0) 1 163 := ⟨by decide +kernel, rfl⟩
theorem o_walkFrom_163 : InsA md_walkFrom 163 (.getfield 32) 3 166 := ⟨by decide +kernel, rfl⟩
theorem o_walkFrom_166 : InsA md_walkFrom 166 (.iload_n 3) 1 167 := ⟨by decide +kernel, rfl⟩
theorem o_walkFrom_167 : InsA md_walkFrom 167 (.iconst 1) 1 168 := ⟨by decide +kernel, rfl⟩
theorem o_walkFrom_168 : InsA md_walkFrom 168 (.iadd) 1 169 := ⟨by decide +kernel, rfl⟩
theorem o_walkFrom_169 : InsA md_walkFrom 169 (.iconst 0) 1 170 := ⟨by decide +kernel, rfl⟩
theorem o_walkFrom_170 : InsA md_walkFrom 170 (.iastore) 1 171 := ⟨by decide +kernel, rfl⟩
theorem o_walkFrom_171 : InsA md_walkFrom 171 (.aload_n 0) 1 172 := ⟨by decide +kernel, rfl⟩
theorem o_walkFrom_172 : InsA md_walkFrom 172 (.getfield 35) 3 175 := ⟨by decide +kernel, rfl⟩
theorem o_walkFrom_175 : InsA md_walkFrom 175 (.iload_n 3) 1 176 := ⟨by decide +kernel, rfl⟩
theorem o_walkFrom_176 : InsA md_walkFrom 176 (.iconst 1) 1 177 := ⟨by decide +kernel, rfl⟩
theorem o_walkFrom_177 : InsA md_walkFrom 177 (.iadd) 1 178 := ⟨by decide +kernel, rfl⟩
theorem o_walkFrom_178 : InsA md_walkFrom 178 (.iload 5) 2 180 := ⟨by decide +kernel, rfl⟩
theorem o_walkFrom_180 : InsA md_walkFrom 180 (.bastore) 1 181 := ⟨by decide +kernel, rfl⟩
theorem o_walkFrom_181 : InsA md_walkFrom 181 (.aload_n 0) 1 182 := ⟨by decide +kernel, rfl⟩
theorem o_walkFrom_182 : InsA md_walkFrom 182 (.iload_n 3) 1 183 := ⟨by decide +kernel, rfl⟩
theorem o_walkFrom_183 : InsA md_walkFrom 183 (.iconst 1) 1 184 := ⟨by decide +kernel, rfl⟩
theorem o_walkFrom_184 : InsA md_walkFrom 184 (.iadd) 1 185 := ⟨by decide +kernel, rfl⟩
theorem o_walkFrom_185 : InsA md_walkFrom 185 (.putfield 77) 3 188 := ⟨by decide +kernel, rfl⟩
theorem o_walkFrom_188 : InsA md_walkFrom 188 (.aload_n 0) 1 189 := ⟨by decide +kernel, rfl⟩
theorem o_walkFrom_189 : InsA md_walkFrom 189 (.invokevirtual 101) 3 192 := ⟨by decide +kernel, rfl⟩
theorem o_walkFrom_192 : InsB md_walkFrom 192 (.ifCond .ne 5) 3 195 (5) 197 := ⟨by decide +kernel, rfl, by decide, by decide⟩
theorem o_walkFrom_195 : InsA md_walkFrom 195 (.iconst 0) 1 196 := ⟨by decide +kernel, rfl⟩
theorem o_walkFrom_196 : InsA md_walkFrom 196 (.ireturn) 1 197 := ⟨by decide +kernel, rfl⟩
theorem o_walkFrom_197 : InsA md_walkFrom 197 (.iinc 2 1) 3 200 := ⟨by decide +kernel, rfl⟩
theorem o_walkFrom_200 : InsB md_walkFrom 200 (.goto (-163)) 3 203 (-163) 37 := ⟨by decide +kernel, rfl, by decide, by decide⟩
theorem o_walkFrom_203 : InsA md_walkFrom 203 (.iconst 1) 1 204 := ⟨by decide +kernel, rfl⟩
theorem o_walkFrom_204 : InsA md_walkFrom 204 (.ireturn) 1 205 := ⟨by decide +kernel, rfl⟩
abbrev md_emitStack : MD := (⟨"RecursiveCte", "emitStack", "()Z"⟩, prog_1_method_15_code, 3, some .boolean, { frames := 0, cells := 0, slots := 0, locals := 0 }, 0)
theorem cv_emitStack {Z : State} {a0 : Array Value} (H : OK Z a0) : CalV Z a0 md_emitStack 0 := ⟨pn_RecursiveCte, by decide, pd___Z, H.w 89 rfl, H.w 91 rfl, H.w 2 rfl, Or.inr ⟨H.w 90 rfl, 21, H.w 1 rfl⟩⟩
theorem o_emitStack_0 : InsA md_emitStack 0 (.aload_n 0) 1 1 := ⟨by decide +kernel, rfl⟩
theorem o_emitStack_1 : InsA md_emitStack 1 (.getfield 74) 3 4 := ⟨by decide +kernel, rfl⟩
theorem o_emitStack_4 : InsA md_emitStack 4 (.aload_n 0) 1 5 := ⟨by decide +kernel, rfl⟩
theorem o_emitStack_5 : InsA md_emitStack 5 (.getfield 52) 3 8 := ⟨by decide +kernel, rfl⟩
theorem o_emitStack_8 : InsB md_emitStack 8 (.if_icmp .ge 12) 3 11 (12) 20 := ⟨by decide +kernel, rfl, by decide, by decide⟩
theorem o_emitStack_11 : InsA md_emitStack 11 (.aload_n 0) 1 12 := ⟨by decide +kernel, rfl⟩
theorem o_emitStack_12 : InsA md_emitStack 12 (.getfield 74) 3 15 := ⟨by decide +kernel, rfl⟩
theorem o_emitStack_15 : InsA md_emitStack 15 (.bipush 64) 2 17 := ⟨by decide +kernel, rfl⟩
theorem o_emitStack_17 : InsB md_emitStack 17 (.if_icmp .lt 5) 3 20 (5) 22 := ⟨by decide +kernel, rfl, by decide, by decide⟩
theorem o_emitStack_20 : InsA md_emitStack 20 (.iconst 0) 1 21 := ⟨by decide +kernel, rfl⟩
theorem o_emitStack_21 : InsA md_emitStack 21 (.ireturn) 1 22 := ⟨by decide +kernel, rfl⟩
theorem o_emitStack_22 : InsA md_emitStack 22 (.aload_n 0) 1 23 := ⟨by decide +kernel, rfl⟩
theorem o_emitStack_23 : InsA md_emitStack 23 (.getfield 74) 3 26 := ⟨by decide +kernel, rfl⟩
theorem o_emitStack_26 : InsA md_emitStack 26 (.bipush 16) 2 28 := ⟨by decide +kernel, rfl⟩
theorem o_emitStack_28 : InsA md_emitStack 28 (.imul) 1 29 := ⟨by decide +kernel, rfl⟩
theorem o_emitStack_29 : InsA md_emitStack 29 (.istore_n 1) 1 30 := ⟨by decide +kernel, rfl⟩
theorem o_emitStack_30 : InsA md_emitStack 30 (.iconst 0) 1 31 := ⟨by decide +kernel, rfl⟩
theorem o_emitStack_31 : InsA md_emitStack 31 (.istore_n 2) 1 32 := ⟨by decide +kernel, rfl⟩
theorem o_emitStack_32 : InsA md_emitStack 32 (.iload_n 2) 1 33 := ⟨by decide +kernel, rfl⟩
theorem o_emitStack_33 : InsA md_emitStack 33 (.aload_n 0) 1 34 := ⟨by decide +kernel, rfl⟩
theorem o_emitStack_34 : InsA md_emitStack 34 (.getfield 77) 3 37 := ⟨by decide +kernel, rfl⟩
theorem o_emitStack_37 : InsB md_emitStack 37 (.if_icmp .gt 29) 3 40 (29) 66 := ⟨by decide +kernel, rfl, by decide, by decide⟩
theorem o_emitStack_40 : InsA md_emitStack 40 (.iload_n 2) 1 41 := ⟨by decide +kernel, rfl⟩
theorem o_emitStack_41 : InsA md_emitStack 41 (.bipush 16) 2 43 := ⟨by decide +kernel, rfl⟩
theorem o_emitStack_43 : InsB md_emitStack 43 (.if_icmp .ge 23) 3 46 (23) 66 := ⟨by decide +kernel, rfl, by decide, by decide⟩
theorem o_emitStack_46 : InsA md_emitStack 46 (.aload_n 0) 1 47 := ⟨by decide +kernel, rfl⟩
theorem o_emitStack_47 : InsA md_emitStack 47 (.getfield 26) 3 50 := ⟨by decide +kernel, rfl⟩
theorem o_emitStack_50 : InsA md_emitStack 50 (.iload_n 1) 1 51 := ⟨by decide +kernel, rfl⟩
theorem o_emitStack_51 : InsA md_emitStack 51 (.iload_n 2) 1 52 := ⟨by decide +kernel, rfl⟩
theorem o_emitStack_52 : InsA md_emitStack 52 (.iadd) 1 53 := ⟨by decide +kernel, rfl⟩
theorem o_emitStack_53 : InsA md_emitStack 53 (.aload_n 0) 1 54 := ⟨by decide +kernel, rfl⟩
theorem o_emitStack_54 : InsA md_emitStack 54 (.getfield 29) 3 57 := ⟨by decide +kernel, rfl⟩
theorem o_emitStack_57 : InsA md_emitStack 57 (.iload_n 2) 1 58 := ⟨by decide +kernel, rfl⟩
theorem o_emitStack_58 : InsA md_emitStack 58 (.iaload) 1 59 := ⟨by decide +kernel, rfl⟩
theorem o_emitStack_59 : InsA md_emitStack 59 (.iastore) 1 60 := ⟨by decide +kernel, rfl⟩
theorem o_emitStack_60 : InsA md_emitStack 60 (.iinc 2 1) 3 63 := ⟨by decide +kernel, rfl⟩
theorem o_emitStack_63 : InsB md_emitStack 63 (.goto (-31)) 3 66 (-31) 32 := ⟨by decide +kernel, rfl, by decide, by decide⟩
theorem o_emitStack_66 : InsA md_emitStack 66 (.aload_n 0) 1 67 := ⟨by decide +kernel, rfl⟩
theorem o_emitStack_67 : InsA md_emitStack 67 (.getfield 16) 3 70 := ⟨by decide +kernel, rfl⟩
theorem o_emitStack_70 : InsA md_emitStack 70 (.aload_n 0) 1 71 := ⟨by decide +kernel, rfl⟩
theorem o_emitStack_71 : InsA md_emitStack 71 (.getfield 74) 3 74 := ⟨by decide +kernel, rfl⟩
theorem o_emitStack_74 : InsA md_emitStack 74 (.aload_n 0) 1 75 := ⟨by decide +kernel, rfl⟩
theorem o_emitStack_75 : InsA md_emitStack 75 (.getfield 29) 3 78 := ⟨by decide +kernel, rfl⟩
theorem o_emitStack_78 : InsA md_emitStack 78 (.aload_n 0) 1 79 := ⟨by decide +kernel, rfl⟩
theorem o_emitStack_79 : InsA md_emitStack 79 (.getfield 77) 3 82 := ⟨by decide +kernel, rfl⟩
theorem o_emitStack_82 : InsA md_emitStack 82 (.iaload) 1 83 := ⟨by decide +kernel, rfl⟩
theorem o_emitStack_83 : InsA md_emitStack 83 (.iastore) 1 84 := ⟨by decide +kernel, rfl⟩
theorem o_emitStack_84 : InsA md_emitStack 84 (.aload_n 0) 1 85 := ⟨by decide +kernel, rfl⟩
theorem o_emitStack_85 : InsA md_emitStack 85 (.getfield 20) 3 88 := ⟨by decide +kernel, rfl⟩
theorem o_emitStack_88 : InsA md_emitStack 88 (.aload_n 0) 1 89 := ⟨by decide +kernel, rfl⟩
theorem o_emitStack_89 : InsA md_emitStack 89 (.getfield 74) 3 92 := ⟨by decide +kernel, rfl⟩
theorem o_emitStack_92 : InsA md_emitStack 92 (.aload_n 0) 1 93 := ⟨by decide +kernel, rfl⟩
theorem o_emitStack_93 : InsA md_emitStack 93 (.getfield 77) 3 96 := ⟨by decide +kernel, rfl⟩
theorem o_emitStack_96 : InsA md_emitStack 96 (.iastore) 1 97 := ⟨by decide +kernel, rfl⟩
theorem o_emitStack_97 : InsA md_emitStack 97 (.aload_n 0) 1 98 := ⟨by decide +kernel, rfl⟩
theorem o_emitStack_98 : InsA md_emitStack 98 (.getfield 23) 3 101 := ⟨by decide +kernel, rfl⟩
theorem o_emitStack_101 : InsA md_emitStack 101 (.aload_n 0) 1 102 := ⟨by decide +kernel, rfl⟩
theorem o_emitStack_102 : InsA md_emitStack 102 (.getfield 74) 3 105 := ⟨by decide +kernel, rfl⟩
theorem o_emitStack_105 : InsA md_emitStack 105 (.aload_n 0) 1 106 := ⟨by decide +kernel, rfl⟩
theorem o_emitStack_106 : InsA md_emitStack 106 (.getfield 35) 3 109 := ⟨by decide +kernel, rfl⟩
theorem o_emitStack_109 : InsA md_emitStack 109 (.aload_n 0) 1 110 := ⟨by decide +kernel, rfl⟩
theorem o_emitStack_110 : InsA md_emitStack 110 (.getfield 77) 3 113 := ⟨by decide +kernel, rfl⟩
theorem o_emitStack_113 : InsA md_emitStack 113 (.baload) 1 114 := ⟨by decide +kernel, rfl⟩
theorem o_emitStack_114 : InsA md_emitStack 114 (.bastore) 1 115 := ⟨by decide +kernel, rfl⟩
theorem o_emitStack_115 : InsA md_emitStack 115 (.aload_n 0) 1 116 := ⟨by decide +kernel, rfl⟩
theorem o_emitStack_116 : InsA md_emitStack 116 (.dup) 1 117 := ⟨by decide +kernel, rfl⟩
theorem o_emitStack_117 : InsA md_emitStack 117 (.getfield 74) 3 120 := ⟨by decide +kernel, rfl⟩
theorem o_emitStack_120 : InsA md_emitStack 120 (.iconst 1) 1 121 := ⟨by decide +kernel, rfl⟩
theorem o_emitStack_121 : InsA md_emitStack 121 (.iadd) 1 122 := ⟨by decide +kernel, rfl⟩
theorem o_emitStack_122 : InsA md_emitStack 122 (.putfield 74) 3 125 := ⟨by decide +kernel, rfl⟩
theorem o_emitStack_125 : InsA md_emitStack 125 (.iconst 1) 1 126 := ⟨by decide +kernel, rfl⟩
theorem o_emitStack_126 : InsA md_emitStack 126 (.ireturn) 1 127 := ⟨by decide +kernel, rfl⟩
abbrev md_nextTarget : MD := (⟨"RecursiveCte", "nextTarget", "(II)I"⟩, prog_1_method_13_code, 5, some .int, { frames := 0, cells := 0, slots := 0, locals := 0 }, 0)
theorem cv_nextTarget {Z : State} {a0 : Array Value} (H : OK Z a0) : CalV Z a0 md_nextTarget 2 := ⟨pn_RecursiveCte, by decide, pd__II_I, H.w 93 rfl, H.w 95 rfl, H.w 2 rfl, Or.inr ⟨H.w 94 rfl, 21, H.w 1 rfl⟩⟩
theorem o_nextTarget_0 : InsA md_nextTarget 0 (.iload_n 2) 1 1 := ⟨by decide +kernel, rfl⟩
theorem o_nextTarget_1 : InsB md_nextTarget 1 (.ifCond .ge 7) 3 4 (7) 8 := ⟨by decide +kernel, rfl, by decide, by decide⟩
theorem o_nextTarget_4 : InsA md_nextTarget 4 (.iconst 0) 1 5 := ⟨by decide +kernel, rfl⟩
theorem o_nextTarget_5 : InsB md_nextTarget 5 (.goto 4) 3 8 (4) 9 := ⟨by decide +kernel, rfl, by decide, by decide⟩
theorem o_nextTarget_8 : InsA md_nextTarget 8 (.iload_n 2) 1 9 := ⟨by decide +kernel, rfl⟩
theorem o_nextTarget_9 : InsA md_nextTarget 9 (.istore_n 3) 1 10 := ⟨by decide +kernel, rfl⟩
theorem o_nextTarget_10 : InsA md_nextTarget 10 (.iload_n 3) 1 11 := ⟨by decide +kernel, rfl⟩
theorem o_nextTarget_11 : InsA md_nextTarget 11 (.istore 4) 2 13 := ⟨by decide +kernel, rfl⟩
theorem o_nextTarget_13 : InsA md_nextTarget 13 (.iload 4) 2 15 := ⟨by decide +kernel, rfl⟩
theorem o_nextTarget_15 : InsA md_nextTarget 15 (.aload_n 0) 1 16 := ⟨by decide +kernel, rfl⟩
theorem o_nextTarget_16 : InsA md_nextTarget 16 (.getfield 45) 3 19 := ⟨by decide +kernel, rfl⟩
theorem o_nextTarget_19 : InsB md_nextTarget 19 (.if_icmp .ge 34) 3 22 (34) 53 := ⟨by decide +kernel, rfl, by decide, by decide⟩
theorem o_nextTarget_22 : InsA md_nextTarget 22 (.iload 4) 2 24 := ⟨by decide +kernel, rfl⟩
theorem o_nextTarget_24 : InsA md_nextTarget 24 (.bipush 16) 2 26 := ⟨by decide +kernel, rfl⟩
theorem o_nextTarget_26 : InsB md_nextTarget 26 (.if_icmp .ge 27) 3 29 (27) 53 := ⟨by decide +kernel, rfl, by decide, by decide⟩
theorem o_nextTarget_29 : InsA md_nextTarget 29 (.aload_n 0) 1 30 := ⟨by decide +kernel, rfl⟩
theorem o_nextTarget_30 : InsA md_nextTarget 30 (.getfield 7) 3 33 := ⟨by decide +kernel, rfl⟩
theorem o_nextTarget_33 : InsA md_nextTarget 33 (.iload_n 1) 1 34 := ⟨by decide +kernel, rfl⟩
theorem o_nextTarget_34 : InsA md_nextTarget 34 (.bipush 16) 2 36 := ⟨by decide +kernel, rfl⟩
theorem o_nextTarget_36 : InsA md_nextTarget 36 (.imul) 1 37 := ⟨by decide +kernel, rfl⟩
theorem o_nextTarget_37 : InsA md_nextTarget 37 (.iload 4) 2 39 := ⟨by decide +kernel, rfl⟩
theorem o_nextTarget_39 : InsA md_nextTarget 39 (.iadd) 1 40 := ⟨by decide +kernel, rfl⟩
theorem o_nextTarget_40 : InsA md_nextTarget 40 (.baload) 1 41 := ⟨by decide +kernel, rfl⟩
theorem o_nextTarget_41 : InsB md_nextTarget 41 (.ifCond .eq 6) 3 44 (6) 47 := ⟨by decide +kernel, rfl, by decide, by decide⟩
theorem o_nextTarget_44 : InsA md_nextTarget 44 (.iload 4) 2 46 := ⟨by decide +kernel, rfl⟩
theorem o_nextTarget_46 : InsA md_nextTarget 46 (.ireturn) 1 47 := ⟨by decide +kernel, rfl⟩
theorem o_nextTarget_47 : InsA md_nextTarget 47 (.iinc 4 1) 3 50 := ⟨by decide +kernel, rfl⟩
theorem o_nextTarget_50 : InsB md_nextTarget 50 (.goto (-37)) 3 53 (-37) 13 := ⟨by decide +kernel, rfl, by decide, by decide⟩
theorem o_nextTarget_53 : InsA md_nextTarget 53 (.iconst (-1)) 1 54 := ⟨by decide +kernel, rfl⟩
theorem o_nextTarget_54 : InsA md_nextTarget 54 (.ireturn) 1 55 := ⟨by decide +kernel, rfl⟩
abbrev md_onStack : MD := (⟨"RecursiveCte", "onStack", "(II)Z"⟩, prog_1_method_14_code, 4, some .boolean, { frames := 0, cells := 0, slots := 0, locals := 0 }, 0)
theorem cv_onStack {Z : State} {a0 : Array Value} (H : OK Z a0) : CalV Z a0 md_onStack 2 := ⟨pn_RecursiveCte, by decide, pd__II_Z, H.w 97 rfl, H.w 99 rfl, H.w 2 rfl, Or.inr ⟨H.w 98 rfl, 21, H.w 1 rfl⟩⟩
theorem o_onStack_0 : InsA md_onStack 0 (.iconst 0) 1 1 := ⟨by decide +kernel, rfl⟩
theorem o_onStack_1 : InsA md_onStack 1 (.istore_n 3) 1 2 := ⟨by decide +kernel, rfl⟩
theorem o_onStack_2 : InsA md_onStack 2 (.iload_n 3) 1 3 := ⟨by decide +kernel, rfl⟩
theorem o_onStack_3 : InsA md_onStack 3 (.iload_n 2) 1 4 := ⟨by decide +kernel, rfl⟩
theorem o_onStack_4 : InsB md_onStack 4 (.if_icmp .gt 27) 3 7 (27) 31 := ⟨by decide +kernel, rfl, by decide, by decide⟩
theorem o_onStack_7 : InsA md_onStack 7 (.iload_n 3) 1 8 := ⟨by decide +kernel, rfl⟩
theorem o_onStack_8 : InsA md_onStack 8 (.bipush 16) 2 10 := ⟨by decide +kernel, rfl⟩
theorem o_onStack_10 : InsB md_onStack 10 (.if_icmp .ge 21) 3 13 (21) 31 := ⟨by decide +kernel, rfl, by decide, by decide⟩
theorem o_onStack_13 : InsA md_onStack 13 (.aload_n 0) 1 14 := ⟨by decide +kernel, rfl⟩
theorem o_onStack_14 : InsA md_onStack 14 (.getfield 29) 3 17 := ⟨by decide +kernel, rfl⟩
theorem o_onStack_17 : InsA md_onStack 17 (.iload_n 3) 1 18 := ⟨by decide +kernel, rfl⟩
theorem o_onStack_18 : InsA md_onStack 18 (.iaload) 1 19 := ⟨by decide +kernel, rfl⟩
theorem o_onStack_19 : InsA md_onStack 19 (.iload_n 1) 1 20 := ⟨by decide +kernel, rfl⟩
theorem o_onStack_20 : InsB md_onStack 20 (.if_icmp .ne 5) 3 23 (5) 25 := ⟨by decide +kernel, rfl, by decide, by decide⟩
theorem o_onStack_23 : InsA md_onStack 23 (.iconst 1) 1 24 := ⟨by decide +kernel, rfl⟩
theorem o_onStack_24 : InsA md_onStack 24 (.ireturn) 1 25 := ⟨by decide +kernel, rfl⟩
theorem o_onStack_25 : InsA md_onStack 25 (.iinc 3 1) 3 28 := ⟨by decide +kernel, rfl⟩
theorem o_onStack_28 : InsB md_onStack 28 (.goto (-26)) 3 31 (-26) 2 := ⟨by decide +kernel, rfl, by decide, by decide⟩
theorem o_onStack_31 : InsA md_onStack 31 (.iconst 0) 1 32 := ⟨by decide +kernel, rfl⟩
theorem o_onStack_32 : InsA md_onStack 32 (.ireturn) 1 33 := ⟨by decide +kernel, rfl⟩
abbrev md_rowCount : MD := (⟨"RecursiveCte", "rowCount", "()I"⟩, prog_1_method_25_code, 1, some .int, { frames := 0, cells := 0, slots := 0, locals := 0 }, 0)
theorem cv_rowCount {Z : State} {a0 : Array Value} (H : OK Z a0) : CalV Z a0 md_rowCount 0 := ⟨pn_RecursiveCte, by decide, pd___I, H.w 102 rfl, H.w 104 rfl, H.w 2 rfl, Or.inl ⟨H.w 101 rfl, H.w 103 rfl⟩⟩
theorem o_rowCount_0 : InsA md_rowCount 0 (.aload_n 0) 1 1 := ⟨by decide +kernel, rfl⟩
theorem o_rowCount_1 : InsA md_rowCount 1 (.getfield 74) 3 4 := ⟨by decide +kernel, rfl⟩
theorem o_rowCount_4 : InsA md_rowCount 4 (.ireturn) 1 5 := ⟨by decide +kernel, rfl⟩
abbrev md_status : MD := (⟨"RecursiveCte", "status", "()I"⟩, prog_1_method_24_code, 1, some .int, { frames := 0, cells := 0, slots := 0, locals := 0 }, 0)
theorem cv_status {Z : State} {a0 : Array Value} (H : OK Z a0) : CalV Z a0 md_status 0 := ⟨pn_RecursiveCte, by decide, pd___I, H.w 107 rfl, H.w 109 rfl, H.w 2 rfl, Or.inl ⟨H.w 106 rfl, H.w 108 rfl⟩⟩
theorem o_status_0 : InsA md_status 0 (.aload_n 0) 1 1 := ⟨by decide +kernel, rfl⟩
theorem o_status_1 : InsA md_status 1 (.getfield 71) 3 4 := ⟨by decide +kernel, rfl⟩
theorem o_status_4 : InsA md_status 4 (.ireturn) 1 5 := ⟨by decide +kernel, rfl⟩
abbrev md_L_row : MD := (⟨"RecursiveCteL3", "row", "(LRecursiveCte;IIIIIZ)Z"⟩, method_3_code, 8, some .boolean, { frames := 2, cells := 0, slots := 0, locals := 27 }, 0)
theorem al_L_row (x0 : Nat) (x1 : Int32) (x2 : Int32) (x3 : Int32) (x4 : Int32) (x5 : Int32) (x6 : Int32) : (argsToLocals [.ref x0, .int x1, .int x2, .int x3, .int x4, .int x5, .int x6].toArray (mxOf md_L_row)).toList = [.val (.ref x0), .val (.int x1), .val (.int x2), .val (.int x3), .val (.int x4), .val (.int x5), .val (.int x6), .unset] := (Jvm.Sym.argsToLocals_toList _ _).trans rfl
theorem cv_L_row {Z : State} {a0 : Array Value} (H : OK Z a0) : CalS Z a0 md_L_row 7 := ⟨pn_RecursiveCteL3, by decide, pd__LRecursiveCte_IIIIIZ_Z, H.w 111 rfl, H.w 113 rfl, H.w 112 rfl⟩
theorem o_L_row_0 : InsA md_L_row 0 (.iload_n 2) 1 1 := ⟨by decide +kernel, rfl⟩
theorem o_L_row_1 : InsB md_L_row 1 (.ifCond .ne 7) 3 4 (7) 8 := ⟨by decide +kernel, rfl, by decide, by decide⟩
theorem o_L_row_4 : InsA md_L_row 4 (.iload_n 3) 1 5 := ⟨by decide +kernel, rfl⟩
theorem o_L_row_5 : InsB md_L_row 5 (.goto 15) 3 8 (15) 20 := ⟨by decide +kernel, rfl, by decide, by decide⟩
theorem o_L_row_8 : InsA md_L_row 8 (.iload_n 2) 1 9 := ⟨by decide +kernel, rfl⟩
theorem o_L_row_9 : InsA md_L_row 9 (.iconst 1) 1 10 := ⟨by decide +kernel, rfl⟩
theorem o_L_row_10 : InsB md_L_row 10 (.if_icmp .ne 8) 3 13 (8) 18 := ⟨by decide +kernel, rfl, by decide, by decide⟩
theorem o_L_row_13 : InsA md_L_row 13 (.iload 4) 2 15 := ⟨by decide +kernel, rfl⟩
theorem o_L_row_15 : InsB md_L_row 15 (.goto 5) 3 18 (5) 20 := ⟨by decide +kernel, rfl, by decide, by decide⟩
theorem o_L_row_18 : InsA md_L_row 18 (.iload 5) 2 20 := ⟨by decide +kernel, rfl⟩
theorem o_L_row_20 : InsA md_L_row 20 (.istore 7) 2 22 := ⟨by decide +kernel, rfl⟩
theorem o_L_row_22 : InsA md_L_row 22 (.aload_n 0) 1 23 := ⟨by decide +kernel, rfl⟩
theorem o_L_row_23 : InsA md_L_row 23 (.iload_n 1) 1 24 := ⟨by decide +kernel, rfl⟩
theorem o_L_row_24 : InsA md_L_row 24 (.invokevirtual 42) 3 27 := ⟨by decide +kernel, rfl⟩
theorem o_L_row_27 : InsA md_L_row 27 (.iload_n 2) 1 28 := ⟨by decide +kernel, rfl⟩
theorem o_L_row_28 : InsB md_L_row 28 (.if_icmp .eq 5) 3 31 (5) 33 := ⟨by decide +kernel, rfl, by decide, by decide⟩
theorem o_L_row_31 : InsA md_L_row 31 (.iconst 0) 1 32 := ⟨by decide +kernel, rfl⟩
theorem o_L_row_32 : InsA md_L_row 32 (.ireturn) 1 33 := ⟨by decide +kernel, rfl⟩
theorem o_L_row_33 : InsA md_L_row 33 (.aload_n 0) 1 34 := ⟨by decide +kernel, rfl⟩
theorem o_L_row_34 : InsA md_L_row 34 (.iload_n 1) 1 35 := ⟨by decide +kernel, rfl⟩
theorem o_L_row_35 : InsA md_L_row 35 (.invokevirtual 39) 3 38 := ⟨by decide +kernel, rfl⟩
theorem o_L_row_38 : InsA md_L_row 38 (.iload 7) 2 40 := ⟨by decide +kernel, rfl⟩
theorem o_L_row_40 : InsB md_L_row 40 (.if_icmp .eq 5) 3 43 (5) 45 := ⟨by decide +kernel, rfl, by decide, by decide⟩
theorem o_L_row_43 : InsA md_L_row 43 (.iconst 0) 1 44 := ⟨by decide +kernel, rfl⟩
theorem o_L_row_44 : InsA md_L_row 44 (.ireturn) 1 45 := ⟨by decide +kernel, rfl⟩
theorem o_L_row_45 : InsA md_L_row 45 (.aload_n 0) 1 46 := ⟨by decide +kernel, rfl⟩
theorem o_L_row_46 : InsA md_L_row 46 (.iload_n 1) 1 47 := ⟨by decide +kernel, rfl⟩
theorem o_L_row_47 : InsA md_L_row 47 (.invokevirtual 45) 3 50 := ⟨by decide +kernel, rfl⟩
theorem o_L_row_50 : InsA md_L_row 50 (.iload 6) 2 52 := ⟨by decide +kernel, rfl⟩
theorem o_L_row_52 : InsB md_L_row 52 (.if_icmp .eq 5) 3 55 (5) 57 := ⟨by decide +kernel, rfl, by decide, by decide⟩
theorem o_L_row_55 : InsA md_L_row 55 (.iconst 0) 1 56 := ⟨by decide +kernel, rfl⟩
theorem o_L_row_56 : InsA md_L_row 56 (.ireturn) 1 57 := ⟨by decide +kernel, rfl⟩
theorem o_L_row_57 : InsA md_L_row 57 (.aload_n 0) 1 58 := ⟨by decide +kernel, rfl⟩
theorem o_L_row_58 : InsA md_L_row 58 (.iload_n 1) 1 59 := ⟨by decide +kernel, rfl⟩
theorem o_L_row_59 : InsA md_L_row 59 (.iconst 0) 1 60 := ⟨by decide +kernel, rfl⟩
theorem o_L_row_60 : InsA md_L_row 60 (.invokevirtual 49) 3 63 := ⟨by decide +kernel, rfl⟩
theorem o_L_row_63 : InsA md_L_row 63 (.iload_n 3) 1 64 := ⟨by decide +kernel, rfl⟩
theorem o_L_row_64 : InsB md_L_row 64 (.if_icmp .eq 5) 3 67 (5) 69 := ⟨by decide +kernel, rfl, by decide, by decide⟩
theorem o_L_row_67 : InsA md_L_row 67 (.iconst 0) 1 68 := ⟨by decide +kernel, rfl⟩
theorem o_L_row_68 : InsA md_L_row 68 (.ireturn) 1 69 := ⟨by decide +kernel, rfl⟩
theorem o_L_row_69 : InsA md_L_row 69 (.iload_n 2) 1 70 := ⟨by decide +kernel, rfl⟩
theorem o_L_row_70 : InsA md_L_row 70 (.iconst 1) 1 71 := ⟨by decide +kernel, rfl⟩
theorem o_L_row_71 : InsB md_L_row 71 (.if_icmp .lt 16) 3 74 (16) 87 := ⟨by decide +kernel, rfl, by decide, by decide⟩
theorem o_L_row_74 : InsA md_L_row 74 (.aload_n 0) 1 75 := ⟨by decide +kernel, rfl⟩
theorem o_L_row_75 : InsA md_L_row 75 (.iload_n 1) 1 76 := ⟨by decide +kernel, rfl⟩
theorem o_L_row_76 : InsA md_L_row 76 (.iconst 1) 1 77 := ⟨by decide +kernel, rfl⟩
theorem o_L_row_77 : InsA md_L_row 77 (.invokevirtual 49) 3 80 := ⟨by decide +kernel, rfl⟩
theorem o_L_row_80 : InsA md_L_row 80 (.iload 4) 2 82 := ⟨by decide +kernel, rfl⟩
theorem o_L_row_82 : InsB md_L_row 82 (.if_icmp .eq 5) 3 85 (5) 87 := ⟨by decide +kernel, rfl, by decide, by decide⟩
theorem o_L_row_85 : InsA md_L_row 85 (.iconst 0) 1 86 := ⟨by decide +kernel, rfl⟩
theorem o_L_row_86 : InsA md_L_row 86 (.ireturn) 1 87 := ⟨by decide +kernel, rfl⟩
theorem o_L_row_87 : InsA md_L_row 87 (.iload_n 2) 1 88 := ⟨by decide +kernel, rfl⟩
theorem o_L_row_88 : InsA md_L_row 88 (.iconst 2) 1 89 := ⟨by decide +kernel, rfl⟩
theorem o_L_row_89 : InsB md_L_row 89 (.if_icmp .lt 16) 3 92 (16) 105 := ⟨by decide +kernel, rfl, by decide, by decide⟩
theorem o_L_row_92 : InsA md_L_row 92 (.aload_n 0) 1 93 := ⟨by decide +kernel, rfl⟩
theorem o_L_row_93 : InsA md_L_row 93 (.iload_n 1) 1 94 := ⟨by decide +kernel, rfl⟩
theorem o_L_row_94 : InsA md_L_row 94 (.iconst 2) 1 95 := ⟨by decide +kernel, rfl⟩
theorem o_L_row_95 : InsA md_L_row 95 (.invokevirtual 49) 3 98 := ⟨by decide +kernel, rfl⟩
theorem o_L_row_98 : InsA md_L_row 98 (.iload 5) 2 100 := ⟨by decide +kernel, rfl⟩
theorem o_L_row_100 : InsB md_L_row 100 (.if_icmp .eq 5) 3 103 (5) 105 := ⟨by decide +kernel, rfl, by decide, by decide⟩
theorem o_L_row_103 : InsA md_L_row 103 (.iconst 0) 1 104 := ⟨by decide +kernel, rfl⟩
theorem o_L_row_104 : InsA md_L_row 104 (.ireturn) 1 105 := ⟨by decide +kernel, rfl⟩
theorem o_L_row_105 : InsA md_L_row 105 (.iconst 1) 1 106 := ⟨by decide +kernel, rfl⟩
theorem o_L_row_106 : InsA md_L_row 106 (.ireturn) 1 107 := ⟨by decide +kernel, rfl⟩
abbrev md_rowDepth : MD := (⟨"RecursiveCte", "rowDepth", "(I)I"⟩, prog_1_method_28_code, 2, some .int, { frames := 1, cells := 0, slots := 0, locals := 13 }, 0)
theorem cv_rowDepth {Z : State} {a0 : Array Value} (H : OK Z a0) : CalV Z a0 md_rowDepth 1 := ⟨pn_RecursiveCte, by decide, pd__I_I, H.w 116 rfl, H.w 118 rfl, H.w 2 rfl, Or.inl ⟨H.w 115 rfl, H.w 117 rfl⟩⟩
theorem o_rowDepth_0 : InsA md_rowDepth 0 (.aload_n 0) 1 1 := ⟨by decide +kernel, rfl⟩
theorem o_rowDepth_1 : InsA md_rowDepth 1 (.iload_n 1) 1 2 := ⟨by decide +kernel, rfl⟩
theorem o_rowDepth_2 : InsA md_rowDepth 2 (.invokevirtual 133) 3 5 := ⟨by decide +kernel, rfl⟩
theorem o_rowDepth_5 : InsB md_rowDepth 5 (.ifCond .ne 5) 3 8 (5) 10 := ⟨by decide +kernel, rfl, by decide, by decide⟩
theorem o_rowDepth_8 : InsA md_rowDepth 8 (.iconst (-1)) 1 9 := ⟨by decide +kernel, rfl⟩
theorem o_rowDepth_9 : InsA md_rowDepth 9 (.ireturn) 1 10 := ⟨by decide +kernel, rfl⟩
theorem o_rowDepth_10 : InsA md_rowDepth 10 (.aload_n 0) 1 11 := ⟨by decide +kernel, rfl⟩
theorem o_rowDepth_11 : InsA md_rowDepth 11 (.getfield 20) 3 14 := ⟨by decide +kernel, rfl⟩
theorem o_rowDepth_14 : InsA md_rowDepth 14 (.iload_n 1) 1 15 := ⟨by decide +kernel, rfl⟩
theorem o_rowDepth_15 : InsA md_rowDepth 15 (.iaload) 1 16 := ⟨by decide +kernel, rfl⟩
theorem o_rowDepth_16 : InsA md_rowDepth 16 (.ireturn) 1 17 := ⟨by decide +kernel, rfl⟩
abbrev md_validRow : MD := (⟨"RecursiveCte", "validRow", "(I)Z"⟩, prog_1_method_26_code, 2, some .boolean, { frames := 0, cells := 0, slots := 0, locals := 0 }, 0)
theorem cv_validRow {Z : State} {a0 : Array Value} (H : OK Z a0) : CalV Z a0 md_validRow 1 := ⟨pn_RecursiveCte, by decide, pd__I_Z, H.w 120 rfl, H.w 122 rfl, H.w 2 rfl, Or.inr ⟨H.w 121 rfl, 21, H.w 1 rfl⟩⟩
theorem o_validRow_0 : InsA md_validRow 0 (.iload_n 1) 1 1 := ⟨by decide +kernel, rfl⟩
theorem o_validRow_1 : InsB md_validRow 1 (.ifCond .lt 21) 3 4 (21) 22 := ⟨by decide +kernel, rfl, by decide, by decide⟩
theorem o_validRow_4 : InsA md_validRow 4 (.iload_n 1) 1 5 := ⟨by decide +kernel, rfl⟩
theorem o_validRow_5 : InsA md_validRow 5 (.aload_n 0) 1 6 := ⟨by decide +kernel, rfl⟩
theorem o_validRow_6 : InsA md_validRow 6 (.getfield 74) 3 9 := ⟨by decide +kernel, rfl⟩
theorem o_validRow_9 : InsB md_validRow 9 (.if_icmp .ge 13) 3 12 (13) 22 := ⟨by decide +kernel, rfl, by decide, by decide⟩
theorem o_validRow_12 : InsA md_validRow 12 (.iload_n 1) 1 13 := ⟨by decide +kernel, rfl⟩
theorem o_validRow_13 : InsA md_validRow 13 (.bipush 64) 2 15 := ⟨by decide +kernel, rfl⟩
theorem o_validRow_15 : InsB md_validRow 15 (.if_icmp .ge 7) 3 18 (7) 22 := ⟨by decide +kernel, rfl, by decide, by decide⟩
theorem o_validRow_18 : InsA md_validRow 18 (.iconst 1) 1 19 := ⟨by decide +kernel, rfl⟩
theorem o_validRow_19 : InsB md_validRow 19 (.goto 4) 3 22 (4) 23 := ⟨by decide +kernel, rfl, by decide, by decide⟩
theorem o_validRow_22 : InsA md_validRow 22 (.iconst 0) 1 23 := ⟨by decide +kernel, rfl⟩
theorem o_validRow_23 : InsA md_validRow 23 (.ireturn) 1 24 := ⟨by decide +kernel, rfl⟩
abbrev md_rowNode : MD := (⟨"RecursiveCte", "rowNode", "(I)I"⟩, prog_1_method_27_code, 2, some .int, { frames := 1, cells := 0, slots := 0, locals := 13 }, 0)
theorem cv_rowNode {Z : State} {a0 : Array Value} (H : OK Z a0) : CalV Z a0 md_rowNode 1 := ⟨pn_RecursiveCte, by decide, pd__I_I, H.w 125 rfl, H.w 127 rfl, H.w 2 rfl, Or.inl ⟨H.w 124 rfl, H.w 126 rfl⟩⟩
theorem o_rowNode_0 : InsA md_rowNode 0 (.aload_n 0) 1 1 := ⟨by decide +kernel, rfl⟩
theorem o_rowNode_1 : InsA md_rowNode 1 (.iload_n 1) 1 2 := ⟨by decide +kernel, rfl⟩
theorem o_rowNode_2 : InsA md_rowNode 2 (.invokevirtual 133) 3 5 := ⟨by decide +kernel, rfl⟩
theorem o_rowNode_5 : InsB md_rowNode 5 (.ifCond .ne 5) 3 8 (5) 10 := ⟨by decide +kernel, rfl, by decide, by decide⟩
theorem o_rowNode_8 : InsA md_rowNode 8 (.iconst (-1)) 1 9 := ⟨by decide +kernel, rfl⟩
theorem o_rowNode_9 : InsA md_rowNode 9 (.ireturn) 1 10 := ⟨by decide +kernel, rfl⟩
theorem o_rowNode_10 : InsA md_rowNode 10 (.aload_n 0) 1 11 := ⟨by decide +kernel, rfl⟩
theorem o_rowNode_11 : InsA md_rowNode 11 (.getfield 16) 3 14 := ⟨by decide +kernel, rfl⟩
theorem o_rowNode_14 : InsA md_rowNode 14 (.iload_n 1) 1 15 := ⟨by decide +kernel, rfl⟩
theorem o_rowNode_15 : InsA md_rowNode 15 (.iaload) 1 16 := ⟨by decide +kernel, rfl⟩
theorem o_rowNode_16 : InsA md_rowNode 16 (.ireturn) 1 17 := ⟨by decide +kernel, rfl⟩
abbrev md_rowIsCycle : MD := (⟨"RecursiveCte", "rowIsCycle", "(I)Z"⟩, prog_1_method_29_code, 2, some .boolean, { frames := 1, cells := 0, slots := 0, locals := 13 }, 0)
theorem cv_rowIsCycle {Z : State} {a0 : Array Value} (H : OK Z a0) : CalV Z a0 md_rowIsCycle 1 := ⟨pn_RecursiveCte, by decide, pd__I_Z, H.w 130 rfl, H.w 132 rfl, H.w 2 rfl, Or.inl ⟨H.w 129 rfl, H.w 131 rfl⟩⟩
theorem o_rowIsCycle_0 : InsA md_rowIsCycle 0 (.aload_n 0) 1 1 := ⟨by decide +kernel, rfl⟩
theorem o_rowIsCycle_1 : InsA md_rowIsCycle 1 (.iload_n 1) 1 2 := ⟨by decide +kernel, rfl⟩
theorem o_rowIsCycle_2 : InsA md_rowIsCycle 2 (.invokevirtual 133) 3 5 := ⟨by decide +kernel, rfl⟩
theorem o_rowIsCycle_5 : InsB md_rowIsCycle 5 (.ifCond .ne 5) 3 8 (5) 10 := ⟨by decide +kernel, rfl, by decide, by decide⟩
theorem o_rowIsCycle_8 : InsA md_rowIsCycle 8 (.iconst 0) 1 9 := ⟨by decide +kernel, rfl⟩
theorem o_rowIsCycle_9 : InsA md_rowIsCycle 9 (.ireturn) 1 10 := ⟨by decide +kernel, rfl⟩
theorem o_rowIsCycle_10 : InsA md_rowIsCycle 10 (.aload_n 0) 1 11 := ⟨by decide +kernel, rfl⟩
theorem o_rowIsCycle_11 : InsA md_rowIsCycle 11 (.getfield 23) 3 14 := ⟨by decide +kernel, rfl⟩
theorem o_rowIsCycle_14 : InsA md_rowIsCycle 14 (.iload_n 1) 1 15 := ⟨by decide +kernel, rfl⟩
theorem o_rowIsCycle_15 : InsA md_rowIsCycle 15 (.baload) 1 16 := ⟨by decide +kernel, rfl⟩
theorem o_rowIsCycle_16 : InsA md_rowIsCycle 16 (.ireturn) 1 17 := ⟨by decide +kernel, rfl⟩
abbrev md_rowPathNode : MD := (⟨"RecursiveCte", "rowPathNode", "(II)I"⟩, prog_1_method_30_code, 3, some .int, { frames := 1, cells := 0, slots := 0, locals := 13 }, 0)
theorem cv_rowPathNode {Z : State} {a0 : Array Value} (H : OK Z a0) : CalV Z a0 md_rowPathNode 2 := ⟨pn_RecursiveCte, by decide, pd__II_I, H.w 135 rfl, H.w 137 rfl, H.w 2 rfl, Or.inl ⟨H.w 134 rfl, H.w 136 rfl⟩⟩
theorem o_rowPathNode_0 : InsA md_rowPathNode 0 (.aload_n 0) 1 1 := ⟨by decide +kernel, rfl⟩
theorem o_rowPathNode_1 : InsA md_rowPathNode 1 (.iload_n 1) 1 2 := ⟨by decide +kernel, rfl⟩
theorem o_rowPathNode_2 : InsA md_rowPathNode 2 (.invokevirtual 133) 3 5 := ⟨by decide +kernel, rfl⟩
theorem o_rowPathNode_5 : InsB md_rowPathNode 5 (.ifCond .ne 5) 3 8 (5) 10 := ⟨by decide +kernel, rfl, by decide, by decide⟩
theorem o_rowPathNode_8 : InsA md_rowPathNode 8 (.iconst (-1)) 1 9 := ⟨by decide +kernel, rfl⟩
theorem o_rowPathNode_9 : InsA md_rowPathNode 9 (.ireturn) 1 10 := ⟨by decide +kernel, rfl⟩
theorem o_rowPathNode_10 : InsA md_rowPathNode 10 (.iload_n 2) 1 11 := ⟨by decide +kernel, rfl⟩
theorem o_rowPathNode_11 : InsB md_rowPathNode 11 (.ifCond .lt 19) 3 14 (19) 30 := ⟨by decide +kernel, rfl, by decide, by decide⟩
theorem o_rowPathNode_14 : InsA md_rowPathNode 14 (.iload_n 2) 1 15 := ⟨by decide +kernel, rfl⟩
theorem o_rowPathNode_15 : InsA md_rowPathNode 15 (.aload_n 0) 1 16 := ⟨by decide +kernel, rfl⟩
theorem o_rowPathNode_16 : InsA md_rowPathNode 16 (.getfield 20) 3 19 := ⟨by decide +kernel, rfl⟩
theorem o_rowPathNode_19 : InsA md_rowPathNode 19 (.iload_n 1) 1 20 := ⟨by decide +kernel, rfl⟩
theorem o_rowPathNode_20 : InsA md_rowPathNode 20 (.iaload) 1 21 := ⟨by decide +kernel, rfl⟩
theorem o_rowPathNode_21 : InsB md_rowPathNode 21 (.if_icmp .gt 9) 3 24 (9) 30 := ⟨by decide +kernel, rfl, by decide, by decide⟩
theorem o_rowPathNode_24 : InsA md_rowPathNode 24 (.iload_n 2) 1 25 := ⟨by decide +kernel, rfl⟩
theorem o_rowPathNode_25 : InsA md_rowPathNode 25 (.bipush 16) 2 27 := ⟨by decide +kernel, rfl⟩
theorem o_rowPathNode_27 : InsB md_rowPathNode 27 (.if_icmp .lt 5) 3 30 (5) 32 := ⟨by decide +kernel, rfl, by decide, by decide⟩
theorem o_rowPathNode_30 : InsA md_rowPathNode 30 (.iconst (-1)) 1 31 := ⟨by decide +kernel, rfl⟩
theorem o_rowPathNode_31 : InsA md_rowPathNode 31 (.ireturn) 1 32 := ⟨by decide +kernel, rfl⟩
theorem o_rowPathNode_32 : InsA md_rowPathNode 32 (.aload_n 0) 1 33 := ⟨by decide +kernel, rfl⟩
theorem o_rowPathNode_33 : InsA md_rowPathNode 33 (.getfield 26) 3 36 := ⟨by decide +kernel, rfl⟩
theorem o_rowPathNode_36 : InsA md_rowPathNode 36 (.iload_n 1) 1 37 := ⟨by decide +kernel, rfl⟩
theorem o_rowPathNode_37 : InsA md_rowPathNode 37 (.bipush 16) 2 39 := ⟨by decide +kernel, rfl⟩
theorem o_rowPathNode_39 : InsA md_rowPathNode 39 (.imul) 1 40 := ⟨by decide +kernel, rfl⟩
theorem o_rowPathNode_40 : InsA md_rowPathNode 40 (.iload_n 2) 1 41 := ⟨by decide +kernel, rfl⟩
theorem o_rowPathNode_41 : InsA md_rowPathNode 41 (.iadd) 1 42 := ⟨by decide +kernel, rfl⟩
theorem o_rowPathNode_42 : InsA md_rowPathNode 42 (.iaload) 1 43 := ⟨by decide +kernel, rfl⟩
theorem o_rowPathNode_43 : InsA md_rowPathNode 43 (.ireturn) 1 44 := ⟨by decide +kernel, rfl⟩
abbrev md_countNode : MD := (⟨"RecursiveCte", "countNode", "(I)I"⟩, prog_1_method_31_code, 4, some .int, { frames := 1, cells := 0, slots := 0, locals := 13 }, 0)
theorem cv_countNode {Z : State} {a0 : Array Value} (H : OK Z a0) : CalV Z a0 md_countNode 1 := ⟨pn_RecursiveCte, by decide, pd__I_I, H.w 140 rfl, H.w 142 rfl, H.w 2 rfl, Or.inl ⟨H.w 139 rfl, H.w 141 rfl⟩⟩
theorem o_countNode_0 : InsA md_countNode 0 (.aload_n 0) 1 1 := ⟨by decide +kernel, rfl⟩
theorem o_countNode_1 : InsA md_countNode 1 (.iload_n 1) 1 2 := ⟨by decide +kernel, rfl⟩
theorem o_countNode_2 : InsA md_countNode 2 (.invokevirtual 80) 3 5 := ⟨by decide +kernel, rfl⟩
theorem o_countNode_5 : InsB md_countNode 5 (.ifCond .ne 5) 3 8 (5) 10 := ⟨by decide +kernel, rfl, by decide, by decide⟩
theorem o_countNode_8 : InsA md_countNode 8 (.iconst (-1)) 1 9 := ⟨by decide +kernel, rfl⟩
theorem o_countNode_9 : InsA md_countNode 9 (.ireturn) 1 10 := ⟨by decide +kernel, rfl⟩
theorem o_countNode_10 : InsA md_countNode 10 (.iconst 0) 1 11 := ⟨by decide +kernel, rfl⟩
theorem o_countNode_11 : InsA md_countNode 11 (.istore_n 2) 1 12 := ⟨by decide +kernel, rfl⟩
theorem o_countNode_12 : InsA md_countNode 12 (.iconst 0) 1 13 := ⟨by decide +kernel, rfl⟩
theorem o_countNode_13 : InsA md_countNode 13 (.istore_n 3) 1 14 := ⟨by decide +kernel, rfl⟩
theorem o_countNode_14 : InsA md_countNode 14 (.iload_n 3) 1 15 := ⟨by decide +kernel, rfl⟩
theorem o_countNode_15 : InsA md_countNode 15 (.aload_n 0) 1 16 := ⟨by decide +kernel, rfl⟩
theorem o_countNode_16 : InsA md_countNode 16 (.getfield 74) 3 19 := ⟨by decide +kernel, rfl⟩
theorem o_countNode_19 : InsB md_countNode 19 (.if_icmp .ge 28) 3 22 (28) 47 := ⟨by decide +kernel, rfl, by decide, by decide⟩
theorem o_countNode_22 : InsA md_countNode 22 (.iload_n 3) 1 23 := ⟨by decide +kernel, rfl⟩
theorem o_countNode_23 : InsA md_countNode 23 (.bipush 64) 2 25 := ⟨by decide +kernel, rfl⟩
theorem o_countNode_25 : InsB md_countNode 25 (.if_icmp .ge 22) 3 28 (22) 47 := ⟨by decide +kernel, rfl, by decide, by decide⟩
theorem o_countNode_28 : InsA md_countNode 28 (.aload_n 0) 1 29 := ⟨by decide +kernel, rfl⟩
theorem o_countNode_29 : InsA md_countNode 29 (.getfield 16) 3 32 := ⟨by decide +kernel, rfl⟩
theorem o_countNode_32 : InsA md_countNode 32 (.iload_n 3) 1 33 := ⟨by decide +kernel, rfl⟩
theorem o_countNode_33 : InsA md_countNode 33 (.iaload) 1 34 := ⟨by decide +kernel, rfl⟩
theorem o_countNode_34 : InsA md_countNode 34 (.iload_n 1) 1 35 := ⟨by decide +kernel, rfl⟩
theorem o_countNode_35 : InsB md_countNode 35 (.if_icmp .ne 6) 3 38 (6) 41 := ⟨by decide +kernel, rfl, by decide, by decide⟩
theorem o_countNode_38 : InsA md_countNode 38 (.iinc 2 1) 3 41 := ⟨by decide +kernel, rfl⟩
theorem o_countNode_41 : InsA md_countNode 41 (.iinc 3 1) 3 44 := ⟨by decide +kernel, rfl⟩
theorem o_countNode_44 : InsB md_countNode 44 (.goto (-30)) 3 47 (-30) 14 := ⟨by decide +kernel, rfl, by decide, by decide⟩
theorem o_countNode_47 : InsA md_countNode 47 (.iload_n 2) 1 48 := ⟨by decide +kernel, rfl⟩
theorem o_countNode_48 : InsA md_countNode 48 (.ireturn) 1 49 := ⟨by decide +kernel, rfl⟩
abbrev md_L_law : MD := (x, code, maxLocals, ret, room_1, 11)
theorem o_L_law_0 : InsA md_L_law 0 (.iload_n 0) 1 1 := ⟨at_0, rfl⟩
theorem o_L_law_1 : InsA md_L_law 1 (.iconst 3) 1 2 := ⟨at_1, rfl⟩
theorem o_L_law_2 : InsA md_L_law 2 (.iand) 1 3 := ⟨at_2, rfl⟩
theorem o_L_law_3 : InsA md_L_law 3 (.istore_n 3) 1 4 := ⟨at_3, rfl⟩
theorem o_L_law_4 : InsA md_L_law 4 (.iconst 4) 1 5 := ⟨at_4, rfl⟩
theorem o_L_law_5 : InsA md_L_law 5 (.iload_n 1) 1 6 := ⟨at_5, rfl⟩
theorem o_L_law_6 : InsA md_L_law 6 (.bipush 7) 2 8 := ⟨at_6, rfl⟩
theorem o_L_law_8 : InsA md_L_law 8 (.iand) 1 9 := ⟨at_8, rfl⟩
theorem o_L_law_9 : InsA md_L_law 9 (.iadd) 1 10 := ⟨at_9, rfl⟩
theorem o_L_law_10 : InsA md_L_law 10 (.istore 4) 2 12 := ⟨at_10, rfl⟩
theorem o_L_law_12 : InsA md_L_law 12 (.iconst 4) 1 13 := ⟨at_12, rfl⟩
theorem o_L_law_13 : InsA md_L_law 13 (.iload_n 2) 1 14 := ⟨at_13, rfl⟩
theorem o_L_law_14 : InsA md_L_law 14 (.bipush 7) 2 16 := ⟨at_14, rfl⟩
theorem o_L_law_16 : InsA md_L_law 16 (.iand) 1 17 := ⟨at_16, rfl⟩
theorem o_L_law_17 : InsA md_L_law 17 (.iadd) 1 18 := ⟨at_17, rfl⟩
theorem o_L_law_18 : InsA md_L_law 18 (.istore 5) 2 20 := ⟨at_18, rfl⟩
theorem o_L_law_20 : InsA md_L_law 20 (.new 7) 3 23 := ⟨at_20, rfl⟩
theorem o_L_law_23 : InsA md_L_law 23 (.dup) 1 24 := ⟨at_23, rfl⟩
theorem o_L_law_24 : InsA md_L_law 24 (.bipush 16) 2 26 := ⟨at_24, rfl⟩
theorem o_L_law_26 : InsA md_L_law 26 (.bipush 32) 2 28 := ⟨at_26, rfl⟩
theorem o_L_law_28 : InsA md_L_law 28 (.bipush 64) 2 30 := ⟨at_28, rfl⟩
theorem o_L_law_30 : InsA md_L_law 30 (.invokespecial 9) 3 33 := ⟨at_30, rfl⟩
theorem o_L_law_33 : InsA md_L_law 33 (.astore 6) 2 35 := ⟨at_33, rfl⟩
theorem o_L_law_35 : InsA md_L_law 35 (.aload 6) 2 37 := ⟨at_35, rfl⟩
theorem o_L_law_37 : InsA md_L_law 37 (.iload_n 3) 1 38 := ⟨at_37, rfl⟩
theorem o_L_law_38 : InsA md_L_law 38 (.iload 4) 2 40 := ⟨at_38, rfl⟩
theorem o_L_law_40 : InsA md_L_law 40 (.invokevirtual 12) 3 43 := ⟨at_40, rfl⟩
theorem o_L_law_43 : InsB md_L_law 43 (.ifCond .eq 5) 3 46 (5) 48 := ⟨at_43, rfl, by decide, by decide⟩
theorem o_L_law_46 : InsA md_L_law 46 (.iconst 0) 1 47 := ⟨at_46, rfl⟩
theorem o_L_law_47 : InsA md_L_law 47 (.ireturn) 1 48 := ⟨at_47, rfl⟩
theorem o_L_law_48 : InsA md_L_law 48 (.aload 6) 2 50 := ⟨at_48, rfl⟩
theorem o_L_law_50 : InsA md_L_law 50 (.iload_n 3) 1 51 := ⟨at_50, rfl⟩
theorem o_L_law_51 : InsA md_L_law 51 (.iload 5) 2 53 := ⟨at_51, rfl⟩
theorem o_L_law_53 : InsA md_L_law 53 (.invokevirtual 12) 3 56 := ⟨at_53, rfl⟩
theorem o_L_law_56 : InsA md_L_law 56 (.iload 4) 2 58 := ⟨at_56, rfl⟩
theorem o_L_law_58 : InsA md_L_law 58 (.iload 5) 2 60 := ⟨at_58, rfl⟩
theorem o_L_law_60 : InsB md_L_law 60 (.if_icmp .ne 8) 3 63 (8) 68 := ⟨at_60, rfl, by decide, by decide⟩
theorem o_L_law_63 : InsA md_L_law 63 (.bipush (-2)) 2 65 := ⟨at_63, rfl⟩
theorem o_L_law_65 : InsB md_L_law 65 (.goto 4) 3 68 (4) 69 := ⟨at_65, rfl, by decide, by decide⟩
theorem o_L_law_68 : InsA md_L_law 68 (.iconst 0) 1 69 := ⟨at_68, rfl⟩
theorem o_L_law_69 : InsB md_L_law 69 (.if_icmp .eq 5) 3 72 (5) 74 := ⟨at_69, rfl, by decide, by decide⟩
theorem o_L_law_72 : InsA md_L_law 72 (.iconst 0) 1 73 := ⟨at_72, rfl⟩
theorem o_L_law_73 : InsA md_L_law 73 (.ireturn) 1 74 := ⟨at_73, rfl⟩
theorem o_L_law_74 : InsA md_L_law 74 (.aload 6) 2 76 := ⟨at_74, rfl⟩
theorem o_L_law_76 : InsA md_L_law 76 (.iload 4) 2 78 := ⟨at_76, rfl⟩
theorem o_L_law_78 : InsA md_L_law 78 (.iload_n 3) 1 79 := ⟨at_78, rfl⟩
theorem o_L_law_79 : InsA md_L_law 79 (.invokevirtual 12) 3 82 := ⟨at_79, rfl⟩
theorem o_L_law_82 : InsB md_L_law 82 (.ifCond .eq 5) 3 85 (5) 87 := ⟨at_82, rfl, by decide, by decide⟩
theorem o_L_law_85 : InsA md_L_law 85 (.iconst 0) 1 86 := ⟨at_85, rfl⟩
theorem o_L_law_86 : InsA md_L_law 86 (.ireturn) 1 87 := ⟨at_86, rfl⟩
theorem o_L_law_87 : InsA md_L_law 87 (.aload 6) 2 89 := ⟨at_87, rfl⟩
theorem o_L_law_89 : InsA md_L_law 89 (.iload_n 3) 1 90 := ⟨at_89, rfl⟩
theorem o_L_law_90 : InsA md_L_law 90 (.invokevirtual 16) 3 93 := ⟨at_90, rfl⟩
theorem o_L_law_93 : InsB md_L_law 93 (.ifCond .eq 5) 3 96 (5) 98 := ⟨at_93, rfl, by decide, by decide⟩
theorem o_L_law_96 : InsA md_L_law 96 (.iconst 0) 1 97 := ⟨at_96, rfl⟩
theorem o_L_law_97 : InsA md_L_law 97 (.ireturn) 1 98 := ⟨at_97, rfl⟩
theorem o_L_law_98 : InsA md_L_law 98 (.iload 4) 2 100 := ⟨at_98, rfl⟩
theorem o_L_law_100 : InsA md_L_law 100 (.iload 5) 2 102 := ⟨at_100, rfl⟩
theorem o_L_law_102 : InsB md_L_law 102 (.if_icmp .ne 7) 3 105 (7) 109 := ⟨at_102, rfl, by decide, by decide⟩
theorem o_L_law_105 : InsA md_L_law 105 (.iconst 3) 1 106 := ⟨at_105, rfl⟩
theorem o_L_law_106 : InsB md_L_law 106 (.goto 4) 3 109 (4) 110 := ⟨at_106, rfl, by decide, by decide⟩
theorem o_L_law_109 : InsA md_L_law 109 (.iconst 4) 1 110 := ⟨at_109, rfl⟩
theorem o_L_law_110 : InsA md_L_law 110 (.istore 7) 2 112 := ⟨at_110, rfl⟩
theorem o_L_law_112 : InsA md_L_law 112 (.aload 6) 2 114 := ⟨at_112, rfl⟩
theorem o_L_law_114 : InsA md_L_law 114 (.invokevirtual 20) 3 117 := ⟨at_114, rfl⟩
theorem o_L_law_117 : InsA md_L_law 117 (.iload 7) 2 119 := ⟨at_117, rfl⟩
theorem o_L_law_119 : InsB md_L_law 119 (.if_icmp .eq 5) 3 122 (5) 124 := ⟨at_119, rfl, by decide, by decide⟩
theorem o_L_law_122 : InsA md_L_law 122 (.iconst 0) 1 123 := ⟨at_122, rfl⟩
theorem o_L_law_123 : InsA md_L_law 123 (.ireturn) 1 124 := ⟨at_123, rfl⟩
theorem o_L_law_124 : InsA md_L_law 124 (.aload 6) 2 126 := ⟨at_124, rfl⟩
theorem o_L_law_126 : InsA md_L_law 126 (.invokevirtual 24) 3 129 := ⟨at_126, rfl⟩
theorem o_L_law_129 : InsA md_L_law 129 (.iload 7) 2 131 := ⟨at_129, rfl⟩
theorem o_L_law_131 : InsB md_L_law 131 (.if_icmp .eq 5) 3 134 (5) 136 := ⟨at_131, rfl, by decide, by decide⟩
theorem o_L_law_134 : InsA md_L_law 134 (.iconst 0) 1 135 := ⟨at_134, rfl⟩
theorem o_L_law_135 : InsA md_L_law 135 (.ireturn) 1 136 := ⟨at_135, rfl⟩
theorem o_L_law_136 : InsA md_L_law 136 (.aload 6) 2 138 := ⟨at_136, rfl⟩
theorem o_L_law_138 : InsA md_L_law 138 (.invokevirtual 27) 3 141 := ⟨at_138, rfl⟩
theorem o_L_law_141 : InsA md_L_law 141 (.iconst 1) 1 142 := ⟨at_141, rfl⟩
theorem o_L_law_142 : InsB md_L_law 142 (.if_icmp .eq 5) 3 145 (5) 147 := ⟨at_142, rfl, by decide, by decide⟩
theorem o_L_law_145 : InsA md_L_law 145 (.iconst 0) 1 146 := ⟨at_145, rfl⟩
theorem o_L_law_146 : InsA md_L_law 146 (.ireturn) 1 147 := ⟨at_146, rfl⟩
theorem o_L_law_147 : InsA md_L_law 147 (.aload 6) 2 149 := ⟨at_147, rfl⟩
theorem o_L_law_149 : InsA md_L_law 149 (.iconst 0) 1 150 := ⟨at_149, rfl⟩
theorem o_L_law_150 : InsA md_L_law 150 (.iconst 0) 1 151 := ⟨at_150, rfl⟩
theorem o_L_law_151 : InsA md_L_law 151 (.iload_n 3) 1 152 := ⟨at_151, rfl⟩
theorem o_L_law_152 : InsA md_L_law 152 (.iconst (-1)) 1 153 := ⟨at_152, rfl⟩
theorem o_L_law_153 : InsA md_L_law 153 (.iconst (-1)) 1 154 := ⟨at_153, rfl⟩
theorem o_L_law_154 : InsA md_L_law 154 (.iconst 0) 1 155 := ⟨at_154, rfl⟩
theorem o_L_law_155 : InsA md_L_law 155 (.invokestatic 30) 3 158 := ⟨at_155, rfl⟩
theorem o_L_law_158 : InsB md_L_law 158 (.ifCond .ne 5) 3 161 (5) 163 := ⟨at_158, rfl, by decide, by decide⟩
theorem o_L_law_161 : InsA md_L_law 161 (.iconst 0) 1 162 := ⟨at_161, rfl⟩
theorem o_L_law_162 : InsA md_L_law 162 (.ireturn) 1 163 := ⟨at_162, rfl⟩
theorem o_L_law_163 : InsA md_L_law 163 (.iload 4) 2 165 := ⟨at_163, rfl⟩
theorem o_L_law_165 : InsA md_L_law 165 (.iload 5) 2 167 := ⟨at_165, rfl⟩
theorem o_L_law_167 : InsB md_L_law 167 (.if_icmp .ne 37) 3 170 (37) 204 := ⟨at_167, rfl, by decide, by decide⟩
theorem o_L_law_170 : InsA md_L_law 170 (.aload 6) 2 172 := ⟨at_170, rfl⟩
theorem o_L_law_172 : InsA md_L_law 172 (.iconst 1) 1 173 := ⟨at_172, rfl⟩
theorem o_L_law_173 : InsA md_L_law 173 (.iconst 1) 1 174 := ⟨at_173, rfl⟩
theorem o_L_law_174 : InsA md_L_law 174 (.iload_n 3) 1 175 := ⟨at_174, rfl⟩
theorem o_L_law_175 : InsA md_L_law 175 (.iload 4) 2 177 := ⟨at_175, rfl⟩
theorem o_L_law_177 : InsA md_L_law 177 (.iconst (-1)) 1 178 := ⟨at_177, rfl⟩
theorem o_L_law_178 : InsA md_L_law 178 (.iconst 0) 1 179 := ⟨at_178, rfl⟩
theorem o_L_law_179 : InsA md_L_law 179 (.invokestatic 30) 3 182 := ⟨at_179, rfl⟩
theorem o_L_law_182 : InsB md_L_law 182 (.ifCond .ne 5) 3 185 (5) 187 := ⟨at_182, rfl, by decide, by decide⟩
theorem o_L_law_185 : InsA md_L_law 185 (.iconst 0) 1 186 := ⟨at_185, rfl⟩
theorem o_L_law_186 : InsA md_L_law 186 (.ireturn) 1 187 := ⟨at_186, rfl⟩
theorem o_L_law_187 : InsA md_L_law 187 (.aload 6) 2 189 := ⟨at_187, rfl⟩
theorem o_L_law_189 : InsA md_L_law 189 (.iconst 2) 1 190 := ⟨at_189, rfl⟩
theorem o_L_law_190 : InsA md_L_law 190 (.iconst 2) 1 191 := ⟨at_190, rfl⟩
theorem o_L_law_191 : InsA md_L_law 191 (.iload_n 3) 1 192 := ⟨at_191, rfl⟩
theorem o_L_law_192 : InsA md_L_law 192 (.iload 4) 2 194 := ⟨at_192, rfl⟩
theorem o_L_law_194 : InsA md_L_law 194 (.iload_n 3) 1 195 := ⟨at_194, rfl⟩
theorem o_L_law_195 : InsA md_L_law 195 (.iconst 1) 1 196 := ⟨at_195, rfl⟩
theorem o_L_law_196 : InsA md_L_law 196 (.invokestatic 30) 3 199 := ⟨at_196, rfl⟩
theorem o_L_law_199 : InsB md_L_law 199 (.ifCond .ne 114) 3 202 (114) 313 := ⟨at_199, rfl, by decide, by decide⟩
theorem o_L_law_202 : InsA md_L_law 202 (.iconst 0) 1 203 := ⟨at_202, rfl⟩
theorem o_L_law_203 : InsA md_L_law 203 (.ireturn) 1 204 := ⟨at_203, rfl⟩
theorem o_L_law_204 : InsA md_L_law 204 (.iload 4) 2 206 := ⟨at_204, rfl⟩
theorem o_L_law_206 : InsA md_L_law 206 (.iload 5) 2 208 := ⟨at_206, rfl⟩
theorem o_L_law_208 : InsB md_L_law 208 (.if_icmp .ge 54) 3 211 (54) 262 := ⟨at_208, rfl, by decide, by decide⟩
theorem o_L_law_211 : InsA md_L_law 211 (.aload 6) 2 213 := ⟨at_211, rfl⟩
theorem o_L_law_213 : InsA md_L_law 213 (.iconst 1) 1 214 := ⟨at_213, rfl⟩
theorem o_L_law_214 : InsA md_L_law 214 (.iconst 1) 1 215 := ⟨at_214, rfl⟩
theorem o_L_law_215 : InsA md_L_law 215 (.iload_n 3) 1 216 := ⟨at_215, rfl⟩
theorem o_L_law_216 : InsA md_L_law 216 (.iload 4) 2 218 := ⟨at_216, rfl⟩
theorem o_L_law_218 : InsA md_L_law 218 (.iconst (-1)) 1 219 := ⟨at_218, rfl⟩
theorem o_L_law_219 : InsA md_L_law 219 (.iconst 0) 1 220 := ⟨at_219, rfl⟩
theorem o_L_law_220 : InsA md_L_law 220 (.invokestatic 30) 3 223 := ⟨at_220, rfl⟩
theorem o_L_law_223 : InsB md_L_law 223 (.ifCond .ne 5) 3 226 (5) 228 := ⟨at_223, rfl, by decide, by decide⟩
theorem o_L_law_226 : InsA md_L_law 226 (.iconst 0) 1 227 := ⟨at_226, rfl⟩
theorem o_L_law_227 : InsA md_L_law 227 (.ireturn) 1 228 := ⟨at_227, rfl⟩
theorem o_L_law_228 : InsA md_L_law 228 (.aload 6) 2 230 := ⟨at_228, rfl⟩
theorem o_L_law_230 : InsA md_L_law 230 (.iconst 2) 1 231 := ⟨at_230, rfl⟩
theorem o_L_law_231 : InsA md_L_law 231 (.iconst 2) 1 232 := ⟨at_231, rfl⟩
theorem o_L_law_232 : InsA md_L_law 232 (.iload_n 3) 1 233 := ⟨at_232, rfl⟩
theorem o_L_law_233 : InsA md_L_law 233 (.iload 4) 2 235 := ⟨at_233, rfl⟩
theorem o_L_law_235 : InsA md_L_law 235 (.iload_n 3) 1 236 := ⟨at_235, rfl⟩
theorem o_L_law_236 : InsA md_L_law 236 (.iconst 1) 1 237 := ⟨at_236, rfl⟩
theorem o_L_law_237 : InsA md_L_law 237 (.invokestatic 30) 3 240 := ⟨at_237, rfl⟩
theorem o_L_law_240 : InsB md_L_law 240 (.ifCond .ne 5) 3 243 (5) 245 := ⟨at_240, rfl, by decide, by decide⟩
theorem o_L_law_243 : InsA md_L_law 243 (.iconst 0) 1 244 := ⟨at_243, rfl⟩
theorem o_L_law_244 : InsA md_L_law 244 (.ireturn) 1 245 := ⟨at_244, rfl⟩
theorem o_L_law_245 : InsA md_L_law 245 (.aload 6) 2 247 := ⟨at_245, rfl⟩
theorem o_L_law_247 : InsA md_L_law 247 (.iconst 3) 1 248 := ⟨at_247, rfl⟩
theorem o_L_law_248 : InsA md_L_law 248 (.iconst 1) 1 249 := ⟨at_248, rfl⟩
theorem o_L_law_249 : InsA md_L_law 249 (.iload_n 3) 1 250 := ⟨at_249, rfl⟩
theorem o_L_law_250 : InsA md_L_law 250 (.iload 5) 2 252 := ⟨at_250, rfl⟩
theorem o_L_law_252 : InsA md_L_law 252 (.iconst (-1)) 1 253 := ⟨at_252, rfl⟩
theorem o_L_law_253 : InsA md_L_law 253 (.iconst 0) 1 254 := ⟨at_253, rfl⟩
theorem o_L_law_254 : InsA md_L_law 254 (.invokestatic 30) 3 257 := ⟨at_254, rfl⟩
theorem o_L_law_257 : InsB md_L_law 257 (.ifCond .ne 56) 3 260 (56) 313 := ⟨at_257, rfl, by decide, by decide⟩
theorem o_L_law_260 : InsA md_L_law 260 (.iconst 0) 1 261 := ⟨at_260, rfl⟩
theorem o_L_law_261 : InsA md_L_law 261 (.ireturn) 1 262 := ⟨at_261, rfl⟩
theorem o_L_law_262 : InsA md_L_law 262 (.aload 6) 2 264 := ⟨at_262, rfl⟩
theorem o_L_law_264 : InsA md_L_law 264 (.iconst 1) 1 265 := ⟨at_264, rfl⟩
theorem o_L_law_265 : InsA md_L_law 265 (.iconst 1) 1 266 := ⟨at_265, rfl⟩
theorem o_L_law_266 : InsA md_L_law 266 (.iload_n 3) 1 267 := ⟨at_266, rfl⟩
theorem o_L_law_267 : InsA md_L_law 267 (.iload 5) 2 269 := ⟨at_267, rfl⟩
theorem o_L_law_269 : InsA md_L_law 269 (.iconst (-1)) 1 270 := ⟨at_269, rfl⟩
theorem o_L_law_270 : InsA md_L_law 270 (.iconst 0) 1 271 := ⟨at_270, rfl⟩
theorem o_L_law_271 : InsA md_L_law 271 (.invokestatic 30) 3 274 := ⟨at_271, rfl⟩
theorem o_L_law_274 : InsB md_L_law 274 (.ifCond .ne 5) 3 277 (5) 279 := ⟨at_274, rfl, by decide, by decide⟩
theorem o_L_law_277 : InsA md_L_law 277 (.iconst 0) 1 278 := ⟨at_277, rfl⟩
theorem o_L_law_278 : InsA md_L_law 278 (.ireturn) 1 279 := ⟨at_278, rfl⟩
theorem o_L_law_279 : InsA md_L_law 279 (.aload 6) 2 281 := ⟨at_279, rfl⟩
theorem o_L_law_281 : InsA md_L_law 281 (.iconst 2) 1 282 := ⟨at_281, rfl⟩
theorem o_L_law_282 : InsA md_L_law 282 (.iconst 1) 1 283 := ⟨at_282, rfl⟩
theorem o_L_law_283 : InsA md_L_law 283 (.iload_n 3) 1 284 := ⟨at_283, rfl⟩
theorem o_L_law_284 : InsA md_L_law 284 (.iload 4) 2 286 := ⟨at_284, rfl⟩
theorem o_L_law_286 : InsA md_L_law 286 (.iconst (-1)) 1 287 := ⟨at_286, rfl⟩
theorem o_L_law_287 : InsA md_L_law 287 (.iconst 0) 1 288 := ⟨at_287, rfl⟩
theorem o_L_law_288 : InsA md_L_law 288 (.invokestatic 30) 3 291 := ⟨at_288, rfl⟩
theorem o_L_law_291 : InsB md_L_law 291 (.ifCond .ne 5) 3 294 (5) 296 := ⟨at_291, rfl, by decide, by decide⟩
theorem o_L_law_294 : InsA md_L_law 294 (.iconst 0) 1 295 := ⟨at_294, rfl⟩
theorem o_L_law_295 : InsA md_L_law 295 (.ireturn) 1 296 := ⟨at_295, rfl⟩
theorem o_L_law_296 : InsA md_L_law 296 (.aload 6) 2 298 := ⟨at_296, rfl⟩
theorem o_L_law_298 : InsA md_L_law 298 (.iconst 3) 1 299 := ⟨at_298, rfl⟩
theorem o_L_law_299 : InsA md_L_law 299 (.iconst 2) 1 300 := ⟨at_299, rfl⟩
theorem o_L_law_300 : InsA md_L_law 300 (.iload_n 3) 1 301 := ⟨at_300, rfl⟩
theorem o_L_law_301 : InsA md_L_law 301 (.iload 4) 2 303 := ⟨at_301, rfl⟩
theorem o_L_law_303 : InsA md_L_law 303 (.iload_n 3) 1 304 := ⟨at_303, rfl⟩
theorem o_L_law_304 : InsA md_L_law 304 (.iconst 1) 1 305 := ⟨at_304, rfl⟩
theorem o_L_law_305 : InsA md_L_law 305 (.invokestatic 30) 3 308 := ⟨at_305, rfl⟩
theorem o_L_law_308 : InsB md_L_law 308 (.ifCond .ne 5) 3 311 (5) 313 := ⟨at_308, rfl, by decide, by decide⟩
theorem o_L_law_311 : InsA md_L_law 311 (.iconst 0) 1 312 := ⟨at_311, rfl⟩
theorem o_L_law_312 : InsA md_L_law 312 (.ireturn) 1 313 := ⟨at_312, rfl⟩
theorem o_L_law_313 : InsA md_L_law 313 (.aload 6) 2 315 := ⟨at_313, rfl⟩
theorem o_L_law_315 : InsA md_L_law 315 (.iload_n 3) 1 316 := ⟨at_315, rfl⟩
theorem o_L_law_316 : InsA md_L_law 316 (.invokevirtual 36) 3 319 := ⟨at_316, rfl⟩
theorem o_L_law_319 : InsA md_L_law 319 (.iconst 2) 1 320 := ⟨at_319, rfl⟩
theorem o_L_law_320 : InsB md_L_law 320 (.if_icmp .eq 5) 3 323 (5) 325 := ⟨at_320, rfl, by decide, by decide⟩
theorem o_L_law_323 : InsA md_L_law 323 (.iconst 0) 1 324 := ⟨at_323, rfl⟩
theorem o_L_law_324 : InsA md_L_law 324 (.ireturn) 1 325 := ⟨at_324, rfl⟩
theorem o_L_law_325 : InsA md_L_law 325 (.aload 6) 2 327 := ⟨at_325, rfl⟩
theorem o_L_law_327 : InsA md_L_law 327 (.iload 7) 2 329 := ⟨at_327, rfl⟩
theorem o_L_law_329 : InsA md_L_law 329 (.invokevirtual 39) 3 332 := ⟨at_329, rfl⟩
theorem o_L_law_332 : InsA md_L_law 332 (.iconst (-1)) 1 333 := ⟨at_332, rfl⟩
theorem o_L_law_333 : InsB md_L_law 333 (.if_icmp .ne 7) 3 336 (7) 340 := ⟨at_333, rfl, by decide, by decide⟩
theorem o_L_law_336 : InsA md_L_law 336 (.iconst 1) 1 337 := ⟨at_336, rfl⟩
theorem o_L_law_337 : InsB md_L_law 337 (.goto 4) 3 340 (4) 341 := ⟨at_337, rfl, by decide, by decide⟩
theorem o_L_law_340 : InsA md_L_law 340 (.iconst 0) 1 341 := ⟨at_340, rfl⟩
theorem o_L_law_341 : InsA md_L_law 341 (.ireturn) 1 342 := ⟨at_341, rfl⟩
theorem gd {c : Prop} [Decidable c] {α : Type} {x : Option α} {r : α} (h : (if c then x else none) = some r) : c ∧ x = some r := by
  by_cases q : c
  · rw [if_pos q] at h; exact ⟨q, h⟩
  · rw [if_neg q] at h; cases h
theorem ifp {c : Prop} [Decidable c] {α : Type} {x y z : α} (q : c) (h : (if c then x else y) = z) : x = z := by rw [if_pos q] at h; exact h
theorem ifn {c : Prop} [Decidable c] {α : Type} {x y z : α} (q : ¬ c) (h : (if c then x else y) = z) : y = z := by rw [if_neg q] at h; exact h
theorem getD_some {α : Type} {o : Option α} {d r : α} (h : o = some r) : o.getD d = r := by rw [h]; rfl
set_option maxRecDepth 65536 in
set_option maxHeartbeats 4000000 in
theorem wp_clamp {l : Launch} {Z : State} {a0 : Array Value} (H : OK Z a0) (F : Nat → Int32) (G : Nat → Int64) (A : Nat → Int32 → Int32) (B : Nat → Int32 → Int64) (p1 : Int32) (p2 : Int32) (p3 : Int32) {Q : Option Value → WO → Prop} (h3 : ¬ p1 < p2 → ¬ p3 < p1 → Q (some (.int p1)) (10, F, G, A, B)) (h4 : ¬ p1 < p2 → p3 < p1 → Q (some (.int p3)) (10, F, G, A, B)) (h5 : p1 < p2 → Q (some (.int p2)) (10, F, G, A, B)) :
    Wk l Z (MoC Z cdC) md_clamp 0 [.val (.ref 0), .val (.int p1), .val (.int p2), .val (.int p3)] [] (10, F, G, A, B) 0 0 Q := by
  refine Wk.iloadN o_clamp_0 rfl ?_
  refine Wk.iloadN o_clamp_1 rfl ?_
  refine Wk.icmp_ge o_clamp_2 (fun q1 => ?_) (fun q1 => ?_)
  · refine Wk.iloadN o_clamp_7 rfl ?_
    refine Wk.iloadN o_clamp_8 rfl ?_
    refine Wk.icmp_le o_clamp_9 (fun q2 => ?_) (fun q2 => ?_)
    · refine Wk.iloadN o_clamp_14 rfl ?_
      exact Wk.ireturn mrC rfl o_clamp_15 rfl (by decide) (by decide) (h3 q1 q2)
    · refine Wk.iloadN o_clamp_12 rfl ?_
      exact Wk.ireturn mrC rfl o_clamp_13 rfl (by decide) (by decide) (h4 q1 q2)
  · refine Wk.iloadN o_clamp_5 rfl ?_
    exact Wk.ireturn mrC rfl o_clamp_6 rfl (by decide) (by decide) (h5 q1)

def f_clamp (p1 : Int32) (p2 : Int32) (p3 : Int32) : Int32 := (if p1 < p2 then p2 else (if p3 < p1 then p3 else p1))
theorem e_clamp (p1 : Int32) (p2 : Int32) (p3 : Int32) : f_clamp p1 p2 p3 = (if p1 < p2 then p2 else (if p3 < p1 then p3 else p1)) := Eq.trans rfl rfl
theorem run_clamp {l : Launch} {Z : State} {a0 : Array Value} (H : OK Z a0) (F : Nat → Int32) (G : Nat → Int64) (A : Nat → Int32 → Int32) (B : Nat → Int32 → Int64) (p1 : Int32) (p2 : Int32) (p3 : Int32) :
    Wk l Z (MoC Z cdC) md_clamp 0 [.val (.ref 0), .val (.int p1), .val (.int p2), .val (.int p3)] [] (10, F, G, A, B) 0 0 (fun v w' => v = some (.int (f_clamp p1 p2 p3)) ∧ w' = (10, F, G, A, B)) :=
  wp_clamp H F G A B p1 p2 p3 (fun q1 q2 => ⟨by simp only [e_clamp, if_neg q1, if_neg q2], rfl⟩) (fun q1 q2 => ⟨by simp only [e_clamp, if_neg q1, if_pos q2], rfl⟩) (fun q1 => ⟨by simp only [e_clamp, if_pos q1], rfl⟩)
set_option maxRecDepth 65536 in
set_option maxHeartbeats 4000000 in
theorem wp_init {l : Launch} {Z : State} {a0 : Array Value} (H : OK Z a0) (p1 : Int32) (p2 : Int32) (p3 : Int32) {Q : Option Value → WO → Prop} (h1 : Q none (10, (ups (ups (ups (ups (ups (ups (ups (ups (ups (ups (ups (fun _ => 0) 0 (f_clamp p1 (2 : Int32) (16 : Int32))) 1 (f_clamp p2 (1 : Int32) (32 : Int32))) 2 (f_clamp p3 (1 : Int32) (64 : Int32))) 3 (0 : Int32)) 4 (0 : Int32)) 5 (0 : Int32)) 6 (1 : Int32)) 7 (4 : Int32)) 8 (0 : Int32)) 9 (0 : Int32)) 10 (-1 : Int32)), (fun _ => 0), (fun _ _ => 0), (fun _ _ => 0))) :
    Wk l Z (MoC Z cdC) md_init 0 [.val (.ref 0), .val (.int p1), .val (.int p2), .val (.int p3)] [] (0, (fun _ => 0), (fun _ => 0), (fun _ _ => 0), (fun _ _ => 0)) 0 0 Q := by
  refine Wk.aloadN o_init_0 rfl ?_
  refine Wk.initO (H.w 6 rfl) (H.w 7 rfl) (H.w 8 rfl) o_init_1 rfl (by decide) (by decide) ?_
  refine Wk.aloadN o_init_4 rfl ?_
  refine Wk.sipush o_init_5 (z := (256 : Int32)) (by decide) ?_
  refine Wk.newA (coC H) (aty := .boolean) rfl (wa_boolean H) (mA_adj) (wf_adj H) (Or.inr ⟨wy_adj H, rfl⟩) o_init_8 o_init_10 rfl rfl (k' := 1) rfl (cu' := 1) rfl (su' := 256) rfl (by decide) (by decide) (by decide) ?_
  refine Wk.aloadN o_init_13 rfl ?_
  refine Wk.bipush o_init_14 (z := (16 : Int32)) (by decide) ?_
  refine Wk.newA (coC H) (aty := .boolean) rfl (wa_boolean H) (mA_seed) (wf_seed H) (Or.inr ⟨wy_seed H, rfl⟩) o_init_16 o_init_18 rfl rfl (k' := 2) rfl (cu' := 2) rfl (su' := 272) rfl (by decide) (by decide) (by decide) ?_
  refine Wk.aloadN o_init_21 rfl ?_
  refine Wk.bipush o_init_22 (z := (64 : Int32)) (by decide) ?_
  refine Wk.newA (coC H) (aty := .int) rfl (wa_int H) (mA_rowNodeA) (wf_rowNodeA H) (Or.inr ⟨wy_rowNodeA H, rfl⟩) o_init_24 o_init_26 rfl rfl (k' := 3) rfl (cu' := 3) rfl (su' := 336) rfl (by decide) (by decide) (by decide) ?_
  refine Wk.aloadN o_init_29 rfl ?_
  refine Wk.bipush o_init_30 (z := (64 : Int32)) (by decide) ?_
  refine Wk.newA (coC H) (aty := .int) rfl (wa_int H) (mA_rowDepthA) (wf_rowDepthA H) (Or.inr ⟨wy_rowDepthA H, rfl⟩) o_init_32 o_init_34 rfl rfl (k' := 4) rfl (cu' := 4) rfl (su' := 400) rfl (by decide) (by decide) (by decide) ?_
  refine Wk.aloadN o_init_37 rfl ?_
  refine Wk.bipush o_init_38 (z := (64 : Int32)) (by decide) ?_
  refine Wk.newA (coC H) (aty := .boolean) rfl (wa_boolean H) (mA_rowCycA) (wf_rowCycA H) (Or.inr ⟨wy_rowCycA H, rfl⟩) o_init_40 o_init_42 rfl rfl (k' := 5) rfl (cu' := 5) rfl (su' := 464) rfl (by decide) (by decide) (by decide) ?_
  refine Wk.aloadN o_init_45 rfl ?_
  refine Wk.sipush o_init_46 (z := (1024 : Int32)) (by decide) ?_
  refine Wk.newA (coC H) (aty := .int) rfl (wa_int H) (mA_rowPathA) (wf_rowPathA H) (Or.inr ⟨wy_rowPathA H, rfl⟩) o_init_49 o_init_51 rfl rfl (k' := 6) rfl (cu' := 6) rfl (su' := 1488) rfl (by decide) (by decide) (by decide) ?_
  refine Wk.aloadN o_init_54 rfl ?_
  refine Wk.bipush o_init_55 (z := (16 : Int32)) (by decide) ?_
  refine Wk.newA (coC H) (aty := .int) rfl (wa_int H) (mA_stkNode) (wf_stkNode H) (Or.inr ⟨wy_stkNode H, rfl⟩) o_init_57 o_init_59 rfl rfl (k' := 7) rfl (cu' := 7) rfl (su' := 1504) rfl (by decide) (by decide) (by decide) ?_
  refine Wk.aloadN o_init_62 rfl ?_
  refine Wk.bipush o_init_63 (z := (16 : Int32)) (by decide) ?_
  refine Wk.newA (coC H) (aty := .int) rfl (wa_int H) (mA_stkNext) (wf_stkNext H) (Or.inr ⟨wy_stkNext H, rfl⟩) o_init_65 o_init_67 rfl rfl (k' := 8) rfl (cu' := 8) rfl (su' := 1520) rfl (by decide) (by decide) (by decide) ?_
  refine Wk.aloadN o_init_70 rfl ?_
  refine Wk.bipush o_init_71 (z := (16 : Int32)) (by decide) ?_
  refine Wk.newA (coC H) (aty := .boolean) rfl (wa_boolean H) (mA_stkCyc) (wf_stkCyc H) (Or.inr ⟨wy_stkCyc H, rfl⟩) o_init_73 o_init_75 rfl rfl (k' := 9) rfl (cu' := 9) rfl (su' := 1536) rfl (by decide) (by decide) (by decide) ?_
  refine Wk.aloadN o_init_78 rfl ?_
  refine Wk.bipush o_init_79 (z := (16 : Int32)) (by decide) ?_
  refine Wk.newA (coC H) (aty := .boolean) rfl (wa_boolean H) (mA_found) (wf_found H) (Or.inr ⟨wy_found H, rfl⟩) o_init_81 o_init_83 rfl rfl (k' := 10) rfl (cu' := 10) rfl (su' := 1552) rfl (by decide) (by decide) (by decide) ?_
  refine Wk.aloadN o_init_86 rfl ?_
  refine Wk.aloadN o_init_87 rfl ?_
  refine Wk.iloadN o_init_88 rfl ?_
  refine Wk.iconst o_init_89 (z := (2 : Int32)) (by decide) ?_
  refine Wk.bipush o_init_90 (z := (16 : Int32)) (by decide) ?_
  refine Wk.callF [.int p1, .int (2 : Int32), .int (16 : Int32)] [.ref 0] (H.w 31 rfl) (cv_clamp H) o_init_92 (run_clamp H (fun _ => 0) (fun _ => 0) (fun _ _ => 0) (fun _ _ => 0) p1 (2 : Int32) (16 : Int32)) (wt := 1) (cu' := 10) (su' := 1552) (by decide) rfl rfl rfl rfl rfl rfl rfl ?_
  refine Wk.putI (coC H) (mI_maxNodes) (wf_maxNodes H) (Or.inl (wy_maxNodes H)) o_init_95 ?_
  refine Wk.aloadN o_init_98 rfl ?_
  refine Wk.aloadN o_init_99 rfl ?_
  refine Wk.iloadN o_init_100 rfl ?_
  refine Wk.iconst o_init_101 (z := (1 : Int32)) (by decide) ?_
  refine Wk.bipush o_init_102 (z := (32 : Int32)) (by decide) ?_
  refine Wk.callF [.int p2, .int (1 : Int32), .int (32 : Int32)] [.ref 0] (H.w 31 rfl) (cv_clamp H) o_init_104 (run_clamp H (ups (fun _ => 0) 0 (f_clamp p1 (2 : Int32) (16 : Int32))) (fun _ => 0) (fun _ _ => 0) (fun _ _ => 0) p2 (1 : Int32) (32 : Int32)) (wt := 1) (cu' := 10) (su' := 1552) (by decide) rfl rfl rfl rfl rfl rfl rfl ?_
  refine Wk.putI (coC H) (mI_maxEdges) (wf_maxEdges H) (Or.inl (wy_maxEdges H)) o_init_107 ?_
  refine Wk.aloadN o_init_110 rfl ?_
  refine Wk.aloadN o_init_111 rfl ?_
  refine Wk.iloadN o_init_112 rfl ?_
  refine Wk.iconst o_init_113 (z := (1 : Int32)) (by decide) ?_
  refine Wk.bipush o_init_114 (z := (64 : Int32)) (by decide) ?_
  refine Wk.callF [.int p3, .int (1 : Int32), .int (64 : Int32)] [.ref 0] (H.w 31 rfl) (cv_clamp H) o_init_116 (run_clamp H (ups (ups (fun _ => 0) 0 (f_clamp p1 (2 : Int32) (16 : Int32))) 1 (f_clamp p2 (1 : Int32) (32 : Int32))) (fun _ => 0) (fun _ _ => 0) (fun _ _ => 0) p3 (1 : Int32) (64 : Int32)) (wt := 1) (cu' := 10) (su' := 1552) (by decide) rfl rfl rfl rfl rfl rfl rfl ?_
  refine Wk.putI (coC H) (mI_rowLimit) (wf_rowLimit H) (Or.inl (wy_rowLimit H)) o_init_119 ?_
  refine Wk.aloadN o_init_122 rfl ?_
  refine Wk.iconst o_init_123 (z := (0 : Int32)) (by decide) ?_
  refine Wk.putI (coC H) (mI_edges) (wf_edges H) (Or.inl (wy_edges H)) o_init_124 ?_
  refine Wk.aloadN o_init_127 rfl ?_
  refine Wk.iconst o_init_128 (z := (0 : Int32)) (by decide) ?_
  refine Wk.putI (coC H) (mI_kind) (wf_kind H) (Or.inl (wy_kind H)) o_init_129 ?_
  refine Wk.aloadN o_init_132 rfl ?_
  refine Wk.iconst o_init_133 (z := (0 : Int32)) (by decide) ?_
  refine Wk.putI (coC H) (mI_search) (wf_search H) (Or.inl (wy_search H)) o_init_134 ?_
  refine Wk.aloadN o_init_137 rfl ?_
  refine Wk.iconst o_init_138 (z := (1 : Int32)) (by decide) ?_
  refine Wk.putZ (coC H) (y := (1 : Int32)) (by decide) (mI_cycle) (wf_cycle H) (Or.inl (wy_cycle H)) o_init_139 ?_
  refine Wk.aloadN o_init_142 rfl ?_
  refine Wk.iconst o_init_143 (z := (4 : Int32)) (by decide) ?_
  refine Wk.putI (coC H) (mI_maxDepth) (wf_maxDepth H) (Or.inl (wy_maxDepth H)) o_init_144 ?_
  refine Wk.aloadN o_init_147 rfl ?_
  refine Wk.iconst o_init_148 (z := (0 : Int32)) (by decide) ?_
  refine Wk.putI (coC H) (mI_status) (wf_status H) (Or.inl (wy_status H)) o_init_149 ?_
  refine Wk.aloadN o_init_152 rfl ?_
  refine Wk.iconst o_init_153 (z := (0 : Int32)) (by decide) ?_
  refine Wk.putI (coC H) (mI_count) (wf_count H) (Or.inl (wy_count H)) o_init_154 ?_
  refine Wk.aloadN o_init_157 rfl ?_
  refine Wk.iconst o_init_158 (z := (-1 : Int32)) (by decide) ?_
  refine Wk.putI (coC H) (mI_top) (wf_top H) (Or.inl (wy_top H)) o_init_159 ?_
  exact Wk.ret mrC rfl o_init_162 rfl (by decide) (by decide) h1

def F_init (p1 : Int32) (p2 : Int32) (p3 : Int32) : Nat → Int32 := (ups (ups (ups (ups (ups (ups (ups (ups (ups (ups (ups (fun _ => 0) 0 (f_clamp p1 (2 : Int32) (16 : Int32))) 1 (f_clamp p2 (1 : Int32) (32 : Int32))) 2 (f_clamp p3 (1 : Int32) (64 : Int32))) 3 (0 : Int32)) 4 (0 : Int32)) 5 (0 : Int32)) 6 (1 : Int32)) 7 (4 : Int32)) 8 (0 : Int32)) 9 (0 : Int32)) 10 (-1 : Int32))
theorem eF_init (p1 : Int32) (p2 : Int32) (p3 : Int32) : F_init p1 p2 p3 = (ups (ups (ups (ups (ups (ups (ups (ups (ups (ups (ups (fun _ => 0) 0 (f_clamp p1 (2 : Int32) (16 : Int32))) 1 (f_clamp p2 (1 : Int32) (32 : Int32))) 2 (f_clamp p3 (1 : Int32) (64 : Int32))) 3 (0 : Int32)) 4 (0 : Int32)) 5 (0 : Int32)) 6 (1 : Int32)) 7 (4 : Int32)) 8 (0 : Int32)) 9 (0 : Int32)) 10 (-1 : Int32)) := Eq.trans rfl rfl
theorem F_init_0 (p1 : Int32) (p2 : Int32) (p3 : Int32) : F_init p1 p2 p3 0 = (f_clamp p1 (2 : Int32) (16 : Int32)) := by
  exact Eq.trans rfl rfl
theorem F_init_1 (p1 : Int32) (p2 : Int32) (p3 : Int32) : F_init p1 p2 p3 1 = (f_clamp p2 (1 : Int32) (32 : Int32)) := by
  exact Eq.trans rfl rfl
theorem F_init_2 (p1 : Int32) (p2 : Int32) (p3 : Int32) : F_init p1 p2 p3 2 = (f_clamp p3 (1 : Int32) (64 : Int32)) := by
  exact Eq.trans rfl rfl
theorem F_init_3 (p1 : Int32) (p2 : Int32) (p3 : Int32) : F_init p1 p2 p3 3 = (0 : Int32) := by
  exact Eq.trans rfl rfl
theorem F_init_4 (p1 : Int32) (p2 : Int32) (p3 : Int32) : F_init p1 p2 p3 4 = (0 : Int32) := by
  exact Eq.trans rfl rfl
theorem F_init_5 (p1 : Int32) (p2 : Int32) (p3 : Int32) : F_init p1 p2 p3 5 = (0 : Int32) := by
  exact Eq.trans rfl rfl
theorem F_init_6 (p1 : Int32) (p2 : Int32) (p3 : Int32) : F_init p1 p2 p3 6 = (1 : Int32) := by
  exact Eq.trans rfl rfl
theorem F_init_7 (p1 : Int32) (p2 : Int32) (p3 : Int32) : F_init p1 p2 p3 7 = (4 : Int32) := by
  exact Eq.trans rfl rfl
theorem F_init_8 (p1 : Int32) (p2 : Int32) (p3 : Int32) : F_init p1 p2 p3 8 = (0 : Int32) := by
  exact Eq.trans rfl rfl
theorem F_init_9 (p1 : Int32) (p2 : Int32) (p3 : Int32) : F_init p1 p2 p3 9 = (0 : Int32) := by
  exact Eq.trans rfl rfl
theorem F_init_10 (p1 : Int32) (p2 : Int32) (p3 : Int32) : F_init p1 p2 p3 10 = (-1 : Int32) := by
  exact Eq.trans rfl rfl
theorem run_init {l : Launch} {Z : State} {a0 : Array Value} (H : OK Z a0)  (p1 : Int32) (p2 : Int32) (p3 : Int32) :
    Wk l Z (MoC Z cdC) md_init 0 [.val (.ref 0), .val (.int p1), .val (.int p2), .val (.int p3)] [] (0, (fun _ => 0), (fun _ => 0), (fun _ _ => 0), (fun _ _ => 0)) 0 0 (fun v w' => v = none ∧ w' = (10, (F_init p1 p2 p3), (fun _ => 0), (fun _ _ => 0), (fun _ _ => 0))) :=
  wp_init H p1 p2 p3 ⟨rfl, rfl⟩
set_option maxRecDepth 65536 in
set_option maxHeartbeats 4000000 in
theorem wp_inRange {l : Launch} {Z : State} {a0 : Array Value} (H : OK Z a0) (F : Nat → Int32) (G : Nat → Int64) (A : Nat → Int32 → Int32) (B : Nat → Int32 → Int64) (p1 : Int32) {Q : Option Value → WO → Prop} (h5 : Q (some (.int (nar .boolean (if p1 < 0 then (0 : Int32) else (if p1 < (F 0) then (1 : Int32) else (0 : Int32)))))) (10, F, G, A, B)) :
    Wk l Z (MoC Z cdC) md_inRange 0 [.val (.ref 0), .val (.int p1)] [] (10, F, G, A, B) 0 0 Q := by
  refine Wk.iloadN o_inRange_0 rfl ?_
  have J4 : Wk l Z (MoC Z cdC) md_inRange 17 [.val (.ref 0), .val (.int p1)] [.int (if p1 < 0 then (0 : Int32) else (if p1 < (F 0) then (1 : Int32) else (0 : Int32)))] (10, F, G, A, B) 0 0 Q := by
    exact Wk.zreturn mrC rfl o_inRange_17 rfl (by decide) (by decide) (y := (nar .boolean (if p1 < 0 then (0 : Int32) else (if p1 < (F 0) then (1 : Int32) else (0 : Int32))))) rfl h5
  refine Wk.if_lt o_inRange_1 (fun q1 => ?_) (fun q1 => ?_)
  · refine Wk.iconst o_inRange_16 (z := (0 : Int32)) (by decide) ?_
    first | (rw [show ((if p1 < 0 then (0 : Int32) else (if p1 < (F 0) then (1 : Int32) else (0 : Int32))) : Int32) = (0 : Int32) from if_pos q1] at J4; exact J4) | exact J4 | (simp only [if_pos q1] at J4 ⊢; exact J4)
  · refine Wk.iloadN o_inRange_4 rfl ?_
    refine Wk.aloadN o_inRange_5 rfl ?_
    refine Wk.getI (mI_maxNodes) (wf_maxNodes H) o_inRange_6 (x := (F 0)) rfl ?_
    refine Wk.icmp_ge o_inRange_9 (fun q2 => ?_) (fun q2 => ?_)
    · refine Wk.iconst o_inRange_16 (z := (0 : Int32)) (by decide) ?_
      first | (rw [show ((if p1 < 0 then (0 : Int32) else (if p1 < (F 0) then (1 : Int32) else (0 : Int32))) : Int32) = (0 : Int32) from Eq.trans (if_neg q1) <| if_neg q2] at J4; exact J4) | exact J4 | (simp only [if_neg q1, if_neg q2] at J4 ⊢; exact J4)
    · refine Wk.iconst o_inRange_12 (z := (1 : Int32)) (by decide) ?_
      refine Wk.goto o_inRange_13 ?_
      first | (rw [show ((if p1 < 0 then (0 : Int32) else (if p1 < (F 0) then (1 : Int32) else (0 : Int32))) : Int32) = (1 : Int32) from Eq.trans (if_neg q1) <| if_pos q2] at J4; exact J4) | exact J4 | (simp only [if_neg q1, if_pos q2] at J4 ⊢; exact J4)

def f_inRange (F : Nat → Int32) (p1 : Int32) : Int32 := (nar .boolean (if p1 < 0 then (0 : Int32) else (if p1 < (F 0) then (1 : Int32) else (0 : Int32))))
theorem e_inRange (F : Nat → Int32) (p1 : Int32) : f_inRange F p1 = (nar .boolean (if p1 < 0 then (0 : Int32) else (if p1 < (F 0) then (1 : Int32) else (0 : Int32)))) := Eq.trans rfl rfl
theorem bz_inRange (F : Nat → Int32) (p1 : Int32) : nar .boolean (f_inRange F p1) = f_inRange F p1 := by
  unfold f_inRange
  (repeat' split) <;> first | rfl | exact nar_nar _
theorem run_inRange {l : Launch} {Z : State} {a0 : Array Value} (H : OK Z a0) (F : Nat → Int32) (G : Nat → Int64) (A : Nat → Int32 → Int32) (B : Nat → Int32 → Int64) (p1 : Int32) :
    Wk l Z (MoC Z cdC) md_inRange 0 [.val (.ref 0), .val (.int p1)] [] (10, F, G, A, B) 0 0 (fun v w' => v = some (.int (f_inRange F p1)) ∧ w' = (10, F, G, A, B)) :=
  wp_inRange H F G A B p1 ⟨rfl, rfl⟩
set_option maxRecDepth 65536 in
set_option maxHeartbeats 4000000 in
theorem wp_clearResult {l : Launch} {Z : State} {a0 : Array Value} (H : OK Z a0) (F : Nat → Int32) (G : Nat → Int64) (A : Nat → Int32 → Int32) (B : Nat → Int32 → Int64) {Q : Option Value → WO → Prop} (h1 : Q none (10, (ups (ups F 8 (0 : Int32)) 9 (0 : Int32)), G, A, B)) :
    Wk l Z (MoC Z cdC) md_clearResult 0 [.val (.ref 0)] [] (10, F, G, A, B) 0 0 Q := by
  refine Wk.aloadN o_clearResult_0 rfl ?_
  refine Wk.iconst o_clearResult_1 (z := (0 : Int32)) (by decide) ?_
  refine Wk.putI (coC H) (mI_status) (wf_status H) (Or.inl (wy_status H)) o_clearResult_2 ?_
  refine Wk.aloadN o_clearResult_5 rfl ?_
  refine Wk.iconst o_clearResult_6 (z := (0 : Int32)) (by decide) ?_
  refine Wk.putI (coC H) (mI_count) (wf_count H) (Or.inl (wy_count H)) o_clearResult_7 ?_
  exact Wk.ret mrC rfl o_clearResult_10 rfl (by decide) (by decide) h1

def F_clearResult (F : Nat → Int32) : Nat → Int32 := (ups (ups F 8 (0 : Int32)) 9 (0 : Int32))
theorem eF_clearResult (F : Nat → Int32) : F_clearResult F = (ups (ups F 8 (0 : Int32)) 9 (0 : Int32)) := Eq.trans rfl rfl
theorem F_clearResult_0 (F : Nat → Int32) : F_clearResult F 0 = (F 0) := by
  exact Eq.trans rfl rfl
theorem F_clearResult_1 (F : Nat → Int32) : F_clearResult F 1 = (F 1) := by
  exact Eq.trans rfl rfl
theorem F_clearResult_2 (F : Nat → Int32) : F_clearResult F 2 = (F 2) := by
  exact Eq.trans rfl rfl
theorem F_clearResult_3 (F : Nat → Int32) : F_clearResult F 3 = (F 3) := by
  exact Eq.trans rfl rfl
theorem F_clearResult_4 (F : Nat → Int32) : F_clearResult F 4 = (F 4) := by
  exact Eq.trans rfl rfl
theorem F_clearResult_5 (F : Nat → Int32) : F_clearResult F 5 = (F 5) := by
  exact Eq.trans rfl rfl
theorem F_clearResult_6 (F : Nat → Int32) : F_clearResult F 6 = (F 6) := by
  exact Eq.trans rfl rfl
theorem F_clearResult_7 (F : Nat → Int32) : F_clearResult F 7 = (F 7) := by
  exact Eq.trans rfl rfl
theorem F_clearResult_8 (F : Nat → Int32) : F_clearResult F 8 = (0 : Int32) := by
  exact Eq.trans rfl rfl
theorem F_clearResult_9 (F : Nat → Int32) : F_clearResult F 9 = (0 : Int32) := by
  exact Eq.trans rfl rfl
theorem F_clearResult_10 (F : Nat → Int32) : F_clearResult F 10 = (F 10) := by
  exact Eq.trans rfl rfl
theorem run_clearResult {l : Launch} {Z : State} {a0 : Array Value} (H : OK Z a0) (F : Nat → Int32) (G : Nat → Int64) (A : Nat → Int32 → Int32) (B : Nat → Int32 → Int64) :
    Wk l Z (MoC Z cdC) md_clearResult 0 [.val (.ref 0)] [] (10, F, G, A, B) 0 0 (fun v w' => v = none ∧ w' = (10, (F_clearResult F), G, A, B)) :=
  wp_clearResult H F G A B ⟨rfl, rfl⟩
set_option maxRecDepth 65536 in
set_option maxHeartbeats 4000000 in
theorem wp_addEdge {l : Launch} {Z : State} {a0 : Array Value} (H : OK Z a0) (F : Nat → Int32) (G : Nat → Int64) (A : Nat → Int32 → Int32) (B : Nat → Int32 → Int64) (p1 : Int32) (p2 : Int32) {Q : Option Value → WO → Prop} (s3 : ¬ (f_inRange F p1) = 0 → ¬ (f_inRange F p2) = 0 → ¬ ((p1 * (16 : Int32)) + p2) < 0) (s4 : ¬ (f_inRange F p1) = 0 → ¬ (f_inRange F p2) = 0 → ((p1 * (16 : Int32)) + p2) < (256 : Int32)) (s7 : ¬ (f_inRange F p1) = 0 → ¬ (f_inRange F p2) = 0 → ((A 0) ((p1 * (16 : Int32)) + p2)) = 0 → (F 3) < (F 1) → ¬ ((p1 * (16 : Int32)) + p2) < 0) (s8 : ¬ (f_inRange F p1) = 0 → ¬ (f_inRange F p2) = 0 → ((A 0) ((p1 * (16 : Int32)) + p2)) = 0 → (F 3) < (F 1) → ((p1 * (16 : Int32)) + p2) < (256 : Int32)) (h9 : ¬ (f_inRange F p1) = 0 → ¬ (f_inRange F p2) = 0 → ((A 0) ((p1 * (16 : Int32)) + p2)) = 0 → (F 3) < (F 1) → Q (some (.int (0 : Int32))) (10, (F_clearResult (ups F 3 ((F 3) + (1 : Int32)))), G, (ups A 0 (ups (A 0) ((p1 * (16 : Int32)) + p2) (1 : Int32))), B)) (h10 : ¬ (f_inRange F p1) = 0 → ¬ (f_inRange F p2) = 0 → ((A 0) ((p1 * (16 : Int32)) + p2)) = 0 → ¬ (F 3) < (F 1) → Q (some (.int (-4 : Int32))) (10, F, G, A, B)) (h11 : ¬ (f_inRange F p1) = 0 → ¬ (f_inRange F p2) = 0 → ¬ ((A 0) ((p1 * (16 : Int32)) + p2)) = 0 → Q (some (.int (-2 : Int32))) (10, F, G, A, B)) (h12 : ¬ (f_inRange F p1) = 0 → (f_inRange F p2) = 0 → Q (some (.int (-1 : Int32))) (10, F, G, A, B)) (h13 : (f_inRange F p1) = 0 → Q (some (.int (-1 : Int32))) (10, F, G, A, B)) :
    Wk l Z (MoC Z cdC) md_addEdge 0 [.val (.ref 0), .val (.int p1), .val (.int p2)] [] (10, F, G, A, B) 0 0 Q := by
  refine Wk.aloadN o_addEdge_0 rfl ?_
  refine Wk.iloadN o_addEdge_1 rfl ?_
  refine Wk.callF [.int p1] [] (H.w 62 rfl) (cv_inRange H) o_addEdge_2 (run_inRange H F G A B p1) (wt := 0) (cu' := 0) (su' := 0) (by decide) rfl rfl rfl rfl rfl rfl rfl ?_
  refine Wk.if_ne o_addEdge_5 (fun q1 => ?_) (fun q1 => ?_)
  · refine Wk.aloadN o_addEdge_10 rfl ?_
    refine Wk.iloadN o_addEdge_11 rfl ?_
    refine Wk.callF [.int p2] [] (H.w 62 rfl) (cv_inRange H) o_addEdge_12 (run_inRange H F G A B p2) (wt := 0) (cu' := 0) (su' := 0) (by decide) rfl rfl rfl rfl rfl rfl rfl ?_
    refine Wk.if_ne o_addEdge_15 (fun q2 => ?_) (fun q2 => ?_)
    · refine Wk.aloadN o_addEdge_20 rfl ?_
      refine Wk.getA (mA_adj) (by decide) (i' := 1) rfl (wf_adj H) o_addEdge_21 ?_
      refine Wk.iloadN o_addEdge_24 rfl ?_
      refine Wk.bipush o_addEdge_25 (z := (16 : Int32)) (by decide) ?_
      refine Wk.imul o_addEdge_27 ?_
      refine Wk.iloadN o_addEdge_28 rfl ?_
      refine Wk.iadd o_addEdge_29 ?_
      refine Wk.baload (mA_adj) (by decide) (i' := 1) rfl (s3 q1 q2) (s4 q1 q2) o_addEdge_30 (y := ((A 0) ((p1 * (16 : Int32)) + p2))) rfl ?_
      refine Wk.if_eq o_addEdge_31 (fun q5 => ?_) (fun q5 => ?_)
      · refine Wk.aloadN o_addEdge_37 rfl ?_
        refine Wk.getI (mI_edges) (wf_edges H) o_addEdge_38 (x := (F 3)) rfl ?_
        refine Wk.aloadN o_addEdge_41 rfl ?_
        refine Wk.getI (mI_maxEdges) (wf_maxEdges H) o_addEdge_42 (x := (F 1)) rfl ?_
        refine Wk.icmp_lt o_addEdge_45 (fun q6 => ?_) (fun q6 => ?_)
        · refine Wk.aloadN o_addEdge_51 rfl ?_
          refine Wk.getA (mA_adj) (by decide) (i' := 1) rfl (wf_adj H) o_addEdge_52 ?_
          refine Wk.iloadN o_addEdge_55 rfl ?_
          refine Wk.bipush o_addEdge_56 (z := (16 : Int32)) (by decide) ?_
          refine Wk.imul o_addEdge_58 ?_
          refine Wk.iloadN o_addEdge_59 rfl ?_
          refine Wk.iadd o_addEdge_60 ?_
          refine Wk.iconst o_addEdge_61 (z := (1 : Int32)) (by decide) ?_
          refine Wk.bastore (coC H) (f := (A 0)) (v' := (1 : Int32)) (by decide) (mA_adj) rfl (by decide) (i' := 1) rfl (s7 q1 q2 q5 q6) (s8 q1 q2 q5 q6) o_addEdge_62 ?_
          refine Wk.aloadN o_addEdge_63 rfl ?_
          refine Wk.dup o_addEdge_64 rfl ?_
          refine Wk.getI (mI_edges) (wf_edges H) o_addEdge_65 (x := (F 3)) rfl ?_
          refine Wk.iconst o_addEdge_68 (z := (1 : Int32)) (by decide) ?_
          refine Wk.iadd o_addEdge_69 ?_
          refine Wk.putI (coC H) (mI_edges) (wf_edges H) (Or.inl (wy_edges H)) o_addEdge_70 ?_
          refine Wk.aloadN o_addEdge_73 rfl ?_
          refine Wk.callU [] [] (H.w 66 rfl) (cv_clearResult H) o_addEdge_74 (run_clearResult H (ups F 3 ((F 3) + (1 : Int32))) G (ups A 0 (ups (A 0) ((p1 * (16 : Int32)) + p2) (1 : Int32))) B) (wt := 0) (cu' := 0) (su' := 0) (by decide) rfl rfl rfl rfl rfl rfl rfl ?_
          refine Wk.iconst o_addEdge_77 (z := (0 : Int32)) (by decide) ?_
          exact Wk.ireturn mrC rfl o_addEdge_78 rfl (by decide) (by decide) (h9 q1 q2 q5 q6)
        · refine Wk.bipush o_addEdge_48 (z := (-4 : Int32)) (by decide) ?_
          exact Wk.ireturn mrC rfl o_addEdge_50 rfl (by decide) (by decide) (h10 q1 q2 q5 q6)
      · refine Wk.bipush o_addEdge_34 (z := (-2 : Int32)) (by decide) ?_
        exact Wk.ireturn mrC rfl o_addEdge_36 rfl (by decide) (by decide) (h11 q1 q2 q5)
    · refine Wk.iconst o_addEdge_18 (z := (-1 : Int32)) (by decide) ?_
      exact Wk.ireturn mrC rfl o_addEdge_19 rfl (by decide) (by decide) (h12 q1 q2)
  · refine Wk.iconst o_addEdge_8 (z := (-1 : Int32)) (by decide) ?_
    exact Wk.ireturn mrC rfl o_addEdge_9 rfl (by decide) (by decide) (h13 q1)

def en_addEdge (F : Nat → Int32) (A : Nat → Int32 → Int32) (p1 : Int32) (p2 : Int32) : Option (Int32 × (Nat → Int32) × (Nat → Int32 → Int32)) := (if (f_inRange F p1) = 0 then some ((-1 : Int32), F, A) else (if (f_inRange F p2) = 0 then some ((-1 : Int32), F, A) else (if (¬ ((p1 * (16 : Int32)) + p2) < 0) ∧ (((p1 * (16 : Int32)) + p2) < (256 : Int32)) then (if ((A 0) ((p1 * (16 : Int32)) + p2)) = 0 then (if (F 3) < (F 1) then (if (¬ ((p1 * (16 : Int32)) + p2) < 0) ∧ (((p1 * (16 : Int32)) + p2) < (256 : Int32)) then some ((0 : Int32), (F_clearResult (ups F 3 ((F 3) + (1 : Int32)))), (ups A 0 (ups (A 0) ((p1 * (16 : Int32)) + p2) (1 : Int32)))) else none) else some ((-4 : Int32), F, A)) else some ((-2 : Int32), F, A)) else none)))
theorem een_addEdge (F : Nat → Int32) (A : Nat → Int32 → Int32) (p1 : Int32) (p2 : Int32) : en_addEdge F A p1 p2 = (if (f_inRange F p1) = 0 then some ((-1 : Int32), F, A) else (if (f_inRange F p2) = 0 then some ((-1 : Int32), F, A) else (if (¬ ((p1 * (16 : Int32)) + p2) < 0) ∧ (((p1 * (16 : Int32)) + p2) < (256 : Int32)) then (if ((A 0) ((p1 * (16 : Int32)) + p2)) = 0 then (if (F 3) < (F 1) then (if (¬ ((p1 * (16 : Int32)) + p2) < 0) ∧ (((p1 * (16 : Int32)) + p2) < (256 : Int32)) then some ((0 : Int32), (F_clearResult (ups F 3 ((F 3) + (1 : Int32)))), (ups A 0 (ups (A 0) ((p1 * (16 : Int32)) + p2) (1 : Int32)))) else none) else some ((-4 : Int32), F, A)) else some ((-2 : Int32), F, A)) else none))) := Eq.trans rfl rfl
def R_addEdge (F : Nat → Int32) (A : Nat → Int32 → Int32) (p1 : Int32) (p2 : Int32) : Int32 × (Nat → Int32) × (Nat → Int32 → Int32) := (en_addEdge F A p1 p2).getD (0, (fun _ => 0), (fun _ _ => 0))
theorem eR_addEdge (F : Nat → Int32) (A : Nat → Int32 → Int32) (p1 : Int32) (p2 : Int32) : R_addEdge F A p1 p2 = (en_addEdge F A p1 p2).getD (0, (fun _ => 0), (fun _ _ => 0)) := Eq.trans rfl rfl
set_option maxRecDepth 65536 in
set_option maxHeartbeats 4000000 in
theorem run_addEdge {l : Launch} {Z : State} {a0 : Array Value} (H : OK Z a0) (F : Nat → Int32) (G : Nat → Int64) (A : Nat → Int32 → Int32) (B : Nat → Int32 → Int64) (p1 : Int32) (p2 : Int32) (e1 : (en_addEdge F A p1 p2).isSome = true) :
    Wk l Z (MoC Z cdC) md_addEdge 0 [.val (.ref 0), .val (.int p1), .val (.int p2)] [] (10, F, G, A, B) 0 0 (fun v w' => v = some (.int (R_addEdge F A p1 p2).1) ∧ w' = (10, (R_addEdge F A p1 p2).2.1, G, (R_addEdge F A p1 p2).2.2, B)) := by
  obtain ⟨r, h⟩ := Option.isSome_iff_exists.mp e1
  have e : R_addEdge F A p1 p2 = r := (eR_addEdge F A p1 p2).trans (getD_some h)
  rw [e]
  rw [een_addEdge] at h
  exact wp_addEdge H F G A B p1 p2 (fun q1 q2 => (gd (ifn q2 (ifn q1 h))).1.1) (fun q1 q2 => (gd (ifn q2 (ifn q1 h))).1.2) (fun q1 q2 q5 q6 => (gd (ifp q6 (ifp q5 (gd (ifn q2 (ifn q1 h))).2))).1.1) (fun q1 q2 q5 q6 => (gd (ifp q6 (ifp q5 (gd (ifn q2 (ifn q1 h))).2))).1.2) (fun q1 q2 q5 q6 => (by have e := Option.some.inj (gd (ifp q6 (ifp q5 (gd (ifn q2 (ifn q1 h))).2))).2; subst e; exact ⟨rfl, rfl⟩)) (fun q1 q2 q5 q6 => (by have e := Option.some.inj (ifn q6 (ifp q5 (gd (ifn q2 (ifn q1 h))).2)); subst e; exact ⟨rfl, rfl⟩)) (fun q1 q2 q5 => (by have e := Option.some.inj (ifn q5 (gd (ifn q2 (ifn q1 h))).2); subst e; exact ⟨rfl, rfl⟩)) (fun q1 q2 => (by have e := Option.some.inj (ifp q2 (ifn q1 h)); subst e; exact ⟨rfl, rfl⟩)) (fun q1 => (by have e := Option.some.inj (ifp q1 h); subst e; exact ⟨rfl, rfl⟩))
set_option maxRecDepth 65536 in
set_option maxHeartbeats 4000000 in
theorem wp_addSeed {l : Launch} {Z : State} {a0 : Array Value} (H : OK Z a0) (F : Nat → Int32) (G : Nat → Int64) (A : Nat → Int32 → Int32) (B : Nat → Int32 → Int64) (p1 : Int32) {Q : Option Value → WO → Prop} (s2 : ¬ (f_inRange F p1) = 0 → ¬ p1 < 0) (s3 : ¬ (f_inRange F p1) = 0 → p1 < (16 : Int32)) (s5 : ¬ (f_inRange F p1) = 0 → ((A 1) p1) = 0 → ¬ p1 < 0) (s6 : ¬ (f_inRange F p1) = 0 → ((A 1) p1) = 0 → p1 < (16 : Int32)) (h7 : ¬ (f_inRange F p1) = 0 → ((A 1) p1) = 0 → Q (some (.int (0 : Int32))) (10, (F_clearResult F), G, (ups A 1 (ups (A 1) p1 (1 : Int32))), B)) (h8 : ¬ (f_inRange F p1) = 0 → ¬ ((A 1) p1) = 0 → Q (some (.int (-2 : Int32))) (10, F, G, A, B)) (h9 : (f_inRange F p1) = 0 → Q (some (.int (-1 : Int32))) (10, F, G, A, B)) :
    Wk l Z (MoC Z cdC) md_addSeed 0 [.val (.ref 0), .val (.int p1)] [] (10, F, G, A, B) 0 0 Q := by
  refine Wk.aloadN o_addSeed_0 rfl ?_
  refine Wk.iloadN o_addSeed_1 rfl ?_
  refine Wk.callF [.int p1] [] (H.w 62 rfl) (cv_inRange H) o_addSeed_2 (run_inRange H F G A B p1) (wt := 0) (cu' := 0) (su' := 0) (by decide) rfl rfl rfl rfl rfl rfl rfl ?_
  refine Wk.if_ne o_addSeed_5 (fun q1 => ?_) (fun q1 => ?_)
  · refine Wk.aloadN o_addSeed_10 rfl ?_
    refine Wk.getA (mA_seed) (by decide) (i' := 2) rfl (wf_seed H) o_addSeed_11 ?_
    refine Wk.iloadN o_addSeed_14 rfl ?_
    refine Wk.baload (mA_seed) (by decide) (i' := 2) rfl (s2 q1) (s3 q1) o_addSeed_15 (y := ((A 1) p1)) rfl ?_
    refine Wk.if_eq o_addSeed_16 (fun q4 => ?_) (fun q4 => ?_)
    · refine Wk.aloadN o_addSeed_22 rfl ?_
      refine Wk.getA (mA_seed) (by decide) (i' := 2) rfl (wf_seed H) o_addSeed_23 ?_
      refine Wk.iloadN o_addSeed_26 rfl ?_
      refine Wk.iconst o_addSeed_27 (z := (1 : Int32)) (by decide) ?_
      refine Wk.bastore (coC H) (f := (A 1)) (v' := (1 : Int32)) (by decide) (mA_seed) rfl (by decide) (i' := 2) rfl (s5 q1 q4) (s6 q1 q4) o_addSeed_28 ?_
      refine Wk.aloadN o_addSeed_29 rfl ?_
      refine Wk.callU [] [] (H.w 66 rfl) (cv_clearResult H) o_addSeed_30 (run_clearResult H F G (ups A 1 (ups (A 1) p1 (1 : Int32))) B) (wt := 0) (cu' := 0) (su' := 0) (by decide) rfl rfl rfl rfl rfl rfl rfl ?_
      refine Wk.iconst o_addSeed_33 (z := (0 : Int32)) (by decide) ?_
      exact Wk.ireturn mrC rfl o_addSeed_34 rfl (by decide) (by decide) (h7 q1 q4)
    · refine Wk.bipush o_addSeed_19 (z := (-2 : Int32)) (by decide) ?_
      exact Wk.ireturn mrC rfl o_addSeed_21 rfl (by decide) (by decide) (h8 q1 q4)
  · refine Wk.iconst o_addSeed_8 (z := (-1 : Int32)) (by decide) ?_
    exact Wk.ireturn mrC rfl o_addSeed_9 rfl (by decide) (by decide) (h9 q1)

def en_addSeed (F : Nat → Int32) (A : Nat → Int32 → Int32) (p1 : Int32) : Option (Int32 × (Nat → Int32) × (Nat → Int32 → Int32)) := (if (f_inRange F p1) = 0 then some ((-1 : Int32), F, A) else (if (¬ p1 < 0) ∧ (p1 < (16 : Int32)) then (if ((A 1) p1) = 0 then (if (¬ p1 < 0) ∧ (p1 < (16 : Int32)) then some ((0 : Int32), (F_clearResult F), (ups A 1 (ups (A 1) p1 (1 : Int32)))) else none) else some ((-2 : Int32), F, A)) else none))
theorem een_addSeed (F : Nat → Int32) (A : Nat → Int32 → Int32) (p1 : Int32) : en_addSeed F A p1 = (if (f_inRange F p1) = 0 then some ((-1 : Int32), F, A) else (if (¬ p1 < 0) ∧ (p1 < (16 : Int32)) then (if ((A 1) p1) = 0 then (if (¬ p1 < 0) ∧ (p1 < (16 : Int32)) then some ((0 : Int32), (F_clearResult F), (ups A 1 (ups (A 1) p1 (1 : Int32)))) else none) else some ((-2 : Int32), F, A)) else none)) := Eq.trans rfl rfl
def R_addSeed (F : Nat → Int32) (A : Nat → Int32 → Int32) (p1 : Int32) : Int32 × (Nat → Int32) × (Nat → Int32 → Int32) := (en_addSeed F A p1).getD (0, (fun _ => 0), (fun _ _ => 0))
theorem eR_addSeed (F : Nat → Int32) (A : Nat → Int32 → Int32) (p1 : Int32) : R_addSeed F A p1 = (en_addSeed F A p1).getD (0, (fun _ => 0), (fun _ _ => 0)) := Eq.trans rfl rfl
set_option maxRecDepth 65536 in
set_option maxHeartbeats 4000000 in
theorem run_addSeed {l : Launch} {Z : State} {a0 : Array Value} (H : OK Z a0) (F : Nat → Int32) (G : Nat → Int64) (A : Nat → Int32 → Int32) (B : Nat → Int32 → Int64) (p1 : Int32) (e1 : (en_addSeed F A p1).isSome = true) :
    Wk l Z (MoC Z cdC) md_addSeed 0 [.val (.ref 0), .val (.int p1)] [] (10, F, G, A, B) 0 0 (fun v w' => v = some (.int (R_addSeed F A p1).1) ∧ w' = (10, (R_addSeed F A p1).2.1, G, (R_addSeed F A p1).2.2, B)) := by
  obtain ⟨r, h⟩ := Option.isSome_iff_exists.mp e1
  have e : R_addSeed F A p1 = r := (eR_addSeed F A p1).trans (getD_some h)
  rw [e]
  rw [een_addSeed] at h
  exact wp_addSeed H F G A B p1 (fun q1 => (gd (ifn q1 h)).1.1) (fun q1 => (gd (ifn q1 h)).1.2) (fun q1 q4 => (gd (ifp q4 (gd (ifn q1 h)).2)).1.1) (fun q1 q4 => (gd (ifp q4 (gd (ifn q1 h)).2)).1.2) (fun q1 q4 => (by have e := Option.some.inj (gd (ifp q4 (gd (ifn q1 h)).2)).2; subst e; exact ⟨rfl, rfl⟩)) (fun q1 q4 => (by have e := Option.some.inj (ifn q4 (gd (ifn q1 h)).2); subst e; exact ⟨rfl, rfl⟩)) (fun q1 => (by have e := Option.some.inj (ifp q1 h); subst e; exact ⟨rfl, rfl⟩))
set_option maxRecDepth 65536 in
set_option maxHeartbeats 4000000 in
theorem wp_emitStack {l : Launch} {Z : State} {a0 : Array Value} (H : OK Z a0) (F : Nat → Int32) (G : Nat → Int64) (A : Nat → Int32 → Int32) (B : Nat → Int32 → Int64) {Q : Option Value → WO → Prop} (h2 : ¬ (F 9) < (F 2) → Q (some (.int (0 : Int32))) (10, F, G, A, B)) (h4 : (F 9) < (F 2) → (F 9) < (64 : Int32) → Wk l Z (MoC Z cdC) md_emitStack 32 [.val (.ref 0), .val (.int ((F 9) * (16 : Int32))), .val (.int (0 : Int32))] [] (10, F, G, A, B) 0 0 Q) (h5 : (F 9) < (F 2) → ¬ (F 9) < (64 : Int32) → Q (some (.int (0 : Int32))) (10, F, G, A, B)) :
    Wk l Z (MoC Z cdC) md_emitStack 0 [.val (.ref 0), .unset, .unset] [] (10, F, G, A, B) 0 0 Q := by
  refine Wk.aloadN o_emitStack_0 rfl ?_
  refine Wk.getI (mI_count) (wf_count H) o_emitStack_1 (x := (F 9)) rfl ?_
  refine Wk.aloadN o_emitStack_4 rfl ?_
  refine Wk.getI (mI_rowLimit) (wf_rowLimit H) o_emitStack_5 (x := (F 2)) rfl ?_
  refine Wk.icmp_ge o_emitStack_8 (fun q1 => ?_) (fun q1 => ?_)
  · refine Wk.iconst o_emitStack_20 (z := (0 : Int32)) (by decide) ?_
    exact Wk.zreturn mrC rfl o_emitStack_21 rfl (by decide) (by decide) (y := (0 : Int32)) (by decide) (h2 q1)
  · refine Wk.aloadN o_emitStack_11 rfl ?_
    refine Wk.getI (mI_count) (wf_count H) o_emitStack_12 (x := (F 9)) rfl ?_
    refine Wk.bipush o_emitStack_15 (z := (64 : Int32)) (by decide) ?_
    refine Wk.icmp_lt o_emitStack_17 (fun q3 => ?_) (fun q3 => ?_)
    · refine Wk.aloadN o_emitStack_22 rfl ?_
      refine Wk.getI (mI_count) (wf_count H) o_emitStack_23 (x := (F 9)) rfl ?_
      refine Wk.bipush o_emitStack_26 (z := (16 : Int32)) (by decide) ?_
      refine Wk.imul o_emitStack_28 ?_
      refine Wk.istoreN o_emitStack_29 (Or.inl rfl) (L' := [.val (.ref 0), .val (.int ((F 9) * (16 : Int32))), .unset]) rfl ?_
      refine Wk.iconst o_emitStack_30 (z := (0 : Int32)) (by decide) ?_
      refine Wk.istoreN o_emitStack_31 (Or.inl rfl) (L' := [.val (.ref 0), .val (.int ((F 9) * (16 : Int32))), .val (.int (0 : Int32))]) rfl ?_
      exact (h4 q1 q3)
    · refine Wk.iconst o_emitStack_20 (z := (0 : Int32)) (by decide) ?_
      exact Wk.zreturn mrC rfl o_emitStack_21 rfl (by decide) (by decide) (y := (0 : Int32)) (by decide) (h5 q1 q3)

set_option maxRecDepth 65536 in
set_option maxHeartbeats 4000000 in
theorem wp_emitStack_32 {l : Launch} {Z : State} {a0 : Array Value} (H : OK Z a0) (F : Nat → Int32) (G : Nat → Int64) (A : Nat → Int32 → Int32) (B : Nat → Int32 → Int64) (v1 : Int32) (v2 : Int32) {Q : Option Value → WO → Prop} (s2 : (F 10) < v2 → ¬ (F 10) < 0) (s3 : (F 10) < v2 → (F 10) < (16 : Int32)) (s4 : (F 10) < v2 → ¬ (F 9) < 0) (s5 : (F 10) < v2 → (F 9) < (64 : Int32)) (h6 : (F 10) < v2 → Q (some (.int (1 : Int32))) (10, (ups F 9 ((F 9) + (1 : Int32))), G, (ups (ups (ups A 2 (ups (A 2) (F 9) ((A 6) (F 10)))) 3 (ups (A 3) (F 9) (F 10))) 4 (ups (A 4) (F 9) (nar .boolean ((A 8) (F 10))))), B)) (s8 : ¬ (F 10) < v2 → ¬ v2 < (16 : Int32) → ¬ (F 10) < 0) (s9 : ¬ (F 10) < v2 → ¬ v2 < (16 : Int32) → (F 10) < (16 : Int32)) (s10 : ¬ (F 10) < v2 → ¬ v2 < (16 : Int32) → ¬ (F 9) < 0) (s11 : ¬ (F 10) < v2 → ¬ v2 < (16 : Int32) → (F 9) < (64 : Int32)) (h12 : ¬ (F 10) < v2 → ¬ v2 < (16 : Int32) → Q (some (.int (1 : Int32))) (10, (ups F 9 ((F 9) + (1 : Int32))), G, (ups (ups (ups A 2 (ups (A 2) (F 9) ((A 6) (F 10)))) 3 (ups (A 3) (F 9) (F 10))) 4 (ups (A 4) (F 9) (nar .boolean ((A 8) (F 10))))), B)) (s13 : ¬ (F 10) < v2 → v2 < (16 : Int32) → ¬ v2 < 0) (s14 : ¬ (F 10) < v2 → v2 < (16 : Int32) → ¬ (v1 + v2) < 0) (s15 : ¬ (F 10) < v2 → v2 < (16 : Int32) → (v1 + v2) < (1024 : Int32)) (h16 : ¬ (F 10) < v2 → v2 < (16 : Int32) → Wk l Z (MoC Z cdC) md_emitStack 32 [.val (.ref 0), .val (.int v1), .val (.int (v2 + (1 : Int32)))] [] (10, F, G, (ups A 5 (ups (A 5) (v1 + v2) ((A 6) v2))), B) 0 0 Q) :
    Wk l Z (MoC Z cdC) md_emitStack 32 [.val (.ref 0), .val (.int v1), .val (.int v2)] [] (10, F, G, A, B) 0 0 Q := by
  refine Wk.iloadN o_emitStack_32 rfl ?_
  refine Wk.aloadN o_emitStack_33 rfl ?_
  refine Wk.getI (mI_top) (wf_top H) o_emitStack_34 (x := (F 10)) rfl ?_
  refine Wk.icmp_gt o_emitStack_37 (fun q1 => ?_) (fun q1 => ?_)
  · refine Wk.aloadN o_emitStack_66 rfl ?_
    refine Wk.getA (mA_rowNodeA) (by decide) (i' := 3) rfl (wf_rowNodeA H) o_emitStack_67 ?_
    refine Wk.aloadN o_emitStack_70 rfl ?_
    refine Wk.getI (mI_count) (wf_count H) o_emitStack_71 (x := (F 9)) rfl ?_
    refine Wk.aloadN o_emitStack_74 rfl ?_
    refine Wk.getA (mA_stkNode) (by decide) (i' := 7) rfl (wf_stkNode H) o_emitStack_75 ?_
    refine Wk.aloadN o_emitStack_78 rfl ?_
    refine Wk.getI (mI_top) (wf_top H) o_emitStack_79 (x := (F 10)) rfl ?_
    refine Wk.iaload (mA_stkNode) (by decide) (i' := 7) rfl (s2 q1) (s3 q1) o_emitStack_82 (y := ((A 6) (F 10))) rfl ?_
    refine Wk.iastore (coC H) (f := (A 2)) (mA_rowNodeA) rfl (by decide) (i' := 3) rfl (s4 q1) (s5 q1) o_emitStack_83 ?_
    refine Wk.aloadN o_emitStack_84 rfl ?_
    refine Wk.getA (mA_rowDepthA) (by decide) (i' := 4) rfl (wf_rowDepthA H) o_emitStack_85 ?_
    refine Wk.aloadN o_emitStack_88 rfl ?_
    refine Wk.getI (mI_count) (wf_count H) o_emitStack_89 (x := (F 9)) rfl ?_
    refine Wk.aloadN o_emitStack_92 rfl ?_
    refine Wk.getI (mI_top) (wf_top H) o_emitStack_93 (x := (F 10)) rfl ?_
    refine Wk.iastore (coC H) (f := (A 3)) (mA_rowDepthA) rfl (by decide) (i' := 4) rfl (s4 q1) (s5 q1) o_emitStack_96 ?_
    refine Wk.aloadN o_emitStack_97 rfl ?_
    refine Wk.getA (mA_rowCycA) (by decide) (i' := 5) rfl (wf_rowCycA H) o_emitStack_98 ?_
    refine Wk.aloadN o_emitStack_101 rfl ?_
    refine Wk.getI (mI_count) (wf_count H) o_emitStack_102 (x := (F 9)) rfl ?_
    refine Wk.aloadN o_emitStack_105 rfl ?_
    refine Wk.getA (mA_stkCyc) (by decide) (i' := 9) rfl (wf_stkCyc H) o_emitStack_106 ?_
    refine Wk.aloadN o_emitStack_109 rfl ?_
    refine Wk.getI (mI_top) (wf_top H) o_emitStack_110 (x := (F 10)) rfl ?_
    refine Wk.baload (mA_stkCyc) (by decide) (i' := 9) rfl (s2 q1) (s3 q1) o_emitStack_113 (y := ((A 8) (F 10))) rfl ?_
    refine Wk.bastore (coC H) (f := (A 4)) (v' := (nar .boolean ((A 8) (F 10)))) rfl (mA_rowCycA) rfl (by decide) (i' := 5) rfl (s4 q1) (s5 q1) o_emitStack_114 ?_
    refine Wk.aloadN o_emitStack_115 rfl ?_
    refine Wk.dup o_emitStack_116 rfl ?_
    refine Wk.getI (mI_count) (wf_count H) o_emitStack_117 (x := (F 9)) rfl ?_
    refine Wk.iconst o_emitStack_120 (z := (1 : Int32)) (by decide) ?_
    refine Wk.iadd o_emitStack_121 ?_
    refine Wk.putI (coC H) (mI_count) (wf_count H) (Or.inl (wy_count H)) o_emitStack_122 ?_
    refine Wk.iconst o_emitStack_125 (z := (1 : Int32)) (by decide) ?_
    exact Wk.zreturn mrC rfl o_emitStack_126 rfl (by decide) (by decide) (y := (1 : Int32)) (by decide) (h6 q1)
  · refine Wk.iloadN o_emitStack_40 rfl ?_
    refine Wk.bipush o_emitStack_41 (z := (16 : Int32)) (by decide) ?_
    refine Wk.icmp_ge o_emitStack_43 (fun q7 => ?_) (fun q7 => ?_)
    · refine Wk.aloadN o_emitStack_66 rfl ?_
      refine Wk.getA (mA_rowNodeA) (by decide) (i' := 3) rfl (wf_rowNodeA H) o_emitStack_67 ?_
      refine Wk.aloadN o_emitStack_70 rfl ?_
      refine Wk.getI (mI_count) (wf_count H) o_emitStack_71 (x := (F 9)) rfl ?_
      refine Wk.aloadN o_emitStack_74 rfl ?_
      refine Wk.getA (mA_stkNode) (by decide) (i' := 7) rfl (wf_stkNode H) o_emitStack_75 ?_
      refine Wk.aloadN o_emitStack_78 rfl ?_
      refine Wk.getI (mI_top) (wf_top H) o_emitStack_79 (x := (F 10)) rfl ?_
      refine Wk.iaload (mA_stkNode) (by decide) (i' := 7) rfl (s8 q1 q7) (s9 q1 q7) o_emitStack_82 (y := ((A 6) (F 10))) rfl ?_
      refine Wk.iastore (coC H) (f := (A 2)) (mA_rowNodeA) rfl (by decide) (i' := 3) rfl (s10 q1 q7) (s11 q1 q7) o_emitStack_83 ?_
      refine Wk.aloadN o_emitStack_84 rfl ?_
      refine Wk.getA (mA_rowDepthA) (by decide) (i' := 4) rfl (wf_rowDepthA H) o_emitStack_85 ?_
      refine Wk.aloadN o_emitStack_88 rfl ?_
      refine Wk.getI (mI_count) (wf_count H) o_emitStack_89 (x := (F 9)) rfl ?_
      refine Wk.aloadN o_emitStack_92 rfl ?_
      refine Wk.getI (mI_top) (wf_top H) o_emitStack_93 (x := (F 10)) rfl ?_
      refine Wk.iastore (coC H) (f := (A 3)) (mA_rowDepthA) rfl (by decide) (i' := 4) rfl (s10 q1 q7) (s11 q1 q7) o_emitStack_96 ?_
      refine Wk.aloadN o_emitStack_97 rfl ?_
      refine Wk.getA (mA_rowCycA) (by decide) (i' := 5) rfl (wf_rowCycA H) o_emitStack_98 ?_
      refine Wk.aloadN o_emitStack_101 rfl ?_
      refine Wk.getI (mI_count) (wf_count H) o_emitStack_102 (x := (F 9)) rfl ?_
      refine Wk.aloadN o_emitStack_105 rfl ?_
      refine Wk.getA (mA_stkCyc) (by decide) (i' := 9) rfl (wf_stkCyc H) o_emitStack_106 ?_
      refine Wk.aloadN o_emitStack_109 rfl ?_
      refine Wk.getI (mI_top) (wf_top H) o_emitStack_110 (x := (F 10)) rfl ?_
      refine Wk.baload (mA_stkCyc) (by decide) (i' := 9) rfl (s8 q1 q7) (s9 q1 q7) o_emitStack_113 (y := ((A 8) (F 10))) rfl ?_
      refine Wk.bastore (coC H) (f := (A 4)) (v' := (nar .boolean ((A 8) (F 10)))) rfl (mA_rowCycA) rfl (by decide) (i' := 5) rfl (s10 q1 q7) (s11 q1 q7) o_emitStack_114 ?_
      refine Wk.aloadN o_emitStack_115 rfl ?_
      refine Wk.dup o_emitStack_116 rfl ?_
      refine Wk.getI (mI_count) (wf_count H) o_emitStack_117 (x := (F 9)) rfl ?_
      refine Wk.iconst o_emitStack_120 (z := (1 : Int32)) (by decide) ?_
      refine Wk.iadd o_emitStack_121 ?_
      refine Wk.putI (coC H) (mI_count) (wf_count H) (Or.inl (wy_count H)) o_emitStack_122 ?_
      refine Wk.iconst o_emitStack_125 (z := (1 : Int32)) (by decide) ?_
      exact Wk.zreturn mrC rfl o_emitStack_126 rfl (by decide) (by decide) (y := (1 : Int32)) (by decide) (h12 q1 q7)
    · refine Wk.aloadN o_emitStack_46 rfl ?_
      refine Wk.getA (mA_rowPathA) (by decide) (i' := 6) rfl (wf_rowPathA H) o_emitStack_47 ?_
      refine Wk.iloadN o_emitStack_50 rfl ?_
      refine Wk.iloadN o_emitStack_51 rfl ?_
      refine Wk.iadd o_emitStack_52 ?_
      refine Wk.aloadN o_emitStack_53 rfl ?_
      refine Wk.getA (mA_stkNode) (by decide) (i' := 7) rfl (wf_stkNode H) o_emitStack_54 ?_
      refine Wk.iloadN o_emitStack_57 rfl ?_
      refine Wk.iaload (mA_stkNode) (by decide) (i' := 7) rfl (s13 q1 q7) q7 o_emitStack_58 (y := ((A 6) v2)) rfl ?_
      refine Wk.iastore (coC H) (f := (A 5)) (mA_rowPathA) rfl (by decide) (i' := 6) rfl (s14 q1 q7) (s15 q1 q7) o_emitStack_59 ?_
      refine Wk.iinc o_emitStack_60 rfl (z := (v2 + (1 : Int32))) rfl (L' := [.val (.ref 0), .val (.int v1), .val (.int (v2 + (1 : Int32)))]) rfl ?_
      refine Wk.goto o_emitStack_63 ?_
      exact (h16 q1 q7)

def lp_emitStack : Nat → Nat → Int32 → Int32 → (Nat → Int32) → (Nat → Int32 → Int32) → Option (Int32 × (Nat → Int32) × (Nat → Int32 → Int32))
  | 0, _, _, _, _, _ => none
  | n + 1, tag, v1, v2, F, A => if tag = 32 then (if (F 10) < v2 then (if (¬ (F 10) < 0) ∧ ((F 10) < (16 : Int32)) ∧ (¬ (F 9) < 0) ∧ ((F 9) < (64 : Int32)) then some ((1 : Int32), (ups F 9 ((F 9) + (1 : Int32))), (ups (ups (ups A 2 (ups (A 2) (F 9) ((A 6) (F 10)))) 3 (ups (A 3) (F 9) (F 10))) 4 (ups (A 4) (F 9) (nar .boolean ((A 8) (F 10)))))) else none) else (if v2 < (16 : Int32) then (if (¬ v2 < 0) ∧ (¬ (v1 + v2) < 0) ∧ ((v1 + v2) < (1024 : Int32)) then lp_emitStack n 32 v1 (v2 + (1 : Int32)) F (ups A 5 (ups (A 5) (v1 + v2) ((A 6) v2))) else none) else (if (¬ (F 10) < 0) ∧ ((F 10) < (16 : Int32)) ∧ (¬ (F 9) < 0) ∧ ((F 9) < (64 : Int32)) then some ((1 : Int32), (ups F 9 ((F 9) + (1 : Int32))), (ups (ups (ups A 2 (ups (A 2) (F 9) ((A 6) (F 10)))) 3 (ups (A 3) (F 9) (F 10))) 4 (ups (A 4) (F 9) (nar .boolean ((A 8) (F 10)))))) else none))) else none
theorem lp_emitStack_z (tag : Nat) (v1 : Int32) (v2 : Int32) (F : Nat → Int32) (A : Nat → Int32 → Int32) : lp_emitStack 0 tag v1 v2 F A = none := Eq.trans rfl rfl
theorem lp_emitStack_32 (n : Nat) (v1 : Int32) (v2 : Int32) (F : Nat → Int32) (A : Nat → Int32 → Int32) : lp_emitStack (n + 1) 32 v1 v2 F A = (if (F 10) < v2 then (if (¬ (F 10) < 0) ∧ ((F 10) < (16 : Int32)) ∧ (¬ (F 9) < 0) ∧ ((F 9) < (64 : Int32)) then some ((1 : Int32), (ups F 9 ((F 9) + (1 : Int32))), (ups (ups (ups A 2 (ups (A 2) (F 9) ((A 6) (F 10)))) 3 (ups (A 3) (F 9) (F 10))) 4 (ups (A 4) (F 9) (nar .boolean ((A 8) (F 10)))))) else none) else (if v2 < (16 : Int32) then (if (¬ v2 < 0) ∧ (¬ (v1 + v2) < 0) ∧ ((v1 + v2) < (1024 : Int32)) then lp_emitStack n 32 v1 (v2 + (1 : Int32)) F (ups A 5 (ups (A 5) (v1 + v2) ((A 6) v2))) else none) else (if (¬ (F 10) < 0) ∧ ((F 10) < (16 : Int32)) ∧ (¬ (F 9) < 0) ∧ ((F 9) < (64 : Int32)) then some ((1 : Int32), (ups F 9 ((F 9) + (1 : Int32))), (ups (ups (ups A 2 (ups (A 2) (F 9) ((A 6) (F 10)))) 3 (ups (A 3) (F 9) (F 10))) 4 (ups (A 4) (F 9) (nar .boolean ((A 8) (F 10)))))) else none))) := by
  rw [lp_emitStack, if_pos rfl]
set_option maxRecDepth 65536 in
set_option maxHeartbeats 4000000 in
theorem lpw_emitStack {l : Launch} {Z : State} {a0 : Array Value} (H : OK Z a0) (G : Nat → Int64) (B : Nat → Int32 → Int64) : ∀ (n : Nat) (v1 : Int32) (v2 : Int32) (F : Nat → Int32) (A : Nat → Int32 → Int32) (r : Int32 × (Nat → Int32) × (Nat → Int32 → Int32)), (lp_emitStack n 32 v1 v2 F A = some r → Wk l Z (MoC Z cdC) md_emitStack 32 [.val (.ref 0), .val (.int v1), .val (.int v2)] [] (10, F, G, A, B) 0 0 (fun v w' => v = some (.int r.1) ∧ w' = (10, r.2.1, G, r.2.2, B))) := by
  intro n
  induction n with
  | zero =>
    intro v1 v2 F A r
    exact (fun h => by rw [lp_emitStack_z] at h; cases h)
  | succ n ih =>
    intro v1 v2 F A r
    refine fun h => ?_
    · rw [lp_emitStack_32] at h
      exact wp_emitStack_32 H F G A B v1 v2 (fun q1 => (gd (ifp q1 h)).1.1) (fun q1 => (gd (ifp q1 h)).1.2.1) (fun q1 => (gd (ifp q1 h)).1.2.2.1) (fun q1 => (gd (ifp q1 h)).1.2.2.2) (fun q1 => (by have e := Option.some.inj (gd (ifp q1 h)).2; subst e; exact ⟨rfl, rfl⟩)) (fun q1 q7 => (gd (ifn q7 (ifn q1 h))).1.1) (fun q1 q7 => (gd (ifn q7 (ifn q1 h))).1.2.1) (fun q1 q7 => (gd (ifn q7 (ifn q1 h))).1.2.2.1) (fun q1 q7 => (gd (ifn q7 (ifn q1 h))).1.2.2.2) (fun q1 q7 => (by have e := Option.some.inj (gd (ifn q7 (ifn q1 h))).2; subst e; exact ⟨rfl, rfl⟩)) (fun q1 q7 => (gd (ifp q7 (ifn q1 h))).1.1) (fun q1 q7 => (gd (ifp q7 (ifn q1 h))).1.2.1) (fun q1 q7 => (gd (ifp q7 (ifn q1 h))).1.2.2) (fun q1 q7 => (ih _ _ _ _ _) (gd (ifp q7 (ifn q1 h))).2)
def en_emitStack (F : Nat → Int32) (A : Nat → Int32 → Int32) : Option (Int32 × (Nat → Int32) × (Nat → Int32 → Int32)) := (if (F 9) < (F 2) then (if (F 9) < (64 : Int32) then lp_emitStack 1000 32 ((F 9) * (16 : Int32)) (0 : Int32) F A else some ((0 : Int32), F, A)) else some ((0 : Int32), F, A))
theorem een_emitStack (F : Nat → Int32) (A : Nat → Int32 → Int32) : en_emitStack F A  = (if (F 9) < (F 2) then (if (F 9) < (64 : Int32) then lp_emitStack 1000 32 ((F 9) * (16 : Int32)) (0 : Int32) F A else some ((0 : Int32), F, A)) else some ((0 : Int32), F, A)) := Eq.trans rfl rfl
def R_emitStack (F : Nat → Int32) (A : Nat → Int32 → Int32) : Int32 × (Nat → Int32) × (Nat → Int32 → Int32) := (en_emitStack F A ).getD (0, (fun _ => 0), (fun _ _ => 0))
theorem eR_emitStack (F : Nat → Int32) (A : Nat → Int32 → Int32) : R_emitStack F A  = (en_emitStack F A ).getD (0, (fun _ => 0), (fun _ _ => 0)) := Eq.trans rfl rfl
set_option maxRecDepth 65536 in
set_option maxHeartbeats 4000000 in
theorem run_emitStack {l : Launch} {Z : State} {a0 : Array Value} (H : OK Z a0) (F : Nat → Int32) (G : Nat → Int64) (A : Nat → Int32 → Int32) (B : Nat → Int32 → Int64) (e1 : (en_emitStack F A ).isSome = true) :
    Wk l Z (MoC Z cdC) md_emitStack 0 [.val (.ref 0), .unset, .unset] [] (10, F, G, A, B) 0 0 (fun v w' => v = some (.int (R_emitStack F A ).1) ∧ w' = (10, (R_emitStack F A ).2.1, G, (R_emitStack F A ).2.2, B)) := by
  obtain ⟨r, h⟩ := Option.isSome_iff_exists.mp e1
  have e : R_emitStack F A  = r := (eR_emitStack F A ).trans (getD_some h)
  rw [e]
  rw [een_emitStack] at h
  exact wp_emitStack H F G A B  (fun q1 => (by have e := Option.some.inj (ifn q1 h); subst e; exact ⟨rfl, rfl⟩)) (fun q1 q3 => (lpw_emitStack H G B _ _ _ _ _ _) (ifp q3 (ifp q1 h))) (fun q1 q3 => (by have e := Option.some.inj (ifn q3 (ifp q1 h)); subst e; exact ⟨rfl, rfl⟩))
set_option maxRecDepth 65536 in
set_option maxHeartbeats 4000000 in
theorem wp_nextTarget {l : Launch} {Z : State} {a0 : Array Value} (H : OK Z a0) (F : Nat → Int32) (G : Nat → Int64) (A : Nat → Int32 → Int32) (B : Nat → Int32 → Int64) (p1 : Int32) (p2 : Int32) {Q : Option Value → WO → Prop} (h3 : Wk l Z (MoC Z cdC) md_nextTarget 13 [.val (.ref 0), .val (.int p1), .unset, .unset, .val (.int (if p2 < 0 then (0 : Int32) else p2))] [] (10, F, G, A, B) 0 0 Q) :
    Wk l Z (MoC Z cdC) md_nextTarget 0 [.val (.ref 0), .val (.int p1), .val (.int p2), .unset, .unset] [] (10, F, G, A, B) 0 0 Q := by
  refine Wk.iloadN o_nextTarget_0 rfl ?_
  have J2 : Wk l Z (MoC Z cdC) md_nextTarget 9 [.val (.ref 0), .val (.int p1), .val (.int p2), .unset, .unset] [.int (if p2 < 0 then (0 : Int32) else p2)] (10, F, G, A, B) 0 0 Q := by
    refine Wk.istoreN o_nextTarget_9 (Or.inl rfl) (L' := [.val (.ref 0), .val (.int p1), .val (.int p2), .val (.int (if p2 < 0 then (0 : Int32) else p2)), .unset]) rfl ?_
    refine Wk.iloadN o_nextTarget_10 rfl ?_
    refine Wk.istore o_nextTarget_11 (Or.inl rfl) (L' := [.val (.ref 0), .val (.int p1), .val (.int p2), .val (.int (if p2 < 0 then (0 : Int32) else p2)), .val (.int (if p2 < 0 then (0 : Int32) else p2))]) rfl ?_
    refine Wk.forget [false, false, true, true, false] (L' := [.val (.ref 0), .val (.int p1), .unset, .unset, .val (.int (if p2 < 0 then (0 : Int32) else p2))]) rfl rfl ?_
    exact h3
  refine Wk.if_ge o_nextTarget_1 (fun q1 => ?_) (fun q1 => ?_)
  · refine Wk.iloadN o_nextTarget_8 rfl ?_
    first | (rw [show ((if p2 < 0 then (0 : Int32) else p2) : Int32) = p2 from if_neg q1] at J2; exact J2) | exact J2 | (simp only [if_neg q1] at J2 ⊢; exact J2)
  · refine Wk.iconst o_nextTarget_4 (z := (0 : Int32)) (by decide) ?_
    refine Wk.goto o_nextTarget_5 ?_
    first | (rw [show ((if p2 < 0 then (0 : Int32) else p2) : Int32) = (0 : Int32) from if_pos q1] at J2; exact J2) | exact J2 | (simp only [if_pos q1] at J2 ⊢; exact J2)

set_option maxRecDepth 65536 in
set_option maxHeartbeats 4000000 in
theorem wp_nextTarget_13 {l : Launch} {Z : State} {a0 : Array Value} (H : OK Z a0) (F : Nat → Int32) (G : Nat → Int64) (A : Nat → Int32 → Int32) (B : Nat → Int32 → Int64) (v1 : Int32) (v4 : Int32) {Q : Option Value → WO → Prop} (h2 : ¬ v4 < (F 0) → Q (some (.int (-1 : Int32))) (10, F, G, A, B)) (h4 : v4 < (F 0) → ¬ v4 < (16 : Int32) → Q (some (.int (-1 : Int32))) (10, F, G, A, B)) (s5 : v4 < (F 0) → v4 < (16 : Int32) → ¬ ((v1 * (16 : Int32)) + v4) < 0) (s6 : v4 < (F 0) → v4 < (16 : Int32) → ((v1 * (16 : Int32)) + v4) < (256 : Int32)) (h8 : v4 < (F 0) → v4 < (16 : Int32) → ((A 0) ((v1 * (16 : Int32)) + v4)) = 0 → Wk l Z (MoC Z cdC) md_nextTarget 13 [.val (.ref 0), .val (.int v1), .unset, .unset, .val (.int (v4 + (1 : Int32)))] [] (10, F, G, A, B) 0 0 Q) (h9 : v4 < (F 0) → v4 < (16 : Int32) → ¬ ((A 0) ((v1 * (16 : Int32)) + v4)) = 0 → Q (some (.int v4)) (10, F, G, A, B)) :
    Wk l Z (MoC Z cdC) md_nextTarget 13 [.val (.ref 0), .val (.int v1), .unset, .unset, .val (.int v4)] [] (10, F, G, A, B) 0 0 Q := by
  refine Wk.iload o_nextTarget_13 rfl ?_
  refine Wk.aloadN o_nextTarget_15 rfl ?_
  refine Wk.getI (mI_maxNodes) (wf_maxNodes H) o_nextTarget_16 (x := (F 0)) rfl ?_
  refine Wk.icmp_ge o_nextTarget_19 (fun q1 => ?_) (fun q1 => ?_)
  · refine Wk.iconst o_nextTarget_53 (z := (-1 : Int32)) (by decide) ?_
    exact Wk.ireturn mrC rfl o_nextTarget_54 rfl (by decide) (by decide) (h2 q1)
  · refine Wk.iload o_nextTarget_22 rfl ?_
    refine Wk.bipush o_nextTarget_24 (z := (16 : Int32)) (by decide) ?_
    refine Wk.icmp_ge o_nextTarget_26 (fun q3 => ?_) (fun q3 => ?_)
    · refine Wk.iconst o_nextTarget_53 (z := (-1 : Int32)) (by decide) ?_
      exact Wk.ireturn mrC rfl o_nextTarget_54 rfl (by decide) (by decide) (h4 q1 q3)
    · refine Wk.aloadN o_nextTarget_29 rfl ?_
      refine Wk.getA (mA_adj) (by decide) (i' := 1) rfl (wf_adj H) o_nextTarget_30 ?_
      refine Wk.iloadN o_nextTarget_33 rfl ?_
      refine Wk.bipush o_nextTarget_34 (z := (16 : Int32)) (by decide) ?_
      refine Wk.imul o_nextTarget_36 ?_
      refine Wk.iload o_nextTarget_37 rfl ?_
      refine Wk.iadd o_nextTarget_39 ?_
      refine Wk.baload (mA_adj) (by decide) (i' := 1) rfl (s5 q1 q3) (s6 q1 q3) o_nextTarget_40 (y := ((A 0) ((v1 * (16 : Int32)) + v4))) rfl ?_
      refine Wk.if_eq o_nextTarget_41 (fun q7 => ?_) (fun q7 => ?_)
      · refine Wk.iinc o_nextTarget_47 rfl (z := (v4 + (1 : Int32))) rfl (L' := [.val (.ref 0), .val (.int v1), .unset, .unset, .val (.int (v4 + (1 : Int32)))]) rfl ?_
        refine Wk.goto o_nextTarget_50 ?_
        exact (h8 q1 q3 q7)
      · refine Wk.iload o_nextTarget_44 rfl ?_
        exact Wk.ireturn mrC rfl o_nextTarget_46 rfl (by decide) (by decide) (h9 q1 q3 q7)

def lp_nextTarget : Nat → Nat → Int32 → Int32 → (Nat → Int32) → (Nat → Int32 → Int32) → Option (Int32)
  | 0, _, _, _, _, _ => none
  | n + 1, tag, v1, v4, F, A => if tag = 13 then (if v4 < (F 0) then (if v4 < (16 : Int32) then (if (¬ ((v1 * (16 : Int32)) + v4) < 0) ∧ (((v1 * (16 : Int32)) + v4) < (256 : Int32)) then (if ((A 0) ((v1 * (16 : Int32)) + v4)) = 0 then lp_nextTarget n 13 v1 (v4 + (1 : Int32)) F A else some (v4)) else none) else some ((-1 : Int32))) else some ((-1 : Int32))) else none
theorem lp_nextTarget_z (tag : Nat) (v1 : Int32) (v4 : Int32) (F : Nat → Int32) (A : Nat → Int32 → Int32) : lp_nextTarget 0 tag v1 v4 F A = none := Eq.trans rfl rfl
theorem lp_nextTarget_13 (n : Nat) (v1 : Int32) (v4 : Int32) (F : Nat → Int32) (A : Nat → Int32 → Int32) : lp_nextTarget (n + 1) 13 v1 v4 F A = (if v4 < (F 0) then (if v4 < (16 : Int32) then (if (¬ ((v1 * (16 : Int32)) + v4) < 0) ∧ (((v1 * (16 : Int32)) + v4) < (256 : Int32)) then (if ((A 0) ((v1 * (16 : Int32)) + v4)) = 0 then lp_nextTarget n 13 v1 (v4 + (1 : Int32)) F A else some (v4)) else none) else some ((-1 : Int32))) else some ((-1 : Int32))) := by
  rw [lp_nextTarget, if_pos rfl]
set_option maxRecDepth 65536 in
set_option maxHeartbeats 4000000 in
theorem lpw_nextTarget {l : Launch} {Z : State} {a0 : Array Value} (H : OK Z a0) (F : Nat → Int32) (G : Nat → Int64) (A : Nat → Int32 → Int32) (B : Nat → Int32 → Int64) : ∀ (n : Nat) (v1 : Int32) (v4 : Int32) (r : Int32), (lp_nextTarget n 13 v1 v4 F A = some r → Wk l Z (MoC Z cdC) md_nextTarget 13 [.val (.ref 0), .val (.int v1), .unset, .unset, .val (.int v4)] [] (10, F, G, A, B) 0 0 (fun v w' => v = some (.int r) ∧ w' = (10, F, G, A, B))) := by
  intro n
  induction n with
  | zero =>
    intro v1 v4  r
    exact (fun h => by rw [lp_nextTarget_z] at h; cases h)
  | succ n ih =>
    intro v1 v4  r
    refine fun h => ?_
    · rw [lp_nextTarget_13] at h
      exact wp_nextTarget_13 H F G A B v1 v4 (fun q1 => (by have e := Option.some.inj (ifn q1 h); subst e; exact ⟨rfl, rfl⟩)) (fun q1 q3 => (by have e := Option.some.inj (ifn q3 (ifp q1 h)); subst e; exact ⟨rfl, rfl⟩)) (fun q1 q3 => (gd (ifp q3 (ifp q1 h))).1.1) (fun q1 q3 => (gd (ifp q3 (ifp q1 h))).1.2) (fun q1 q3 q7 => (ih _ _ _) (ifp q7 (gd (ifp q3 (ifp q1 h))).2)) (fun q1 q3 q7 => (by have e := Option.some.inj (ifn q7 (gd (ifp q3 (ifp q1 h))).2); subst e; exact ⟨rfl, rfl⟩))
def en_nextTarget (F : Nat → Int32) (A : Nat → Int32 → Int32) (p1 : Int32) (p2 : Int32) : Option (Int32) := lp_nextTarget 1000 13 p1 (if p2 < 0 then (0 : Int32) else p2) F A
theorem een_nextTarget (F : Nat → Int32) (A : Nat → Int32 → Int32) (p1 : Int32) (p2 : Int32) : en_nextTarget F A p1 p2 = lp_nextTarget 1000 13 p1 (if p2 < 0 then (0 : Int32) else p2) F A := Eq.trans rfl rfl
def R_nextTarget (F : Nat → Int32) (A : Nat → Int32 → Int32) (p1 : Int32) (p2 : Int32) : Int32 := (en_nextTarget F A p1 p2).getD (0)
theorem eR_nextTarget (F : Nat → Int32) (A : Nat → Int32 → Int32) (p1 : Int32) (p2 : Int32) : R_nextTarget F A p1 p2 = (en_nextTarget F A p1 p2).getD (0) := Eq.trans rfl rfl
set_option maxRecDepth 65536 in
set_option maxHeartbeats 4000000 in
theorem run_nextTarget {l : Launch} {Z : State} {a0 : Array Value} (H : OK Z a0) (F : Nat → Int32) (G : Nat → Int64) (A : Nat → Int32 → Int32) (B : Nat → Int32 → Int64) (p1 : Int32) (p2 : Int32) (e1 : (en_nextTarget F A p1 p2).isSome = true) :
    Wk l Z (MoC Z cdC) md_nextTarget 0 [.val (.ref 0), .val (.int p1), .val (.int p2), .unset, .unset] [] (10, F, G, A, B) 0 0 (fun v w' => v = some (.int (R_nextTarget F A p1 p2)) ∧ w' = (10, F, G, A, B)) := by
  obtain ⟨r, h⟩ := Option.isSome_iff_exists.mp e1
  have e : R_nextTarget F A p1 p2 = r := (eR_nextTarget F A p1 p2).trans (getD_some h)
  rw [e]
  rw [een_nextTarget] at h
  exact wp_nextTarget H F G A B p1 p2 ((lpw_nextTarget H F G A B _ _ _ _) h)
set_option maxRecDepth 65536 in
set_option maxHeartbeats 4000000 in
theorem wp_onStack {l : Launch} {Z : State} {a0 : Array Value} (H : OK Z a0) (F : Nat → Int32) (G : Nat → Int64) (A : Nat → Int32 → Int32) (B : Nat → Int32 → Int64) (p1 : Int32) (p2 : Int32) {Q : Option Value → WO → Prop} (h1 : Wk l Z (MoC Z cdC) md_onStack 2 [.val (.ref 0), .val (.int p1), .val (.int p2), .val (.int (0 : Int32))] [] (10, F, G, A, B) 0 0 Q) :
    Wk l Z (MoC Z cdC) md_onStack 0 [.val (.ref 0), .val (.int p1), .val (.int p2), .unset] [] (10, F, G, A, B) 0 0 Q := by
  refine Wk.iconst o_onStack_0 (z := (0 : Int32)) (by decide) ?_
  refine Wk.istoreN o_onStack_1 (Or.inl rfl) (L' := [.val (.ref 0), .val (.int p1), .val (.int p2), .val (.int (0 : Int32))]) rfl ?_
  exact h1

set_option maxRecDepth 65536 in
set_option maxHeartbeats 4000000 in
theorem wp_onStack_2 {l : Launch} {Z : State} {a0 : Array Value} (H : OK Z a0) (F : Nat → Int32) (G : Nat → Int64) (A : Nat → Int32 → Int32) (B : Nat → Int32 → Int64) (v1 : Int32) (v2 : Int32) (v3 : Int32) {Q : Option Value → WO → Prop} (h2 : v2 < v3 → Q (some (.int (0 : Int32))) (10, F, G, A, B)) (h4 : ¬ v2 < v3 → ¬ v3 < (16 : Int32) → Q (some (.int (0 : Int32))) (10, F, G, A, B)) (s5 : ¬ v2 < v3 → v3 < (16 : Int32) → ¬ v3 < 0) (h7 : ¬ v2 < v3 → v3 < (16 : Int32) → ¬ ((A 6) v3) = v1 → Wk l Z (MoC Z cdC) md_onStack 2 [.val (.ref 0), .val (.int v1), .val (.int v2), .val (.int (v3 + (1 : Int32)))] [] (10, F, G, A, B) 0 0 Q) (h8 : ¬ v2 < v3 → v3 < (16 : Int32) → ((A 6) v3) = v1 → Q (some (.int (1 : Int32))) (10, F, G, A, B)) :
    Wk l Z (MoC Z cdC) md_onStack 2 [.val (.ref 0), .val (.int v1), .val (.int v2), .val (.int v3)] [] (10, F, G, A, B) 0 0 Q := by
  refine Wk.iloadN o_onStack_2 rfl ?_
  refine Wk.iloadN o_onStack_3 rfl ?_
  refine Wk.icmp_gt o_onStack_4 (fun q1 => ?_) (fun q1 => ?_)
  · refine Wk.iconst o_onStack_31 (z := (0 : Int32)) (by decide) ?_
    exact Wk.zreturn mrC rfl o_onStack_32 rfl (by decide) (by decide) (y := (0 : Int32)) (by decide) (h2 q1)
  · refine Wk.iloadN o_onStack_7 rfl ?_
    refine Wk.bipush o_onStack_8 (z := (16 : Int32)) (by decide) ?_
    refine Wk.icmp_ge o_onStack_10 (fun q3 => ?_) (fun q3 => ?_)
    · refine Wk.iconst o_onStack_31 (z := (0 : Int32)) (by decide) ?_
      exact Wk.zreturn mrC rfl o_onStack_32 rfl (by decide) (by decide) (y := (0 : Int32)) (by decide) (h4 q1 q3)
    · refine Wk.aloadN o_onStack_13 rfl ?_
      refine Wk.getA (mA_stkNode) (by decide) (i' := 7) rfl (wf_stkNode H) o_onStack_14 ?_
      refine Wk.iloadN o_onStack_17 rfl ?_
      refine Wk.iaload (mA_stkNode) (by decide) (i' := 7) rfl (s5 q1 q3) q3 o_onStack_18 (y := ((A 6) v3)) rfl ?_
      refine Wk.iloadN o_onStack_19 rfl ?_
      refine Wk.icmp_ne o_onStack_20 (fun q6 => ?_) (fun q6 => ?_)
      · refine Wk.iinc o_onStack_25 rfl (z := (v3 + (1 : Int32))) rfl (L' := [.val (.ref 0), .val (.int v1), .val (.int v2), .val (.int (v3 + (1 : Int32)))]) rfl ?_
        refine Wk.goto o_onStack_28 ?_
        exact (h7 q1 q3 q6)
      · refine Wk.iconst o_onStack_23 (z := (1 : Int32)) (by decide) ?_
        exact Wk.zreturn mrC rfl o_onStack_24 rfl (by decide) (by decide) (y := (1 : Int32)) (by decide) (h8 q1 q3 q6)

def lp_onStack : Nat → Nat → Int32 → Int32 → Int32 → (Nat → Int32 → Int32) → Option (Int32)
  | 0, _, _, _, _, _ => none
  | n + 1, tag, v1, v2, v3, A => if tag = 2 then (if v2 < v3 then some ((0 : Int32)) else (if v3 < (16 : Int32) then (if (¬ v3 < 0) then (if ((A 6) v3) = v1 then some ((1 : Int32)) else lp_onStack n 2 v1 v2 (v3 + (1 : Int32)) A) else none) else some ((0 : Int32)))) else none
theorem lp_onStack_z (tag : Nat) (v1 : Int32) (v2 : Int32) (v3 : Int32) (A : Nat → Int32 → Int32) : lp_onStack 0 tag v1 v2 v3 A = none := Eq.trans rfl rfl
theorem lp_onStack_2 (n : Nat) (v1 : Int32) (v2 : Int32) (v3 : Int32) (A : Nat → Int32 → Int32) : lp_onStack (n + 1) 2 v1 v2 v3 A = (if v2 < v3 then some ((0 : Int32)) else (if v3 < (16 : Int32) then (if (¬ v3 < 0) then (if ((A 6) v3) = v1 then some ((1 : Int32)) else lp_onStack n 2 v1 v2 (v3 + (1 : Int32)) A) else none) else some ((0 : Int32)))) := by
  rw [lp_onStack, if_pos rfl]
set_option maxRecDepth 65536 in
set_option maxHeartbeats 4000000 in
theorem lpw_onStack {l : Launch} {Z : State} {a0 : Array Value} (H : OK Z a0) (F : Nat → Int32) (G : Nat → Int64) (A : Nat → Int32 → Int32) (B : Nat → Int32 → Int64) : ∀ (n : Nat) (v1 : Int32) (v2 : Int32) (v3 : Int32) (r : Int32), (lp_onStack n 2 v1 v2 v3 A = some r → Wk l Z (MoC Z cdC) md_onStack 2 [.val (.ref 0), .val (.int v1), .val (.int v2), .val (.int v3)] [] (10, F, G, A, B) 0 0 (fun v w' => v = some (.int r) ∧ w' = (10, F, G, A, B))) := by
  intro n
  induction n with
  | zero =>
    intro v1 v2 v3  r
    exact (fun h => by rw [lp_onStack_z] at h; cases h)
  | succ n ih =>
    intro v1 v2 v3  r
    refine fun h => ?_
    · rw [lp_onStack_2] at h
      exact wp_onStack_2 H F G A B v1 v2 v3 (fun q1 => (by have e := Option.some.inj (ifp q1 h); subst e; exact ⟨rfl, rfl⟩)) (fun q1 q3 => (by have e := Option.some.inj (ifn q3 (ifn q1 h)); subst e; exact ⟨rfl, rfl⟩)) (fun q1 q3 => (gd (ifp q3 (ifn q1 h))).1) (fun q1 q3 q6 => (ih _ _ _ _) (ifn q6 (gd (ifp q3 (ifn q1 h))).2)) (fun q1 q3 q6 => (by have e := Option.some.inj (ifp q6 (gd (ifp q3 (ifn q1 h))).2); subst e; exact ⟨rfl, rfl⟩))
def en_onStack (A : Nat → Int32 → Int32) (p1 : Int32) (p2 : Int32) : Option (Int32) := lp_onStack 1000 2 p1 p2 (0 : Int32) A
theorem een_onStack (A : Nat → Int32 → Int32) (p1 : Int32) (p2 : Int32) : en_onStack A p1 p2 = lp_onStack 1000 2 p1 p2 (0 : Int32) A := Eq.trans rfl rfl
def R_onStack (A : Nat → Int32 → Int32) (p1 : Int32) (p2 : Int32) : Int32 := (en_onStack A p1 p2).getD (0)
theorem eR_onStack (A : Nat → Int32 → Int32) (p1 : Int32) (p2 : Int32) : R_onStack A p1 p2 = (en_onStack A p1 p2).getD (0) := Eq.trans rfl rfl
set_option maxRecDepth 65536 in
set_option maxHeartbeats 4000000 in
theorem run_onStack {l : Launch} {Z : State} {a0 : Array Value} (H : OK Z a0) (F : Nat → Int32) (G : Nat → Int64) (A : Nat → Int32 → Int32) (B : Nat → Int32 → Int64) (p1 : Int32) (p2 : Int32) (e1 : (en_onStack A p1 p2).isSome = true) :
    Wk l Z (MoC Z cdC) md_onStack 0 [.val (.ref 0), .val (.int p1), .val (.int p2), .unset] [] (10, F, G, A, B) 0 0 (fun v w' => v = some (.int (R_onStack A p1 p2)) ∧ w' = (10, F, G, A, B)) := by
  obtain ⟨r, h⟩ := Option.isSome_iff_exists.mp e1
  have e : R_onStack A p1 p2 = r := (eR_onStack A p1 p2).trans (getD_some h)
  rw [e]
  rw [een_onStack] at h
  exact wp_onStack H F G A B p1 p2 ((lpw_onStack H F G A B _ _ _ _ _) h)
set_option maxRecDepth 65536 in
set_option maxHeartbeats 4000000 in
theorem wp_walkFrom {l : Launch} {Z : State} {a0 : Array Value} (H : OK Z a0) (F : Nat → Int32) (G : Nat → Int64) (A : Nat → Int32 → Int32) (B : Nat → Int32 → Int64) (p1 : Int32) {Q : Option Value → WO → Prop} (s1 : (en_emitStack (ups F 10 (0 : Int32)) (ups (ups (ups A 6 (ups (A 6) (0 : Int32) p1)) 7 (ups (A 7) (0 : Int32) (0 : Int32))) 8 (ups (A 8) (0 : Int32) (0 : Int32))) ).isSome = true) (h3 : ¬ (R_emitStack (ups F 10 (0 : Int32)) (ups (ups (ups A 6 (ups (A 6) (0 : Int32) p1)) 7 (ups (A 7) (0 : Int32) (0 : Int32))) 8 (ups (A 8) (0 : Int32) (0 : Int32))) ).1 = 0 → Wk l Z (MoC Z cdC) md_walkFrom 37 [.val (.ref 0), .unset, .val (.int (0 : Int32)), .unset, .unset, .unset] [] (10, (R_emitStack (ups F 10 (0 : Int32)) (ups (ups (ups A 6 (ups (A 6) (0 : Int32) p1)) 7 (ups (A 7) (0 : Int32) (0 : Int32))) 8 (ups (A 8) (0 : Int32) (0 : Int32))) ).2.1, G, (R_emitStack (ups F 10 (0 : Int32)) (ups (ups (ups A 6 (ups (A 6) (0 : Int32) p1)) 7 (ups (A 7) (0 : Int32) (0 : Int32))) 8 (ups (A 8) (0 : Int32) (0 : Int32))) ).2.2, B) 0 0 Q) (h4 : (R_emitStack (ups F 10 (0 : Int32)) (ups (ups (ups A 6 (ups (A 6) (0 : Int32) p1)) 7 (ups (A 7) (0 : Int32) (0 : Int32))) 8 (ups (A 8) (0 : Int32) (0 : Int32))) ).1 = 0 → Q (some (.int (0 : Int32))) (10, (R_emitStack (ups F 10 (0 : Int32)) (ups (ups (ups A 6 (ups (A 6) (0 : Int32) p1)) 7 (ups (A 7) (0 : Int32) (0 : Int32))) 8 (ups (A 8) (0 : Int32) (0 : Int32))) ).2.1, G, (R_emitStack (ups F 10 (0 : Int32)) (ups (ups (ups A 6 (ups (A 6) (0 : Int32) p1)) 7 (ups (A 7) (0 : Int32) (0 : Int32))) 8 (ups (A 8) (0 : Int32) (0 : Int32))) ).2.2, B)) :
    Wk l Z (MoC Z cdC) md_walkFrom 0 [.val (.ref 0), .val (.int p1), .unset, .unset, .unset, .unset] [] (10, F, G, A, B) 0 0 Q := by
  refine Wk.aloadN o_walkFrom_0 rfl ?_
  refine Wk.iconst o_walkFrom_1 (z := (0 : Int32)) (by decide) ?_
  refine Wk.putI (coC H) (mI_top) (wf_top H) (Or.inl (wy_top H)) o_walkFrom_2 ?_
  refine Wk.aloadN o_walkFrom_5 rfl ?_
  refine Wk.getA (mA_stkNode) (by decide) (i' := 7) rfl (wf_stkNode H) o_walkFrom_6 ?_
  refine Wk.iconst o_walkFrom_9 (z := (0 : Int32)) (by decide) ?_
  refine Wk.iloadN o_walkFrom_10 rfl ?_
  refine Wk.iastore (coC H) (f := (A 6)) (mA_stkNode) rfl (by decide) (i' := 7) rfl (by decide) (by decide) o_walkFrom_11 ?_
  refine Wk.aloadN o_walkFrom_12 rfl ?_
  refine Wk.getA (mA_stkNext) (by decide) (i' := 8) rfl (wf_stkNext H) o_walkFrom_13 ?_
  refine Wk.iconst o_walkFrom_16 (z := (0 : Int32)) (by decide) ?_
  refine Wk.iconst o_walkFrom_17 (z := (0 : Int32)) (by decide) ?_
  refine Wk.iastore (coC H) (f := (A 7)) (mA_stkNext) rfl (by decide) (i' := 8) rfl (by decide) (by decide) o_walkFrom_18 ?_
  refine Wk.aloadN o_walkFrom_19 rfl ?_
  refine Wk.getA (mA_stkCyc) (by decide) (i' := 9) rfl (wf_stkCyc H) o_walkFrom_20 ?_
  refine Wk.iconst o_walkFrom_23 (z := (0 : Int32)) (by decide) ?_
  refine Wk.iconst o_walkFrom_24 (z := (0 : Int32)) (by decide) ?_
  refine Wk.bastore (coC H) (f := (A 8)) (v' := (0 : Int32)) (by decide) (mA_stkCyc) rfl (by decide) (i' := 9) rfl (by decide) (by decide) o_walkFrom_25 ?_
  refine Wk.aloadN o_walkFrom_26 rfl ?_
  refine Wk.callF [] [] (H.w 88 rfl) (cv_emitStack H) o_walkFrom_27 (run_emitStack H (ups F 10 (0 : Int32)) G (ups (ups (ups A 6 (ups (A 6) (0 : Int32) p1)) 7 (ups (A 7) (0 : Int32) (0 : Int32))) 8 (ups (A 8) (0 : Int32) (0 : Int32))) B s1) (wt := 0) (cu' := 0) (su' := 0) (by decide) rfl rfl rfl rfl rfl rfl rfl ?_
  refine Wk.if_ne o_walkFrom_30 (fun q2 => ?_) (fun q2 => ?_)
  · refine Wk.iconst o_walkFrom_35 (z := (0 : Int32)) (by decide) ?_
    refine Wk.istoreN o_walkFrom_36 (Or.inl rfl) (L' := [.val (.ref 0), .val (.int p1), .val (.int (0 : Int32)), .unset, .unset, .unset]) rfl ?_
    refine Wk.forget [false, true, false, false, false, false] (L' := [.val (.ref 0), .unset, .val (.int (0 : Int32)), .unset, .unset, .unset]) rfl rfl ?_
    exact (h3 q2)
  · refine Wk.iconst o_walkFrom_33 (z := (0 : Int32)) (by decide) ?_
    exact Wk.zreturn mrC rfl o_walkFrom_34 rfl (by decide) (by decide) (y := (0 : Int32)) (by decide) (h4 q2)

set_option maxRecDepth 65536 in
set_option maxHeartbeats 4000000 in
theorem wp_walkFrom_37 {l : Launch} {Z : State} {a0 : Array Value} (H : OK Z a0) (F : Nat → Int32) (G : Nat → Int64) (A : Nat → Int32 → Int32) (B : Nat → Int32 → Int64) (v2 : Int32) {Q : Option Value → WO → Prop} (h2 : ¬ v2 < (400 : Int32) → Q (some (.int (1 : Int32))) (10, F, G, A, B)) (h4 : v2 < (400 : Int32) → (F 10) < 0 → Q (some (.int (1 : Int32))) (10, F, G, A, B)) (s7 : v2 < (400 : Int32) → ¬ (F 10) < 0 → (F 10) < (F 7) → (F 10) < (15 : Int32) → (F 10) < (16 : Int32)) (s9 : v2 < (400 : Int32) → ¬ (F 10) < 0 → (F 10) < (F 7) → (F 10) < (15 : Int32) → ((A 8) (F 10)) = 0 → (F 10) < (16 : Int32)) (s10 : v2 < (400 : Int32) → ¬ (F 10) < 0 → (F 10) < (F 7) → (F 10) < (15 : Int32) → ((A 8) (F 10)) = 0 → (en_nextTarget F A ((A 6) (F 10)) ((A 7) (F 10))).isSome = true) (s15 : v2 < (400 : Int32) → ¬ (F 10) < 0 → ¬ (if (F 10) < (F 7) then (if (F 10) < (15 : Int32) then (if ((A 8) (F 10)) = 0 then (R_nextTarget F A ((A 6) (F 10)) ((A 7) (F 10))) else (-1 : Int32)) else (-1 : Int32)) else (-1 : Int32)) < 0 → (F 10) < (16 : Int32)) (s17 : v2 < (400 : Int32) → ¬ (F 10) < 0 → ¬ (if (F 10) < (F 7) then (if (F 10) < (15 : Int32) then (if ((A 8) (F 10)) = 0 then (R_nextTarget F A ((A 6) (F 10)) ((A 7) (F 10))) else (-1 : Int32)) else (-1 : Int32)) else (-1 : Int32)) < 0 → ¬ (F 6) = 0 → (en_onStack (ups A 7 (ups (A 7) (F 10) ((if (F 10) < (F 7) then (if (F 10) < (15 : Int32) then (if ((A 8) (F 10)) = 0 then (R_nextTarget F A ((A 6) (F 10)) ((A 7) (F 10))) else (-1 : Int32)) else (-1 : Int32)) else (-1 : Int32)) + (1 : Int32)))) (if (F 10) < (F 7) then (if (F 10) < (15 : Int32) then (if ((A 8) (F 10)) = 0 then (R_nextTarget F A ((A 6) (F 10)) ((A 7) (F 10))) else (-1 : Int32)) else (-1 : Int32)) else (-1 : Int32)) (F 10)).isSome = true) (s21 : v2 < (400 : Int32) → ¬ (F 10) < 0 → ¬ (if (F 10) < (F 7) then (if (F 10) < (15 : Int32) then (if ((A 8) (F 10)) = 0 then (R_nextTarget F A ((A 6) (F 10)) ((A 7) (F 10))) else (-1 : Int32)) else (-1 : Int32)) else (-1 : Int32)) < 0 → ¬ ((F 10) + (1 : Int32)) < 0) (s22 : v2 < (400 : Int32) → ¬ (F 10) < 0 → ¬ (if (F 10) < (F 7) then (if (F 10) < (15 : Int32) then (if ((A 8) (F 10)) = 0 then (R_nextTarget F A ((A 6) (F 10)) ((A 7) (F 10))) else (-1 : Int32)) else (-1 : Int32)) else (-1 : Int32)) < 0 → ((F 10) + (1 : Int32)) < (16 : Int32)) (s23 : v2 < (400 : Int32) → ¬ (F 10) < 0 → ¬ (if (F 10) < (F 7) then (if (F 10) < (15 : Int32) then (if ((A 8) (F 10)) = 0 then (R_nextTarget F A ((A 6) (F 10)) ((A 7) (F 10))) else (-1 : Int32)) else (-1 : Int32)) else (-1 : Int32)) < 0 → (en_emitStack (ups F 10 ((F 10) + (1 : Int32))) (ups (ups (ups (ups A 7 (ups (A 7) (F 10) ((if (F 10) < (F 7) then (if (F 10) < (15 : Int32) then (if ((A 8) (F 10)) = 0 then (R_nextTarget F A ((A 6) (F 10)) ((A 7) (F 10))) else (-1 : Int32)) else (-1 : Int32)) else (-1 : Int32)) + (1 : Int32)))) 6 (ups (A 6) ((F 10) + (1 : Int32)) (if (F 10) < (F 7) then (if (F 10) < (15 : Int32) then (if ((A 8) (F 10)) = 0 then (R_nextTarget F A ((A 6) (F 10)) ((A 7) (F 10))) else (-1 : Int32)) else (-1 : Int32)) else (-1 : Int32)))) 7 (ups (ups (A 7) (F 10) ((if (F 10) < (F 7) then (if (F 10) < (15 : Int32) then (if ((A 8) (F 10)) = 0 then (R_nextTarget F A ((A 6) (F 10)) ((A 7) (F 10))) else (-1 : Int32)) else (-1 : Int32)) else (-1 : Int32)) + (1 : Int32))) ((F 10) + (1 : Int32)) (0 : Int32))) 8 (ups (A 8) ((F 10) + (1 : Int32)) (nar .boolean (if (F 6) = 0 then (0 : Int32) else (if (R_onStack (ups A 7 (ups (A 7) (F 10) ((if (F 10) < (F 7) then (if (F 10) < (15 : Int32) then (if ((A 8) (F 10)) = 0 then (R_nextTarget F A ((A 6) (F 10)) ((A 7) (F 10))) else (-1 : Int32)) else (-1 : Int32)) else (-1 : Int32)) + (1 : Int32)))) (if (F 10) < (F 7) then (if (F 10) < (15 : Int32) then (if ((A 8) (F 10)) = 0 then (R_nextTarget F A ((A 6) (F 10)) ((A 7) (F 10))) else (-1 : Int32)) else (-1 : Int32)) else (-1 : Int32)) (F 10)) = 0 then (0 : Int32) else (1 : Int32)))))) ).isSome = true) (h25 : v2 < (400 : Int32) → ¬ (F 10) < 0 → ¬ (if (F 10) < (F 7) then (if (F 10) < (15 : Int32) then (if ((A 8) (F 10)) = 0 then (R_nextTarget F A ((A 6) (F 10)) ((A 7) (F 10))) else (-1 : Int32)) else (-1 : Int32)) else (-1 : Int32)) < 0 → ¬ (R_emitStack (ups F 10 ((F 10) + (1 : Int32))) (ups (ups (ups (ups A 7 (ups (A 7) (F 10) ((if (F 10) < (F 7) then (if (F 10) < (15 : Int32) then (if ((A 8) (F 10)) = 0 then (R_nextTarget F A ((A 6) (F 10)) ((A 7) (F 10))) else (-1 : Int32)) else (-1 : Int32)) else (-1 : Int32)) + (1 : Int32)))) 6 (ups (A 6) ((F 10) + (1 : Int32)) (if (F 10) < (F 7) then (if (F 10) < (15 : Int32) then (if ((A 8) (F 10)) = 0 then (R_nextTarget F A ((A 6) (F 10)) ((A 7) (F 10))) else (-1 : Int32)) else (-1 : Int32)) else (-1 : Int32)))) 7 (ups (ups (A 7) (F 10) ((if (F 10) < (F 7) then (if (F 10) < (15 : Int32) then (if ((A 8) (F 10)) = 0 then (R_nextTarget F A ((A 6) (F 10)) ((A 7) (F 10))) else (-1 : Int32)) else (-1 : Int32)) else (-1 : Int32)) + (1 : Int32))) ((F 10) + (1 : Int32)) (0 : Int32))) 8 (ups (A 8) ((F 10) + (1 : Int32)) (nar .boolean (if (F 6) = 0 then (0 : Int32) else (if (R_onStack (ups A 7 (ups (A 7) (F 10) ((if (F 10) < (F 7) then (if (F 10) < (15 : Int32) then (if ((A 8) (F 10)) = 0 then (R_nextTarget F A ((A 6) (F 10)) ((A 7) (F 10))) else (-1 : Int32)) else (-1 : Int32)) else (-1 : Int32)) + (1 : Int32)))) (if (F 10) < (F 7) then (if (F 10) < (15 : Int32) then (if ((A 8) (F 10)) = 0 then (R_nextTarget F A ((A 6) (F 10)) ((A 7) (F 10))) else (-1 : Int32)) else (-1 : Int32)) else (-1 : Int32)) (F 10)) = 0 then (0 : Int32) else (1 : Int32)))))) ).1 = 0 → Wk l Z (MoC Z cdC) md_walkFrom 37 [.val (.ref 0), .unset, .val (.int (v2 + (1 : Int32))), .unset, .unset, .unset] [] (10, (R_emitStack (ups F 10 ((F 10) + (1 : Int32))) (ups (ups (ups (ups A 7 (ups (A 7) (F 10) ((if (F 10) < (F 7) then (if (F 10) < (15 : Int32) then (if ((A 8) (F 10)) = 0 then (R_nextTarget F A ((A 6) (F 10)) ((A 7) (F 10))) else (-1 : Int32)) else (-1 : Int32)) else (-1 : Int32)) + (1 : Int32)))) 6 (ups (A 6) ((F 10) + (1 : Int32)) (if (F 10) < (F 7) then (if (F 10) < (15 : Int32) then (if ((A 8) (F 10)) = 0 then (R_nextTarget F A ((A 6) (F 10)) ((A 7) (F 10))) else (-1 : Int32)) else (-1 : Int32)) else (-1 : Int32)))) 7 (ups (ups (A 7) (F 10) ((if (F 10) < (F 7) then (if (F 10) < (15 : Int32) then (if ((A 8) (F 10)) = 0 then (R_nextTarget F A ((A 6) (F 10)) ((A 7) (F 10))) else (-1 : Int32)) else (-1 : Int32)) else (-1 : Int32)) + (1 : Int32))) ((F 10) + (1 : Int32)) (0 : Int32))) 8 (ups (A 8) ((F 10) + (1 : Int32)) (nar .boolean (if (F 6) = 0 then (0 : Int32) else (if (R_onStack (ups A 7 (ups (A 7) (F 10) ((if (F 10) < (F 7) then (if (F 10) < (15 : Int32) then (if ((A 8) (F 10)) = 0 then (R_nextTarget F A ((A 6) (F 10)) ((A 7) (F 10))) else (-1 : Int32)) else (-1 : Int32)) else (-1 : Int32)) + (1 : Int32)))) (if (F 10) < (F 7) then (if (F 10) < (15 : Int32) then (if ((A 8) (F 10)) = 0 then (R_nextTarget F A ((A 6) (F 10)) ((A 7) (F 10))) else (-1 : Int32)) else (-1 : Int32)) else (-1 : Int32)) (F 10)) = 0 then (0 : Int32) else (1 : Int32)))))) ).2.1, G, (R_emitStack (ups F 10 ((F 10) + (1 : Int32))) (ups (ups (ups (ups A 7 (ups (A 7) (F 10) ((if (F 10) < (F 7) then (if (F 10) < (15 : Int32) then (if ((A 8) (F 10)) = 0 then (R_nextTarget F A ((A 6) (F 10)) ((A 7) (F 10))) else (-1 : Int32)) else (-1 : Int32)) else (-1 : Int32)) + (1 : Int32)))) 6 (ups (A 6) ((F 10) + (1 : Int32)) (if (F 10) < (F 7) then (if (F 10) < (15 : Int32) then (if ((A 8) (F 10)) = 0 then (R_nextTarget F A ((A 6) (F 10)) ((A 7) (F 10))) else (-1 : Int32)) else (-1 : Int32)) else (-1 : Int32)))) 7 (ups (ups (A 7) (F 10) ((if (F 10) < (F 7) then (if (F 10) < (15 : Int32) then (if ((A 8) (F 10)) = 0 then (R_nextTarget F A ((A 6) (F 10)) ((A 7) (F 10))) else (-1 : Int32)) else (-1 : Int32)) else (-1 : Int32)) + (1 : Int32))) ((F 10) + (1 : Int32)) (0 : Int32))) 8 (ups (A 8) ((F 10) + (1 : Int32)) (nar .boolean (if (F 6) = 0 then (0 : Int32) else (if (R_onStack (ups A 7 (ups (A 7) (F 10) ((if (F 10) < (F 7) then (if (F 10) < (15 : Int32) then (if ((A 8) (F 10)) = 0 then (R_nextTarget F A ((A 6) (F 10)) ((A 7) (F 10))) else (-1 : Int32)) else (-1 : Int32)) else (-1 : Int32)) + (1 : Int32)))) (if (F 10) < (F 7) then (if (F 10) < (15 : Int32) then (if ((A 8) (F 10)) = 0 then (R_nextTarget F A ((A 6) (F 10)) ((A 7) (F 10))) else (-1 : Int32)) else (-1 : Int32)) else (-1 : Int32)) (F 10)) = 0 then (0 : Int32) else (1 : Int32)))))) ).2.2, B) 0 0 Q) (h26 : v2 < (400 : Int32) → ¬ (F 10) < 0 → ¬ (if (F 10) < (F 7) then (if (F 10) < (15 : Int32) then (if ((A 8) (F 10)) = 0 then (R_nextTarget F A ((A 6) (F 10)) ((A 7) (F 10))) else (-1 : Int32)) else (-1 : Int32)) else (-1 : Int32)) < 0 → (R_emitStack (ups F 10 ((F 10) + (1 : Int32))) (ups (ups (ups (ups A 7 (ups (A 7) (F 10) ((if (F 10) < (F 7) then (if (F 10) < (15 : Int32) then (if ((A 8) (F 10)) = 0 then (R_nextTarget F A ((A 6) (F 10)) ((A 7) (F 10))) else (-1 : Int32)) else (-1 : Int32)) else (-1 : Int32)) + (1 : Int32)))) 6 (ups (A 6) ((F 10) + (1 : Int32)) (if (F 10) < (F 7) then (if (F 10) < (15 : Int32) then (if ((A 8) (F 10)) = 0 then (R_nextTarget F A ((A 6) (F 10)) ((A 7) (F 10))) else (-1 : Int32)) else (-1 : Int32)) else (-1 : Int32)))) 7 (ups (ups (A 7) (F 10) ((if (F 10) < (F 7) then (if (F 10) < (15 : Int32) then (if ((A 8) (F 10)) = 0 then (R_nextTarget F A ((A 6) (F 10)) ((A 7) (F 10))) else (-1 : Int32)) else (-1 : Int32)) else (-1 : Int32)) + (1 : Int32))) ((F 10) + (1 : Int32)) (0 : Int32))) 8 (ups (A 8) ((F 10) + (1 : Int32)) (nar .boolean (if (F 6) = 0 then (0 : Int32) else (if (R_onStack (ups A 7 (ups (A 7) (F 10) ((if (F 10) < (F 7) then (if (F 10) < (15 : Int32) then (if ((A 8) (F 10)) = 0 then (R_nextTarget F A ((A 6) (F 10)) ((A 7) (F 10))) else (-1 : Int32)) else (-1 : Int32)) else (-1 : Int32)) + (1 : Int32)))) (if (F 10) < (F 7) then (if (F 10) < (15 : Int32) then (if ((A 8) (F 10)) = 0 then (R_nextTarget F A ((A 6) (F 10)) ((A 7) (F 10))) else (-1 : Int32)) else (-1 : Int32)) else (-1 : Int32)) (F 10)) = 0 then (0 : Int32) else (1 : Int32)))))) ).1 = 0 → Q (some (.int (0 : Int32))) (10, (R_emitStack (ups F 10 ((F 10) + (1 : Int32))) (ups (ups (ups (ups A 7 (ups (A 7) (F 10) ((if (F 10) < (F 7) then (if (F 10) < (15 : Int32) then (if ((A 8) (F 10)) = 0 then (R_nextTarget F A ((A 6) (F 10)) ((A 7) (F 10))) else (-1 : Int32)) else (-1 : Int32)) else (-1 : Int32)) + (1 : Int32)))) 6 (ups (A 6) ((F 10) + (1 : Int32)) (if (F 10) < (F 7) then (if (F 10) < (15 : Int32) then (if ((A 8) (F 10)) = 0 then (R_nextTarget F A ((A 6) (F 10)) ((A 7) (F 10))) else (-1 : Int32)) else (-1 : Int32)) else (-1 : Int32)))) 7 (ups (ups (A 7) (F 10) ((if (F 10) < (F 7) then (if (F 10) < (15 : Int32) then (if ((A 8) (F 10)) = 0 then (R_nextTarget F A ((A 6) (F 10)) ((A 7) (F 10))) else (-1 : Int32)) else (-1 : Int32)) else (-1 : Int32)) + (1 : Int32))) ((F 10) + (1 : Int32)) (0 : Int32))) 8 (ups (A 8) ((F 10) + (1 : Int32)) (nar .boolean (if (F 6) = 0 then (0 : Int32) else (if (R_onStack (ups A 7 (ups (A 7) (F 10) ((if (F 10) < (F 7) then (if (F 10) < (15 : Int32) then (if ((A 8) (F 10)) = 0 then (R_nextTarget F A ((A 6) (F 10)) ((A 7) (F 10))) else (-1 : Int32)) else (-1 : Int32)) else (-1 : Int32)) + (1 : Int32)))) (if (F 10) < (F 7) then (if (F 10) < (15 : Int32) then (if ((A 8) (F 10)) = 0 then (R_nextTarget F A ((A 6) (F 10)) ((A 7) (F 10))) else (-1 : Int32)) else (-1 : Int32)) else (-1 : Int32)) (F 10)) = 0 then (0 : Int32) else (1 : Int32)))))) ).2.1, G, (R_emitStack (ups F 10 ((F 10) + (1 : Int32))) (ups (ups (ups (ups A 7 (ups (A 7) (F 10) ((if (F 10) < (F 7) then (if (F 10) < (15 : Int32) then (if ((A 8) (F 10)) = 0 then (R_nextTarget F A ((A 6) (F 10)) ((A 7) (F 10))) else (-1 : Int32)) else (-1 : Int32)) else (-1 : Int32)) + (1 : Int32)))) 6 (ups (A 6) ((F 10) + (1 : Int32)) (if (F 10) < (F 7) then (if (F 10) < (15 : Int32) then (if ((A 8) (F 10)) = 0 then (R_nextTarget F A ((A 6) (F 10)) ((A 7) (F 10))) else (-1 : Int32)) else (-1 : Int32)) else (-1 : Int32)))) 7 (ups (ups (A 7) (F 10) ((if (F 10) < (F 7) then (if (F 10) < (15 : Int32) then (if ((A 8) (F 10)) = 0 then (R_nextTarget F A ((A 6) (F 10)) ((A 7) (F 10))) else (-1 : Int32)) else (-1 : Int32)) else (-1 : Int32)) + (1 : Int32))) ((F 10) + (1 : Int32)) (0 : Int32))) 8 (ups (A 8) ((F 10) + (1 : Int32)) (nar .boolean (if (F 6) = 0 then (0 : Int32) else (if (R_onStack (ups A 7 (ups (A 7) (F 10) ((if (F 10) < (F 7) then (if (F 10) < (15 : Int32) then (if ((A 8) (F 10)) = 0 then (R_nextTarget F A ((A 6) (F 10)) ((A 7) (F 10))) else (-1 : Int32)) else (-1 : Int32)) else (-1 : Int32)) + (1 : Int32)))) (if (F 10) < (F 7) then (if (F 10) < (15 : Int32) then (if ((A 8) (F 10)) = 0 then (R_nextTarget F A ((A 6) (F 10)) ((A 7) (F 10))) else (-1 : Int32)) else (-1 : Int32)) else (-1 : Int32)) (F 10)) = 0 then (0 : Int32) else (1 : Int32)))))) ).2.2, B)) (h27 : v2 < (400 : Int32) → ¬ (F 10) < 0 → (if (F 10) < (F 7) then (if (F 10) < (15 : Int32) then (if ((A 8) (F 10)) = 0 then (R_nextTarget F A ((A 6) (F 10)) ((A 7) (F 10))) else (-1 : Int32)) else (-1 : Int32)) else (-1 : Int32)) < 0 → Wk l Z (MoC Z cdC) md_walkFrom 37 [.val (.ref 0), .unset, .val (.int (v2 + (1 : Int32))), .unset, .unset, .unset] [] (10, (ups F 10 ((F 10) - (1 : Int32))), G, A, B) 0 0 Q) :
    Wk l Z (MoC Z cdC) md_walkFrom 37 [.val (.ref 0), .unset, .val (.int v2), .unset, .unset, .unset] [] (10, F, G, A, B) 0 0 Q := by
  refine Wk.iloadN o_walkFrom_37 rfl ?_
  refine Wk.sipush o_walkFrom_38 (z := (400 : Int32)) (by decide) ?_
  refine Wk.icmp_ge o_walkFrom_41 (fun q1 => ?_) (fun q1 => ?_)
  · refine Wk.iconst o_walkFrom_203 (z := (1 : Int32)) (by decide) ?_
    exact Wk.zreturn mrC rfl o_walkFrom_204 rfl (by decide) (by decide) (y := (1 : Int32)) (by decide) (h2 q1)
  · refine Wk.aloadN o_walkFrom_44 rfl ?_
    refine Wk.getI (mI_top) (wf_top H) o_walkFrom_45 (x := (F 10)) rfl ?_
    refine Wk.if_lt o_walkFrom_48 (fun q3 => ?_) (fun q3 => ?_)
    · refine Wk.iconst o_walkFrom_203 (z := (1 : Int32)) (by decide) ?_
      exact Wk.zreturn mrC rfl o_walkFrom_204 rfl (by decide) (by decide) (y := (1 : Int32)) (by decide) (h4 q1 q3)
    · refine Wk.aloadN o_walkFrom_51 rfl ?_
      refine Wk.getI (mI_top) (wf_top H) o_walkFrom_52 (x := (F 10)) rfl ?_
      refine Wk.istoreN o_walkFrom_55 (Or.inl rfl) (L' := [.val (.ref 0), .unset, .val (.int v2), .val (.int (F 10)), .unset, .unset]) rfl ?_
      refine Wk.iconst o_walkFrom_56 (z := (-1 : Int32)) (by decide) ?_
      refine Wk.istore o_walkFrom_57 (Or.inl rfl) (L' := [.val (.ref 0), .unset, .val (.int v2), .val (.int (F 10)), .val (.int (-1 : Int32)), .unset]) rfl ?_
      refine Wk.iloadN o_walkFrom_59 rfl ?_
      refine Wk.aloadN o_walkFrom_60 rfl ?_
      refine Wk.getI (mI_maxDepth) (wf_maxDepth H) o_walkFrom_61 (x := (F 7)) rfl ?_
      have J13 : Wk l Z (MoC Z cdC) md_walkFrom 100 [.val (.ref 0), .unset, .val (.int v2), .val (.int (F 10)), .val (.int (if (F 10) < (F 7) then (if (F 10) < (15 : Int32) then (if ((A 8) (F 10)) = 0 then (R_nextTarget F A ((A 6) (F 10)) ((A 7) (F 10))) else (-1 : Int32)) else (-1 : Int32)) else (-1 : Int32))), .unset] [] (10, F, G, A, B) 0 0 Q := by
        refine Wk.iload o_walkFrom_100 rfl ?_
        refine Wk.if_ge o_walkFrom_102 (fun q14 => ?_) (fun q14 => ?_)
        · refine Wk.aloadN o_walkFrom_118 rfl ?_
          refine Wk.getA (mA_stkNext) (by decide) (i' := 8) rfl (wf_stkNext H) o_walkFrom_119 ?_
          refine Wk.iloadN o_walkFrom_122 rfl ?_
          refine Wk.iload o_walkFrom_123 rfl ?_
          refine Wk.iconst o_walkFrom_125 (z := (1 : Int32)) (by decide) ?_
          refine Wk.iadd o_walkFrom_126 ?_
          refine Wk.iastore (coC H) (f := (A 7)) (mA_stkNext) rfl (by decide) (i' := 8) rfl q3 (s15 q1 q3 q14) o_walkFrom_127 ?_
          refine Wk.aloadN o_walkFrom_128 rfl ?_
          refine Wk.getI (mI_cycle) (wf_cycle H) o_walkFrom_129 (x := (F 6)) rfl ?_
          have J20 : Wk l Z (MoC Z cdC) md_walkFrom 150 [.val (.ref 0), .unset, .val (.int v2), .val (.int (F 10)), .val (.int (if (F 10) < (F 7) then (if (F 10) < (15 : Int32) then (if ((A 8) (F 10)) = 0 then (R_nextTarget F A ((A 6) (F 10)) ((A 7) (F 10))) else (-1 : Int32)) else (-1 : Int32)) else (-1 : Int32))), .unset] [.int (if (F 6) = 0 then (0 : Int32) else (if (R_onStack (ups A 7 (ups (A 7) (F 10) ((if (F 10) < (F 7) then (if (F 10) < (15 : Int32) then (if ((A 8) (F 10)) = 0 then (R_nextTarget F A ((A 6) (F 10)) ((A 7) (F 10))) else (-1 : Int32)) else (-1 : Int32)) else (-1 : Int32)) + (1 : Int32)))) (if (F 10) < (F 7) then (if (F 10) < (15 : Int32) then (if ((A 8) (F 10)) = 0 then (R_nextTarget F A ((A 6) (F 10)) ((A 7) (F 10))) else (-1 : Int32)) else (-1 : Int32)) else (-1 : Int32)) (F 10)) = 0 then (0 : Int32) else (1 : Int32)))] (10, F, G, (ups A 7 (ups (A 7) (F 10) ((if (F 10) < (F 7) then (if (F 10) < (15 : Int32) then (if ((A 8) (F 10)) = 0 then (R_nextTarget F A ((A 6) (F 10)) ((A 7) (F 10))) else (-1 : Int32)) else (-1 : Int32)) else (-1 : Int32)) + (1 : Int32)))), B) 0 0 Q := by
            refine Wk.istore o_walkFrom_150 (Or.inl rfl) (L' := [.val (.ref 0), .unset, .val (.int v2), .val (.int (F 10)), .val (.int (if (F 10) < (F 7) then (if (F 10) < (15 : Int32) then (if ((A 8) (F 10)) = 0 then (R_nextTarget F A ((A 6) (F 10)) ((A 7) (F 10))) else (-1 : Int32)) else (-1 : Int32)) else (-1 : Int32))), .val (.int (if (F 6) = 0 then (0 : Int32) else (if (R_onStack (ups A 7 (ups (A 7) (F 10) ((if (F 10) < (F 7) then (if (F 10) < (15 : Int32) then (if ((A 8) (F 10)) = 0 then (R_nextTarget F A ((A 6) (F 10)) ((A 7) (F 10))) else (-1 : Int32)) else (-1 : Int32)) else (-1 : Int32)) + (1 : Int32)))) (if (F 10) < (F 7) then (if (F 10) < (15 : Int32) then (if ((A 8) (F 10)) = 0 then (R_nextTarget F A ((A 6) (F 10)) ((A 7) (F 10))) else (-1 : Int32)) else (-1 : Int32)) else (-1 : Int32)) (F 10)) = 0 then (0 : Int32) else (1 : Int32))))]) rfl ?_
            refine Wk.aloadN o_walkFrom_152 rfl ?_
            refine Wk.getA (mA_stkNode) (by decide) (i' := 7) rfl (wf_stkNode H) o_walkFrom_153 ?_
            refine Wk.iloadN o_walkFrom_156 rfl ?_
            refine Wk.iconst o_walkFrom_157 (z := (1 : Int32)) (by decide) ?_
            refine Wk.iadd o_walkFrom_158 ?_
            refine Wk.iload o_walkFrom_159 rfl ?_
            refine Wk.iastore (coC H) (f := (A 6)) (mA_stkNode) rfl (by decide) (i' := 7) rfl (s21 q1 q3 q14) (s22 q1 q3 q14) o_walkFrom_161 ?_
            refine Wk.aloadN o_walkFrom_162 rfl ?_
            refine Wk.getA (mA_stkNext) (by decide) (i' := 8) rfl (wf_stkNext H) o_walkFrom_163 ?_
            refine Wk.iloadN o_walkFrom_166 rfl ?_
            refine Wk.iconst o_walkFrom_167 (z := (1 : Int32)) (by decide) ?_
            refine Wk.iadd o_walkFrom_168 ?_
            refine Wk.iconst o_walkFrom_169 (z := (0 : Int32)) (by decide) ?_
            refine Wk.iastore (coC H) (f := (ups (A 7) (F 10) ((if (F 10) < (F 7) then (if (F 10) < (15 : Int32) then (if ((A 8) (F 10)) = 0 then (R_nextTarget F A ((A 6) (F 10)) ((A 7) (F 10))) else (-1 : Int32)) else (-1 : Int32)) else (-1 : Int32)) + (1 : Int32)))) (mA_stkNext) rfl (by decide) (i' := 8) rfl (s21 q1 q3 q14) (s22 q1 q3 q14) o_walkFrom_170 ?_
            refine Wk.aloadN o_walkFrom_171 rfl ?_
            refine Wk.getA (mA_stkCyc) (by decide) (i' := 9) rfl (wf_stkCyc H) o_walkFrom_172 ?_
            refine Wk.iloadN o_walkFrom_175 rfl ?_
            refine Wk.iconst o_walkFrom_176 (z := (1 : Int32)) (by decide) ?_
            refine Wk.iadd o_walkFrom_177 ?_
            refine Wk.iload o_walkFrom_178 rfl ?_
            refine Wk.bastore (coC H) (f := (A 8)) (v' := (nar .boolean (if (F 6) = 0 then (0 : Int32) else (if (R_onStack (ups A 7 (ups (A 7) (F 10) ((if (F 10) < (F 7) then (if (F 10) < (15 : Int32) then (if ((A 8) (F 10)) = 0 then (R_nextTarget F A ((A 6) (F 10)) ((A 7) (F 10))) else (-1 : Int32)) else (-1 : Int32)) else (-1 : Int32)) + (1 : Int32)))) (if (F 10) < (F 7) then (if (F 10) < (15 : Int32) then (if ((A 8) (F 10)) = 0 then (R_nextTarget F A ((A 6) (F 10)) ((A 7) (F 10))) else (-1 : Int32)) else (-1 : Int32)) else (-1 : Int32)) (F 10)) = 0 then (0 : Int32) else (1 : Int32))))) rfl (mA_stkCyc) rfl (by decide) (i' := 9) rfl (s21 q1 q3 q14) (s22 q1 q3 q14) o_walkFrom_180 ?_
            refine Wk.aloadN o_walkFrom_181 rfl ?_
            refine Wk.iloadN o_walkFrom_182 rfl ?_
            refine Wk.iconst o_walkFrom_183 (z := (1 : Int32)) (by decide) ?_
            refine Wk.iadd o_walkFrom_184 ?_
            refine Wk.putI (coC H) (mI_top) (wf_top H) (Or.inl (wy_top H)) o_walkFrom_185 ?_
            refine Wk.aloadN o_walkFrom_188 rfl ?_
            refine Wk.callF [] [] (H.w 88 rfl) (cv_emitStack H) o_walkFrom_189 (run_emitStack H (ups F 10 ((F 10) + (1 : Int32))) G (ups (ups (ups (ups A 7 (ups (A 7) (F 10) ((if (F 10) < (F 7) then (if (F 10) < (15 : Int32) then (if ((A 8) (F 10)) = 0 then (R_nextTarget F A ((A 6) (F 10)) ((A 7) (F 10))) else (-1 : Int32)) else (-1 : Int32)) else (-1 : Int32)) + (1 : Int32)))) 6 (ups (A 6) ((F 10) + (1 : Int32)) (if (F 10) < (F 7) then (if (F 10) < (15 : Int32) then (if ((A 8) (F 10)) = 0 then (R_nextTarget F A ((A 6) (F 10)) ((A 7) (F 10))) else (-1 : Int32)) else (-1 : Int32)) else (-1 : Int32)))) 7 (ups (ups (A 7) (F 10) ((if (F 10) < (F 7) then (if (F 10) < (15 : Int32) then (if ((A 8) (F 10)) = 0 then (R_nextTarget F A ((A 6) (F 10)) ((A 7) (F 10))) else (-1 : Int32)) else (-1 : Int32)) else (-1 : Int32)) + (1 : Int32))) ((F 10) + (1 : Int32)) (0 : Int32))) 8 (ups (A 8) ((F 10) + (1 : Int32)) (nar .boolean (if (F 6) = 0 then (0 : Int32) else (if (R_onStack (ups A 7 (ups (A 7) (F 10) ((if (F 10) < (F 7) then (if (F 10) < (15 : Int32) then (if ((A 8) (F 10)) = 0 then (R_nextTarget F A ((A 6) (F 10)) ((A 7) (F 10))) else (-1 : Int32)) else (-1 : Int32)) else (-1 : Int32)) + (1 : Int32)))) (if (F 10) < (F 7) then (if (F 10) < (15 : Int32) then (if ((A 8) (F 10)) = 0 then (R_nextTarget F A ((A 6) (F 10)) ((A 7) (F 10))) else (-1 : Int32)) else (-1 : Int32)) else (-1 : Int32)) (F 10)) = 0 then (0 : Int32) else (1 : Int32)))))) B (s23 q1 q3 q14)) (wt := 0) (cu' := 0) (su' := 0) (by decide) rfl rfl rfl rfl rfl rfl rfl ?_
            refine Wk.if_ne o_walkFrom_192 (fun q24 => ?_) (fun q24 => ?_)
            · refine Wk.iinc o_walkFrom_197 rfl (z := (v2 + (1 : Int32))) rfl (L' := [.val (.ref 0), .unset, .val (.int (v2 + (1 : Int32))), .val (.int (F 10)), .val (.int (if (F 10) < (F 7) then (if (F 10) < (15 : Int32) then (if ((A 8) (F 10)) = 0 then (R_nextTarget F A ((A 6) (F 10)) ((A 7) (F 10))) else (-1 : Int32)) else (-1 : Int32)) else (-1 : Int32))), .val (.int (if (F 6) = 0 then (0 : Int32) else (if (R_onStack (ups A 7 (ups (A 7) (F 10) ((if (F 10) < (F 7) then (if (F 10) < (15 : Int32) then (if ((A 8) (F 10)) = 0 then (R_nextTarget F A ((A 6) (F 10)) ((A 7) (F 10))) else (-1 : Int32)) else (-1 : Int32)) else (-1 : Int32)) + (1 : Int32)))) (if (F 10) < (F 7) then (if (F 10) < (15 : Int32) then (if ((A 8) (F 10)) = 0 then (R_nextTarget F A ((A 6) (F 10)) ((A 7) (F 10))) else (-1 : Int32)) else (-1 : Int32)) else (-1 : Int32)) (F 10)) = 0 then (0 : Int32) else (1 : Int32))))]) rfl ?_
              refine Wk.goto o_walkFrom_200 ?_
              refine Wk.forget [false, false, false, true, true, true] (L' := [.val (.ref 0), .unset, .val (.int (v2 + (1 : Int32))), .unset, .unset, .unset]) rfl rfl ?_
              exact (h25 q1 q3 q14 q24)
            · refine Wk.iconst o_walkFrom_195 (z := (0 : Int32)) (by decide) ?_
              exact Wk.zreturn mrC rfl o_walkFrom_196 rfl (by decide) (by decide) (y := (0 : Int32)) (by decide) (h26 q1 q3 q14 q24)
          refine Wk.if_eq o_walkFrom_132 (fun q16 => ?_) (fun q16 => ?_)
          · refine Wk.iconst o_walkFrom_149 (z := (0 : Int32)) (by decide) ?_
            first | (rw [show ((if (F 6) = 0 then (0 : Int32) else (if (R_onStack (ups A 7 (ups (A 7) (F 10) ((if (F 10) < (F 7) then (if (F 10) < (15 : Int32) then (if ((A 8) (F 10)) = 0 then (R_nextTarget F A ((A 6) (F 10)) ((A 7) (F 10))) else (-1 : Int32)) else (-1 : Int32)) else (-1 : Int32)) + (1 : Int32)))) (if (F 10) < (F 7) then (if (F 10) < (15 : Int32) then (if ((A 8) (F 10)) = 0 then (R_nextTarget F A ((A 6) (F 10)) ((A 7) (F 10))) else (-1 : Int32)) else (-1 : Int32)) else (-1 : Int32)) (F 10)) = 0 then (0 : Int32) else (1 : Int32))) : Int32) = (0 : Int32) from if_pos q16] at J20; exact J20) | exact J20 | (simp only [if_pos q16] at J20 ⊢; exact J20)
          · refine Wk.aloadN o_walkFrom_135 rfl ?_
            refine Wk.iload o_walkFrom_136 rfl ?_
            refine Wk.iloadN o_walkFrom_138 rfl ?_
            refine Wk.callF [.int (if (F 10) < (F 7) then (if (F 10) < (15 : Int32) then (if ((A 8) (F 10)) = 0 then (R_nextTarget F A ((A 6) (F 10)) ((A 7) (F 10))) else (-1 : Int32)) else (-1 : Int32)) else (-1 : Int32)), .int (F 10)] [] (H.w 96 rfl) (cv_onStack H) o_walkFrom_139 (run_onStack H F G (ups A 7 (ups (A 7) (F 10) ((if (F 10) < (F 7) then (if (F 10) < (15 : Int32) then (if ((A 8) (F 10)) = 0 then (R_nextTarget F A ((A 6) (F 10)) ((A 7) (F 10))) else (-1 : Int32)) else (-1 : Int32)) else (-1 : Int32)) + (1 : Int32)))) B (if (F 10) < (F 7) then (if (F 10) < (15 : Int32) then (if ((A 8) (F 10)) = 0 then (R_nextTarget F A ((A 6) (F 10)) ((A 7) (F 10))) else (-1 : Int32)) else (-1 : Int32)) else (-1 : Int32)) (F 10) (s17 q1 q3 q14 q16)) (wt := 0) (cu' := 0) (su' := 0) (by decide) rfl rfl rfl rfl rfl rfl rfl ?_
            refine Wk.if_eq o_walkFrom_142 (fun q18 => ?_) (fun q18 => ?_)
            · refine Wk.iconst o_walkFrom_149 (z := (0 : Int32)) (by decide) ?_
              first | (rw [show ((if (F 6) = 0 then (0 : Int32) else (if (R_onStack (ups A 7 (ups (A 7) (F 10) ((if (F 10) < (F 7) then (if (F 10) < (15 : Int32) then (if ((A 8) (F 10)) = 0 then (R_nextTarget F A ((A 6) (F 10)) ((A 7) (F 10))) else (-1 : Int32)) else (-1 : Int32)) else (-1 : Int32)) + (1 : Int32)))) (if (F 10) < (F 7) then (if (F 10) < (15 : Int32) then (if ((A 8) (F 10)) = 0 then (R_nextTarget F A ((A 6) (F 10)) ((A 7) (F 10))) else (-1 : Int32)) else (-1 : Int32)) else (-1 : Int32)) (F 10)) = 0 then (0 : Int32) else (1 : Int32))) : Int32) = (0 : Int32) from Eq.trans (if_neg q16) <| if_pos q18] at J20; exact J20) | exact J20 | (simp only [if_neg q16, if_pos q18] at J20 ⊢; exact J20)
            · refine Wk.iconst o_walkFrom_145 (z := (1 : Int32)) (by decide) ?_
              refine Wk.goto o_walkFrom_146 ?_
              first | (rw [show ((if (F 6) = 0 then (0 : Int32) else (if (R_onStack (ups A 7 (ups (A 7) (F 10) ((if (F 10) < (F 7) then (if (F 10) < (15 : Int32) then (if ((A 8) (F 10)) = 0 then (R_nextTarget F A ((A 6) (F 10)) ((A 7) (F 10))) else (-1 : Int32)) else (-1 : Int32)) else (-1 : Int32)) + (1 : Int32)))) (if (F 10) < (F 7) then (if (F 10) < (15 : Int32) then (if ((A 8) (F 10)) = 0 then (R_nextTarget F A ((A 6) (F 10)) ((A 7) (F 10))) else (-1 : Int32)) else (-1 : Int32)) else (-1 : Int32)) (F 10)) = 0 then (0 : Int32) else (1 : Int32))) : Int32) = (1 : Int32) from Eq.trans (if_neg q16) <| if_neg q18] at J20; exact J20) | exact J20 | (simp only [if_neg q16, if_neg q18] at J20 ⊢; exact J20)
        · refine Wk.aloadN o_walkFrom_105 rfl ?_
          refine Wk.dup o_walkFrom_106 rfl ?_
          refine Wk.getI (mI_top) (wf_top H) o_walkFrom_107 (x := (F 10)) rfl ?_
          refine Wk.iconst o_walkFrom_110 (z := (1 : Int32)) (by decide) ?_
          refine Wk.isub o_walkFrom_111 ?_
          refine Wk.putI (coC H) (mI_top) (wf_top H) (Or.inl (wy_top H)) o_walkFrom_112 ?_
          refine Wk.goto o_walkFrom_115 ?_
          refine Wk.iinc o_walkFrom_197 rfl (z := (v2 + (1 : Int32))) rfl (L' := [.val (.ref 0), .unset, .val (.int (v2 + (1 : Int32))), .val (.int (F 10)), .val (.int (if (F 10) < (F 7) then (if (F 10) < (15 : Int32) then (if ((A 8) (F 10)) = 0 then (R_nextTarget F A ((A 6) (F 10)) ((A 7) (F 10))) else (-1 : Int32)) else (-1 : Int32)) else (-1 : Int32))), .unset]) rfl ?_
          refine Wk.goto o_walkFrom_200 ?_
          refine Wk.forget [false, false, false, true, true, false] (L' := [.val (.ref 0), .unset, .val (.int (v2 + (1 : Int32))), .unset, .unset, .unset]) rfl rfl ?_
          exact (h27 q1 q3 q14)
      refine Wk.icmp_ge o_walkFrom_64 (fun q5 => ?_) (fun q5 => ?_)
      · first | (rw [show ((if (F 10) < (F 7) then (if (F 10) < (15 : Int32) then (if ((A 8) (F 10)) = 0 then (R_nextTarget F A ((A 6) (F 10)) ((A 7) (F 10))) else (-1 : Int32)) else (-1 : Int32)) else (-1 : Int32)) : Int32) = (-1 : Int32) from if_neg q5] at J13; exact J13) | exact J13 | (simp only [if_neg q5] at J13 ⊢; exact J13)
      · refine Wk.iloadN o_walkFrom_67 rfl ?_
        refine Wk.bipush o_walkFrom_68 (z := (15 : Int32)) (by decide) ?_
        refine Wk.icmp_ge o_walkFrom_70 (fun q6 => ?_) (fun q6 => ?_)
        · first | (rw [show ((if (F 10) < (F 7) then (if (F 10) < (15 : Int32) then (if ((A 8) (F 10)) = 0 then (R_nextTarget F A ((A 6) (F 10)) ((A 7) (F 10))) else (-1 : Int32)) else (-1 : Int32)) else (-1 : Int32)) : Int32) = (-1 : Int32) from Eq.trans (if_pos q5) <| if_neg q6] at J13; exact J13) | exact J13 | (simp only [if_pos q5, if_neg q6] at J13 ⊢; exact J13)
        · refine Wk.aloadN o_walkFrom_73 rfl ?_
          refine Wk.getA (mA_stkCyc) (by decide) (i' := 9) rfl (wf_stkCyc H) o_walkFrom_74 ?_
          refine Wk.iloadN o_walkFrom_77 rfl ?_
          refine Wk.baload (mA_stkCyc) (by decide) (i' := 9) rfl q3 (s7 q1 q3 q5 q6) o_walkFrom_78 (y := ((A 8) (F 10))) rfl ?_
          refine Wk.if_ne o_walkFrom_79 (fun q8 => ?_) (fun q8 => ?_)
          · first | (rw [show ((if (F 10) < (F 7) then (if (F 10) < (15 : Int32) then (if ((A 8) (F 10)) = 0 then (R_nextTarget F A ((A 6) (F 10)) ((A 7) (F 10))) else (-1 : Int32)) else (-1 : Int32)) else (-1 : Int32)) : Int32) = (-1 : Int32) from Eq.trans (if_pos q5) <| Eq.trans (if_pos q6) <| if_neg q8] at J13; exact J13) | exact J13 | (simp only [if_pos q5, if_pos q6, if_neg q8] at J13 ⊢; exact J13)
          · refine Wk.aloadN o_walkFrom_82 rfl ?_
            refine Wk.aloadN o_walkFrom_83 rfl ?_
            refine Wk.getA (mA_stkNode) (by decide) (i' := 7) rfl (wf_stkNode H) o_walkFrom_84 ?_
            refine Wk.iloadN o_walkFrom_87 rfl ?_
            refine Wk.iaload (mA_stkNode) (by decide) (i' := 7) rfl q3 (s9 q1 q3 q5 q6 q8) o_walkFrom_88 (y := ((A 6) (F 10))) rfl ?_
            refine Wk.aloadN o_walkFrom_89 rfl ?_
            refine Wk.getA (mA_stkNext) (by decide) (i' := 8) rfl (wf_stkNext H) o_walkFrom_90 ?_
            refine Wk.iloadN o_walkFrom_93 rfl ?_
            refine Wk.iaload (mA_stkNext) (by decide) (i' := 8) rfl q3 (s9 q1 q3 q5 q6 q8) o_walkFrom_94 (y := ((A 7) (F 10))) rfl ?_
            refine Wk.callF [.int ((A 6) (F 10)), .int ((A 7) (F 10))] [] (H.w 92 rfl) (cv_nextTarget H) o_walkFrom_95 (run_nextTarget H F G A B ((A 6) (F 10)) ((A 7) (F 10)) (s10 q1 q3 q5 q6 q8)) (wt := 0) (cu' := 0) (su' := 0) (by decide) rfl rfl rfl rfl rfl rfl rfl ?_
            refine Wk.istore o_walkFrom_98 (Or.inr ⟨_, rfl, rfl⟩) (L' := [.val (.ref 0), .unset, .val (.int v2), .val (.int (F 10)), .val (.int (R_nextTarget F A ((A 6) (F 10)) ((A 7) (F 10)))), .unset]) rfl ?_
            first | (rw [show ((if (F 10) < (F 7) then (if (F 10) < (15 : Int32) then (if ((A 8) (F 10)) = 0 then (R_nextTarget F A ((A 6) (F 10)) ((A 7) (F 10))) else (-1 : Int32)) else (-1 : Int32)) else (-1 : Int32)) : Int32) = (R_nextTarget F A ((A 6) (F 10)) ((A 7) (F 10))) from Eq.trans (if_pos q5) <| Eq.trans (if_pos q6) <| if_pos q8] at J13; exact J13) | exact J13 | (simp only [if_pos q5, if_pos q6, if_pos q8] at J13 ⊢; exact J13)

def lp_walkFrom : Nat → Nat → Int32 → (Nat → Int32) → (Nat → Int32 → Int32) → Option (Int32 × (Nat → Int32) × (Nat → Int32 → Int32))
  | 0, _, _, _, _ => none
  | n + 1, tag, v2, F, A => if tag = 37 then (if v2 < (400 : Int32) then (if (F 10) < 0 then some ((1 : Int32), F, A) else (if ((F 10) < (F 7) → (F 10) < (15 : Int32) → (F 10) < (16 : Int32)) ∧ ((F 10) < (F 7) → (F 10) < (15 : Int32) → ((A 8) (F 10)) = 0 → (F 10) < (16 : Int32)) ∧ ((F 10) < (F 7) → (F 10) < (15 : Int32) → ((A 8) (F 10)) = 0 → (en_nextTarget F A ((A 6) (F 10)) ((A 7) (F 10))).isSome = true) then (if (if (F 10) < (F 7) then (if (F 10) < (15 : Int32) then (if ((A 8) (F 10)) = 0 then (R_nextTarget F A ((A 6) (F 10)) ((A 7) (F 10))) else (-1 : Int32)) else (-1 : Int32)) else (-1 : Int32)) < 0 then lp_walkFrom n 37 (v2 + (1 : Int32)) (ups F 10 ((F 10) - (1 : Int32))) A else (if ((F 10) < (16 : Int32)) ∧ (¬ (F 6) = 0 → (en_onStack (ups A 7 (ups (A 7) (F 10) ((if (F 10) < (F 7) then (if (F 10) < (15 : Int32) then (if ((A 8) (F 10)) = 0 then (R_nextTarget F A ((A 6) (F 10)) ((A 7) (F 10))) else (-1 : Int32)) else (-1 : Int32)) else (-1 : Int32)) + (1 : Int32)))) (if (F 10) < (F 7) then (if (F 10) < (15 : Int32) then (if ((A 8) (F 10)) = 0 then (R_nextTarget F A ((A 6) (F 10)) ((A 7) (F 10))) else (-1 : Int32)) else (-1 : Int32)) else (-1 : Int32)) (F 10)).isSome = true) ∧ (¬ ((F 10) + (1 : Int32)) < 0) ∧ (((F 10) + (1 : Int32)) < (16 : Int32)) ∧ ((en_emitStack (ups F 10 ((F 10) + (1 : Int32))) (ups (ups (ups (ups A 7 (ups (A 7) (F 10) ((if (F 10) < (F 7) then (if (F 10) < (15 : Int32) then (if ((A 8) (F 10)) = 0 then (R_nextTarget F A ((A 6) (F 10)) ((A 7) (F 10))) else (-1 : Int32)) else (-1 : Int32)) else (-1 : Int32)) + (1 : Int32)))) 6 (ups (A 6) ((F 10) + (1 : Int32)) (if (F 10) < (F 7) then (if (F 10) < (15 : Int32) then (if ((A 8) (F 10)) = 0 then (R_nextTarget F A ((A 6) (F 10)) ((A 7) (F 10))) else (-1 : Int32)) else (-1 : Int32)) else (-1 : Int32)))) 7 (ups (ups (A 7) (F 10) ((if (F 10) < (F 7) then (if (F 10) < (15 : Int32) then (if ((A 8) (F 10)) = 0 then (R_nextTarget F A ((A 6) (F 10)) ((A 7) (F 10))) else (-1 : Int32)) else (-1 : Int32)) else (-1 : Int32)) + (1 : Int32))) ((F 10) + (1 : Int32)) (0 : Int32))) 8 (ups (A 8) ((F 10) + (1 : Int32)) (nar .boolean (if (F 6) = 0 then (0 : Int32) else (if (R_onStack (ups A 7 (ups (A 7) (F 10) ((if (F 10) < (F 7) then (if (F 10) < (15 : Int32) then (if ((A 8) (F 10)) = 0 then (R_nextTarget F A ((A 6) (F 10)) ((A 7) (F 10))) else (-1 : Int32)) else (-1 : Int32)) else (-1 : Int32)) + (1 : Int32)))) (if (F 10) < (F 7) then (if (F 10) < (15 : Int32) then (if ((A 8) (F 10)) = 0 then (R_nextTarget F A ((A 6) (F 10)) ((A 7) (F 10))) else (-1 : Int32)) else (-1 : Int32)) else (-1 : Int32)) (F 10)) = 0 then (0 : Int32) else (1 : Int32)))))) ).isSome = true) then (if (R_emitStack (ups F 10 ((F 10) + (1 : Int32))) (ups (ups (ups (ups A 7 (ups (A 7) (F 10) ((if (F 10) < (F 7) then (if (F 10) < (15 : Int32) then (if ((A 8) (F 10)) = 0 then (R_nextTarget F A ((A 6) (F 10)) ((A 7) (F 10))) else (-1 : Int32)) else (-1 : Int32)) else (-1 : Int32)) + (1 : Int32)))) 6 (ups (A 6) ((F 10) + (1 : Int32)) (if (F 10) < (F 7) then (if (F 10) < (15 : Int32) then (if ((A 8) (F 10)) = 0 then (R_nextTarget F A ((A 6) (F 10)) ((A 7) (F 10))) else (-1 : Int32)) else (-1 : Int32)) else (-1 : Int32)))) 7 (ups (ups (A 7) (F 10) ((if (F 10) < (F 7) then (if (F 10) < (15 : Int32) then (if ((A 8) (F 10)) = 0 then (R_nextTarget F A ((A 6) (F 10)) ((A 7) (F 10))) else (-1 : Int32)) else (-1 : Int32)) else (-1 : Int32)) + (1 : Int32))) ((F 10) + (1 : Int32)) (0 : Int32))) 8 (ups (A 8) ((F 10) + (1 : Int32)) (nar .boolean (if (F 6) = 0 then (0 : Int32) else (if (R_onStack (ups A 7 (ups (A 7) (F 10) ((if (F 10) < (F 7) then (if (F 10) < (15 : Int32) then (if ((A 8) (F 10)) = 0 then (R_nextTarget F A ((A 6) (F 10)) ((A 7) (F 10))) else (-1 : Int32)) else (-1 : Int32)) else (-1 : Int32)) + (1 : Int32)))) (if (F 10) < (F 7) then (if (F 10) < (15 : Int32) then (if ((A 8) (F 10)) = 0 then (R_nextTarget F A ((A 6) (F 10)) ((A 7) (F 10))) else (-1 : Int32)) else (-1 : Int32)) else (-1 : Int32)) (F 10)) = 0 then (0 : Int32) else (1 : Int32)))))) ).1 = 0 then some ((0 : Int32), (R_emitStack (ups F 10 ((F 10) + (1 : Int32))) (ups (ups (ups (ups A 7 (ups (A 7) (F 10) ((if (F 10) < (F 7) then (if (F 10) < (15 : Int32) then (if ((A 8) (F 10)) = 0 then (R_nextTarget F A ((A 6) (F 10)) ((A 7) (F 10))) else (-1 : Int32)) else (-1 : Int32)) else (-1 : Int32)) + (1 : Int32)))) 6 (ups (A 6) ((F 10) + (1 : Int32)) (if (F 10) < (F 7) then (if (F 10) < (15 : Int32) then (if ((A 8) (F 10)) = 0 then (R_nextTarget F A ((A 6) (F 10)) ((A 7) (F 10))) else (-1 : Int32)) else (-1 : Int32)) else (-1 : Int32)))) 7 (ups (ups (A 7) (F 10) ((if (F 10) < (F 7) then (if (F 10) < (15 : Int32) then (if ((A 8) (F 10)) = 0 then (R_nextTarget F A ((A 6) (F 10)) ((A 7) (F 10))) else (-1 : Int32)) else (-1 : Int32)) else (-1 : Int32)) + (1 : Int32))) ((F 10) + (1 : Int32)) (0 : Int32))) 8 (ups (A 8) ((F 10) + (1 : Int32)) (nar .boolean (if (F 6) = 0 then (0 : Int32) else (if (R_onStack (ups A 7 (ups (A 7) (F 10) ((if (F 10) < (F 7) then (if (F 10) < (15 : Int32) then (if ((A 8) (F 10)) = 0 then (R_nextTarget F A ((A 6) (F 10)) ((A 7) (F 10))) else (-1 : Int32)) else (-1 : Int32)) else (-1 : Int32)) + (1 : Int32)))) (if (F 10) < (F 7) then (if (F 10) < (15 : Int32) then (if ((A 8) (F 10)) = 0 then (R_nextTarget F A ((A 6) (F 10)) ((A 7) (F 10))) else (-1 : Int32)) else (-1 : Int32)) else (-1 : Int32)) (F 10)) = 0 then (0 : Int32) else (1 : Int32)))))) ).2.1, (R_emitStack (ups F 10 ((F 10) + (1 : Int32))) (ups (ups (ups (ups A 7 (ups (A 7) (F 10) ((if (F 10) < (F 7) then (if (F 10) < (15 : Int32) then (if ((A 8) (F 10)) = 0 then (R_nextTarget F A ((A 6) (F 10)) ((A 7) (F 10))) else (-1 : Int32)) else (-1 : Int32)) else (-1 : Int32)) + (1 : Int32)))) 6 (ups (A 6) ((F 10) + (1 : Int32)) (if (F 10) < (F 7) then (if (F 10) < (15 : Int32) then (if ((A 8) (F 10)) = 0 then (R_nextTarget F A ((A 6) (F 10)) ((A 7) (F 10))) else (-1 : Int32)) else (-1 : Int32)) else (-1 : Int32)))) 7 (ups (ups (A 7) (F 10) ((if (F 10) < (F 7) then (if (F 10) < (15 : Int32) then (if ((A 8) (F 10)) = 0 then (R_nextTarget F A ((A 6) (F 10)) ((A 7) (F 10))) else (-1 : Int32)) else (-1 : Int32)) else (-1 : Int32)) + (1 : Int32))) ((F 10) + (1 : Int32)) (0 : Int32))) 8 (ups (A 8) ((F 10) + (1 : Int32)) (nar .boolean (if (F 6) = 0 then (0 : Int32) else (if (R_onStack (ups A 7 (ups (A 7) (F 10) ((if (F 10) < (F 7) then (if (F 10) < (15 : Int32) then (if ((A 8) (F 10)) = 0 then (R_nextTarget F A ((A 6) (F 10)) ((A 7) (F 10))) else (-1 : Int32)) else (-1 : Int32)) else (-1 : Int32)) + (1 : Int32)))) (if (F 10) < (F 7) then (if (F 10) < (15 : Int32) then (if ((A 8) (F 10)) = 0 then (R_nextTarget F A ((A 6) (F 10)) ((A 7) (F 10))) else (-1 : Int32)) else (-1 : Int32)) else (-1 : Int32)) (F 10)) = 0 then (0 : Int32) else (1 : Int32)))))) ).2.2) else lp_walkFrom n 37 (v2 + (1 : Int32)) (R_emitStack (ups F 10 ((F 10) + (1 : Int32))) (ups (ups (ups (ups A 7 (ups (A 7) (F 10) ((if (F 10) < (F 7) then (if (F 10) < (15 : Int32) then (if ((A 8) (F 10)) = 0 then (R_nextTarget F A ((A 6) (F 10)) ((A 7) (F 10))) else (-1 : Int32)) else (-1 : Int32)) else (-1 : Int32)) + (1 : Int32)))) 6 (ups (A 6) ((F 10) + (1 : Int32)) (if (F 10) < (F 7) then (if (F 10) < (15 : Int32) then (if ((A 8) (F 10)) = 0 then (R_nextTarget F A ((A 6) (F 10)) ((A 7) (F 10))) else (-1 : Int32)) else (-1 : Int32)) else (-1 : Int32)))) 7 (ups (ups (A 7) (F 10) ((if (F 10) < (F 7) then (if (F 10) < (15 : Int32) then (if ((A 8) (F 10)) = 0 then (R_nextTarget F A ((A 6) (F 10)) ((A 7) (F 10))) else (-1 : Int32)) else (-1 : Int32)) else (-1 : Int32)) + (1 : Int32))) ((F 10) + (1 : Int32)) (0 : Int32))) 8 (ups (A 8) ((F 10) + (1 : Int32)) (nar .boolean (if (F 6) = 0 then (0 : Int32) else (if (R_onStack (ups A 7 (ups (A 7) (F 10) ((if (F 10) < (F 7) then (if (F 10) < (15 : Int32) then (if ((A 8) (F 10)) = 0 then (R_nextTarget F A ((A 6) (F 10)) ((A 7) (F 10))) else (-1 : Int32)) else (-1 : Int32)) else (-1 : Int32)) + (1 : Int32)))) (if (F 10) < (F 7) then (if (F 10) < (15 : Int32) then (if ((A 8) (F 10)) = 0 then (R_nextTarget F A ((A 6) (F 10)) ((A 7) (F 10))) else (-1 : Int32)) else (-1 : Int32)) else (-1 : Int32)) (F 10)) = 0 then (0 : Int32) else (1 : Int32)))))) ).2.1 (R_emitStack (ups F 10 ((F 10) + (1 : Int32))) (ups (ups (ups (ups A 7 (ups (A 7) (F 10) ((if (F 10) < (F 7) then (if (F 10) < (15 : Int32) then (if ((A 8) (F 10)) = 0 then (R_nextTarget F A ((A 6) (F 10)) ((A 7) (F 10))) else (-1 : Int32)) else (-1 : Int32)) else (-1 : Int32)) + (1 : Int32)))) 6 (ups (A 6) ((F 10) + (1 : Int32)) (if (F 10) < (F 7) then (if (F 10) < (15 : Int32) then (if ((A 8) (F 10)) = 0 then (R_nextTarget F A ((A 6) (F 10)) ((A 7) (F 10))) else (-1 : Int32)) else (-1 : Int32)) else (-1 : Int32)))) 7 (ups (ups (A 7) (F 10) ((if (F 10) < (F 7) then (if (F 10) < (15 : Int32) then (if ((A 8) (F 10)) = 0 then (R_nextTarget F A ((A 6) (F 10)) ((A 7) (F 10))) else (-1 : Int32)) else (-1 : Int32)) else (-1 : Int32)) + (1 : Int32))) ((F 10) + (1 : Int32)) (0 : Int32))) 8 (ups (A 8) ((F 10) + (1 : Int32)) (nar .boolean (if (F 6) = 0 then (0 : Int32) else (if (R_onStack (ups A 7 (ups (A 7) (F 10) ((if (F 10) < (F 7) then (if (F 10) < (15 : Int32) then (if ((A 8) (F 10)) = 0 then (R_nextTarget F A ((A 6) (F 10)) ((A 7) (F 10))) else (-1 : Int32)) else (-1 : Int32)) else (-1 : Int32)) + (1 : Int32)))) (if (F 10) < (F 7) then (if (F 10) < (15 : Int32) then (if ((A 8) (F 10)) = 0 then (R_nextTarget F A ((A 6) (F 10)) ((A 7) (F 10))) else (-1 : Int32)) else (-1 : Int32)) else (-1 : Int32)) (F 10)) = 0 then (0 : Int32) else (1 : Int32)))))) ).2.2) else none)) else none)) else some ((1 : Int32), F, A)) else none
theorem lp_walkFrom_z (tag : Nat) (v2 : Int32) (F : Nat → Int32) (A : Nat → Int32 → Int32) : lp_walkFrom 0 tag v2 F A = none := Eq.trans rfl rfl
theorem lp_walkFrom_37 (n : Nat) (v2 : Int32) (F : Nat → Int32) (A : Nat → Int32 → Int32) : lp_walkFrom (n + 1) 37 v2 F A = (if v2 < (400 : Int32) then (if (F 10) < 0 then some ((1 : Int32), F, A) else (if ((F 10) < (F 7) → (F 10) < (15 : Int32) → (F 10) < (16 : Int32)) ∧ ((F 10) < (F 7) → (F 10) < (15 : Int32) → ((A 8) (F 10)) = 0 → (F 10) < (16 : Int32)) ∧ ((F 10) < (F 7) → (F 10) < (15 : Int32) → ((A 8) (F 10)) = 0 → (en_nextTarget F A ((A 6) (F 10)) ((A 7) (F 10))).isSome = true) then (if (if (F 10) < (F 7) then (if (F 10) < (15 : Int32) then (if ((A 8) (F 10)) = 0 then (R_nextTarget F A ((A 6) (F 10)) ((A 7) (F 10))) else (-1 : Int32)) else (-1 : Int32)) else (-1 : Int32)) < 0 then lp_walkFrom n 37 (v2 + (1 : Int32)) (ups F 10 ((F 10) - (1 : Int32))) A else (if ((F 10) < (16 : Int32)) ∧ (¬ (F 6) = 0 → (en_onStack (ups A 7 (ups (A 7) (F 10) ((if (F 10) < (F 7) then (if (F 10) < (15 : Int32) then (if ((A 8) (F 10)) = 0 then (R_nextTarget F A ((A 6) (F 10)) ((A 7) (F 10))) else (-1 : Int32)) else (-1 : Int32)) else (-1 : Int32)) + (1 : Int32)))) (if (F 10) < (F 7) then (if (F 10) < (15 : Int32) then (if ((A 8) (F 10)) = 0 then (R_nextTarget F A ((A 6) (F 10)) ((A 7) (F 10))) else (-1 : Int32)) else (-1 : Int32)) else (-1 : Int32)) (F 10)).isSome = true) ∧ (¬ ((F 10) + (1 : Int32)) < 0) ∧ (((F 10) + (1 : Int32)) < (16 : Int32)) ∧ ((en_emitStack (ups F 10 ((F 10) + (1 : Int32))) (ups (ups (ups (ups A 7 (ups (A 7) (F 10) ((if (F 10) < (F 7) then (if (F 10) < (15 : Int32) then (if ((A 8) (F 10)) = 0 then (R_nextTarget F A ((A 6) (F 10)) ((A 7) (F 10))) else (-1 : Int32)) else (-1 : Int32)) else (-1 : Int32)) + (1 : Int32)))) 6 (ups (A 6) ((F 10) + (1 : Int32)) (if (F 10) < (F 7) then (if (F 10) < (15 : Int32) then (if ((A 8) (F 10)) = 0 then (R_nextTarget F A ((A 6) (F 10)) ((A 7) (F 10))) else (-1 : Int32)) else (-1 : Int32)) else (-1 : Int32)))) 7 (ups (ups (A 7) (F 10) ((if (F 10) < (F 7) then (if (F 10) < (15 : Int32) then (if ((A 8) (F 10)) = 0 then (R_nextTarget F A ((A 6) (F 10)) ((A 7) (F 10))) else (-1 : Int32)) else (-1 : Int32)) else (-1 : Int32)) + (1 : Int32))) ((F 10) + (1 : Int32)) (0 : Int32))) 8 (ups (A 8) ((F 10) + (1 : Int32)) (nar .boolean (if (F 6) = 0 then (0 : Int32) else (if (R_onStack (ups A 7 (ups (A 7) (F 10) ((if (F 10) < (F 7) then (if (F 10) < (15 : Int32) then (if ((A 8) (F 10)) = 0 then (R_nextTarget F A ((A 6) (F 10)) ((A 7) (F 10))) else (-1 : Int32)) else (-1 : Int32)) else (-1 : Int32)) + (1 : Int32)))) (if (F 10) < (F 7) then (if (F 10) < (15 : Int32) then (if ((A 8) (F 10)) = 0 then (R_nextTarget F A ((A 6) (F 10)) ((A 7) (F 10))) else (-1 : Int32)) else (-1 : Int32)) else (-1 : Int32)) (F 10)) = 0 then (0 : Int32) else (1 : Int32)))))) ).isSome = true) then (if (R_emitStack (ups F 10 ((F 10) + (1 : Int32))) (ups (ups (ups (ups A 7 (ups (A 7) (F 10) ((if (F 10) < (F 7) then (if (F 10) < (15 : Int32) then (if ((A 8) (F 10)) = 0 then (R_nextTarget F A ((A 6) (F 10)) ((A 7) (F 10))) else (-1 : Int32)) else (-1 : Int32)) else (-1 : Int32)) + (1 : Int32)))) 6 (ups (A 6) ((F 10) + (1 : Int32)) (if (F 10) < (F 7) then (if (F 10) < (15 : Int32) then (if ((A 8) (F 10)) = 0 then (R_nextTarget F A ((A 6) (F 10)) ((A 7) (F 10))) else (-1 : Int32)) else (-1 : Int32)) else (-1 : Int32)))) 7 (ups (ups (A 7) (F 10) ((if (F 10) < (F 7) then (if (F 10) < (15 : Int32) then (if ((A 8) (F 10)) = 0 then (R_nextTarget F A ((A 6) (F 10)) ((A 7) (F 10))) else (-1 : Int32)) else (-1 : Int32)) else (-1 : Int32)) + (1 : Int32))) ((F 10) + (1 : Int32)) (0 : Int32))) 8 (ups (A 8) ((F 10) + (1 : Int32)) (nar .boolean (if (F 6) = 0 then (0 : Int32) else (if (R_onStack (ups A 7 (ups (A 7) (F 10) ((if (F 10) < (F 7) then (if (F 10) < (15 : Int32) then (if ((A 8) (F 10)) = 0 then (R_nextTarget F A ((A 6) (F 10)) ((A 7) (F 10))) else (-1 : Int32)) else (-1 : Int32)) else (-1 : Int32)) + (1 : Int32)))) (if (F 10) < (F 7) then (if (F 10) < (15 : Int32) then (if ((A 8) (F 10)) = 0 then (R_nextTarget F A ((A 6) (F 10)) ((A 7) (F 10))) else (-1 : Int32)) else (-1 : Int32)) else (-1 : Int32)) (F 10)) = 0 then (0 : Int32) else (1 : Int32)))))) ).1 = 0 then some ((0 : Int32), (R_emitStack (ups F 10 ((F 10) + (1 : Int32))) (ups (ups (ups (ups A 7 (ups (A 7) (F 10) ((if (F 10) < (F 7) then (if (F 10) < (15 : Int32) then (if ((A 8) (F 10)) = 0 then (R_nextTarget F A ((A 6) (F 10)) ((A 7) (F 10))) else (-1 : Int32)) else (-1 : Int32)) else (-1 : Int32)) + (1 : Int32)))) 6 (ups (A 6) ((F 10) + (1 : Int32)) (if (F 10) < (F 7) then (if (F 10) < (15 : Int32) then (if ((A 8) (F 10)) = 0 then (R_nextTarget F A ((A 6) (F 10)) ((A 7) (F 10))) else (-1 : Int32)) else (-1 : Int32)) else (-1 : Int32)))) 7 (ups (ups (A 7) (F 10) ((if (F 10) < (F 7) then (if (F 10) < (15 : Int32) then (if ((A 8) (F 10)) = 0 then (R_nextTarget F A ((A 6) (F 10)) ((A 7) (F 10))) else (-1 : Int32)) else (-1 : Int32)) else (-1 : Int32)) + (1 : Int32))) ((F 10) + (1 : Int32)) (0 : Int32))) 8 (ups (A 8) ((F 10) + (1 : Int32)) (nar .boolean (if (F 6) = 0 then (0 : Int32) else (if (R_onStack (ups A 7 (ups (A 7) (F 10) ((if (F 10) < (F 7) then (if (F 10) < (15 : Int32) then (if ((A 8) (F 10)) = 0 then (R_nextTarget F A ((A 6) (F 10)) ((A 7) (F 10))) else (-1 : Int32)) else (-1 : Int32)) else (-1 : Int32)) + (1 : Int32)))) (if (F 10) < (F 7) then (if (F 10) < (15 : Int32) then (if ((A 8) (F 10)) = 0 then (R_nextTarget F A ((A 6) (F 10)) ((A 7) (F 10))) else (-1 : Int32)) else (-1 : Int32)) else (-1 : Int32)) (F 10)) = 0 then (0 : Int32) else (1 : Int32)))))) ).2.1, (R_emitStack (ups F 10 ((F 10) + (1 : Int32))) (ups (ups (ups (ups A 7 (ups (A 7) (F 10) ((if (F 10) < (F 7) then (if (F 10) < (15 : Int32) then (if ((A 8) (F 10)) = 0 then (R_nextTarget F A ((A 6) (F 10)) ((A 7) (F 10))) else (-1 : Int32)) else (-1 : Int32)) else (-1 : Int32)) + (1 : Int32)))) 6 (ups (A 6) ((F 10) + (1 : Int32)) (if (F 10) < (F 7) then (if (F 10) < (15 : Int32) then (if ((A 8) (F 10)) = 0 then (R_nextTarget F A ((A 6) (F 10)) ((A 7) (F 10))) else (-1 : Int32)) else (-1 : Int32)) else (-1 : Int32)))) 7 (ups (ups (A 7) (F 10) ((if (F 10) < (F 7) then (if (F 10) < (15 : Int32) then (if ((A 8) (F 10)) = 0 then (R_nextTarget F A ((A 6) (F 10)) ((A 7) (F 10))) else (-1 : Int32)) else (-1 : Int32)) else (-1 : Int32)) + (1 : Int32))) ((F 10) + (1 : Int32)) (0 : Int32))) 8 (ups (A 8) ((F 10) + (1 : Int32)) (nar .boolean (if (F 6) = 0 then (0 : Int32) else (if (R_onStack (ups A 7 (ups (A 7) (F 10) ((if (F 10) < (F 7) then (if (F 10) < (15 : Int32) then (if ((A 8) (F 10)) = 0 then (R_nextTarget F A ((A 6) (F 10)) ((A 7) (F 10))) else (-1 : Int32)) else (-1 : Int32)) else (-1 : Int32)) + (1 : Int32)))) (if (F 10) < (F 7) then (if (F 10) < (15 : Int32) then (if ((A 8) (F 10)) = 0 then (R_nextTarget F A ((A 6) (F 10)) ((A 7) (F 10))) else (-1 : Int32)) else (-1 : Int32)) else (-1 : Int32)) (F 10)) = 0 then (0 : Int32) else (1 : Int32)))))) ).2.2) else lp_walkFrom n 37 (v2 + (1 : Int32)) (R_emitStack (ups F 10 ((F 10) + (1 : Int32))) (ups (ups (ups (ups A 7 (ups (A 7) (F 10) ((if (F 10) < (F 7) then (if (F 10) < (15 : Int32) then (if ((A 8) (F 10)) = 0 then (R_nextTarget F A ((A 6) (F 10)) ((A 7) (F 10))) else (-1 : Int32)) else (-1 : Int32)) else (-1 : Int32)) + (1 : Int32)))) 6 (ups (A 6) ((F 10) + (1 : Int32)) (if (F 10) < (F 7) then (if (F 10) < (15 : Int32) then (if ((A 8) (F 10)) = 0 then (R_nextTarget F A ((A 6) (F 10)) ((A 7) (F 10))) else (-1 : Int32)) else (-1 : Int32)) else (-1 : Int32)))) 7 (ups (ups (A 7) (F 10) ((if (F 10) < (F 7) then (if (F 10) < (15 : Int32) then (if ((A 8) (F 10)) = 0 then (R_nextTarget F A ((A 6) (F 10)) ((A 7) (F 10))) else (-1 : Int32)) else (-1 : Int32)) else (-1 : Int32)) + (1 : Int32))) ((F 10) + (1 : Int32)) (0 : Int32))) 8 (ups (A 8) ((F 10) + (1 : Int32)) (nar .boolean (if (F 6) = 0 then (0 : Int32) else (if (R_onStack (ups A 7 (ups (A 7) (F 10) ((if (F 10) < (F 7) then (if (F 10) < (15 : Int32) then (if ((A 8) (F 10)) = 0 then (R_nextTarget F A ((A 6) (F 10)) ((A 7) (F 10))) else (-1 : Int32)) else (-1 : Int32)) else (-1 : Int32)) + (1 : Int32)))) (if (F 10) < (F 7) then (if (F 10) < (15 : Int32) then (if ((A 8) (F 10)) = 0 then (R_nextTarget F A ((A 6) (F 10)) ((A 7) (F 10))) else (-1 : Int32)) else (-1 : Int32)) else (-1 : Int32)) (F 10)) = 0 then (0 : Int32) else (1 : Int32)))))) ).2.1 (R_emitStack (ups F 10 ((F 10) + (1 : Int32))) (ups (ups (ups (ups A 7 (ups (A 7) (F 10) ((if (F 10) < (F 7) then (if (F 10) < (15 : Int32) then (if ((A 8) (F 10)) = 0 then (R_nextTarget F A ((A 6) (F 10)) ((A 7) (F 10))) else (-1 : Int32)) else (-1 : Int32)) else (-1 : Int32)) + (1 : Int32)))) 6 (ups (A 6) ((F 10) + (1 : Int32)) (if (F 10) < (F 7) then (if (F 10) < (15 : Int32) then (if ((A 8) (F 10)) = 0 then (R_nextTarget F A ((A 6) (F 10)) ((A 7) (F 10))) else (-1 : Int32)) else (-1 : Int32)) else (-1 : Int32)))) 7 (ups (ups (A 7) (F 10) ((if (F 10) < (F 7) then (if (F 10) < (15 : Int32) then (if ((A 8) (F 10)) = 0 then (R_nextTarget F A ((A 6) (F 10)) ((A 7) (F 10))) else (-1 : Int32)) else (-1 : Int32)) else (-1 : Int32)) + (1 : Int32))) ((F 10) + (1 : Int32)) (0 : Int32))) 8 (ups (A 8) ((F 10) + (1 : Int32)) (nar .boolean (if (F 6) = 0 then (0 : Int32) else (if (R_onStack (ups A 7 (ups (A 7) (F 10) ((if (F 10) < (F 7) then (if (F 10) < (15 : Int32) then (if ((A 8) (F 10)) = 0 then (R_nextTarget F A ((A 6) (F 10)) ((A 7) (F 10))) else (-1 : Int32)) else (-1 : Int32)) else (-1 : Int32)) + (1 : Int32)))) (if (F 10) < (F 7) then (if (F 10) < (15 : Int32) then (if ((A 8) (F 10)) = 0 then (R_nextTarget F A ((A 6) (F 10)) ((A 7) (F 10))) else (-1 : Int32)) else (-1 : Int32)) else (-1 : Int32)) (F 10)) = 0 then (0 : Int32) else (1 : Int32)))))) ).2.2) else none)) else none)) else some ((1 : Int32), F, A)) := by
  rw [lp_walkFrom, if_pos rfl]
set_option maxRecDepth 65536 in
set_option maxHeartbeats 4000000 in
theorem lpw_walkFrom {l : Launch} {Z : State} {a0 : Array Value} (H : OK Z a0) (G : Nat → Int64) (B : Nat → Int32 → Int64) : ∀ (n : Nat) (v2 : Int32) (F : Nat → Int32) (A : Nat → Int32 → Int32) (r : Int32 × (Nat → Int32) × (Nat → Int32 → Int32)), (lp_walkFrom n 37 v2 F A = some r → Wk l Z (MoC Z cdC) md_walkFrom 37 [.val (.ref 0), .unset, .val (.int v2), .unset, .unset, .unset] [] (10, F, G, A, B) 0 0 (fun v w' => v = some (.int r.1) ∧ w' = (10, r.2.1, G, r.2.2, B))) := by
  intro n
  induction n with
  | zero =>
    intro v2 F A r
    exact (fun h => by rw [lp_walkFrom_z] at h; cases h)
  | succ n ih =>
    intro v2 F A r
    refine fun h => ?_
    · rw [lp_walkFrom_37] at h
      exact wp_walkFrom_37 H F G A B v2 (fun q1 => (by have e := Option.some.inj (ifn q1 h); subst e; exact ⟨rfl, rfl⟩)) (fun q1 q3 => (by have e := Option.some.inj (ifp q3 (ifp q1 h)); subst e; exact ⟨rfl, rfl⟩)) (fun q1 q3 q5 q6 => ((gd (ifn q3 (ifp q1 h))).1.1) q5 q6) (fun q1 q3 q5 q6 q8 => ((gd (ifn q3 (ifp q1 h))).1.2.1) q5 q6 q8) (fun q1 q3 q5 q6 q8 => ((gd (ifn q3 (ifp q1 h))).1.2.2) q5 q6 q8) (fun q1 q3 q14 => (gd (ifn q14 (gd (ifn q3 (ifp q1 h))).2)).1.1) (fun q1 q3 q14 q16 => ((gd (ifn q14 (gd (ifn q3 (ifp q1 h))).2)).1.2.1) q16) (fun q1 q3 q14 => (gd (ifn q14 (gd (ifn q3 (ifp q1 h))).2)).1.2.2.1) (fun q1 q3 q14 => (gd (ifn q14 (gd (ifn q3 (ifp q1 h))).2)).1.2.2.2.1) (fun q1 q3 q14 => (gd (ifn q14 (gd (ifn q3 (ifp q1 h))).2)).1.2.2.2.2) (fun q1 q3 q14 q24 => (ih _ _ _ _) (ifn q24 (gd (ifn q14 (gd (ifn q3 (ifp q1 h))).2)).2)) (fun q1 q3 q14 q24 => (by have e := Option.some.inj (ifp q24 (gd (ifn q14 (gd (ifn q3 (ifp q1 h))).2)).2); subst e; exact ⟨rfl, rfl⟩)) (fun q1 q3 q14 => (ih _ _ _ _) (ifp q14 (gd (ifn q3 (ifp q1 h))).2))
def en_walkFrom (F : Nat → Int32) (A : Nat → Int32 → Int32) (p1 : Int32) : Option (Int32 × (Nat → Int32) × (Nat → Int32 → Int32)) := (if ((en_emitStack (ups F 10 (0 : Int32)) (ups (ups (ups A 6 (ups (A 6) (0 : Int32) p1)) 7 (ups (A 7) (0 : Int32) (0 : Int32))) 8 (ups (A 8) (0 : Int32) (0 : Int32))) ).isSome = true) then (if (R_emitStack (ups F 10 (0 : Int32)) (ups (ups (ups A 6 (ups (A 6) (0 : Int32) p1)) 7 (ups (A 7) (0 : Int32) (0 : Int32))) 8 (ups (A 8) (0 : Int32) (0 : Int32))) ).1 = 0 then some ((0 : Int32), (R_emitStack (ups F 10 (0 : Int32)) (ups (ups (ups A 6 (ups (A 6) (0 : Int32) p1)) 7 (ups (A 7) (0 : Int32) (0 : Int32))) 8 (ups (A 8) (0 : Int32) (0 : Int32))) ).2.1, (R_emitStack (ups F 10 (0 : Int32)) (ups (ups (ups A 6 (ups (A 6) (0 : Int32) p1)) 7 (ups (A 7) (0 : Int32) (0 : Int32))) 8 (ups (A 8) (0 : Int32) (0 : Int32))) ).2.2) else lp_walkFrom 1000 37 (0 : Int32) (R_emitStack (ups F 10 (0 : Int32)) (ups (ups (ups A 6 (ups (A 6) (0 : Int32) p1)) 7 (ups (A 7) (0 : Int32) (0 : Int32))) 8 (ups (A 8) (0 : Int32) (0 : Int32))) ).2.1 (R_emitStack (ups F 10 (0 : Int32)) (ups (ups (ups A 6 (ups (A 6) (0 : Int32) p1)) 7 (ups (A 7) (0 : Int32) (0 : Int32))) 8 (ups (A 8) (0 : Int32) (0 : Int32))) ).2.2) else none)
theorem een_walkFrom (F : Nat → Int32) (A : Nat → Int32 → Int32) (p1 : Int32) : en_walkFrom F A p1 = (if ((en_emitStack (ups F 10 (0 : Int32)) (ups (ups (ups A 6 (ups (A 6) (0 : Int32) p1)) 7 (ups (A 7) (0 : Int32) (0 : Int32))) 8 (ups (A 8) (0 : Int32) (0 : Int32))) ).isSome = true) then (if (R_emitStack (ups F 10 (0 : Int32)) (ups (ups (ups A 6 (ups (A 6) (0 : Int32) p1)) 7 (ups (A 7) (0 : Int32) (0 : Int32))) 8 (ups (A 8) (0 : Int32) (0 : Int32))) ).1 = 0 then some ((0 : Int32), (R_emitStack (ups F 10 (0 : Int32)) (ups (ups (ups A 6 (ups (A 6) (0 : Int32) p1)) 7 (ups (A 7) (0 : Int32) (0 : Int32))) 8 (ups (A 8) (0 : Int32) (0 : Int32))) ).2.1, (R_emitStack (ups F 10 (0 : Int32)) (ups (ups (ups A 6 (ups (A 6) (0 : Int32) p1)) 7 (ups (A 7) (0 : Int32) (0 : Int32))) 8 (ups (A 8) (0 : Int32) (0 : Int32))) ).2.2) else lp_walkFrom 1000 37 (0 : Int32) (R_emitStack (ups F 10 (0 : Int32)) (ups (ups (ups A 6 (ups (A 6) (0 : Int32) p1)) 7 (ups (A 7) (0 : Int32) (0 : Int32))) 8 (ups (A 8) (0 : Int32) (0 : Int32))) ).2.1 (R_emitStack (ups F 10 (0 : Int32)) (ups (ups (ups A 6 (ups (A 6) (0 : Int32) p1)) 7 (ups (A 7) (0 : Int32) (0 : Int32))) 8 (ups (A 8) (0 : Int32) (0 : Int32))) ).2.2) else none) := Eq.trans rfl rfl
def R_walkFrom (F : Nat → Int32) (A : Nat → Int32 → Int32) (p1 : Int32) : Int32 × (Nat → Int32) × (Nat → Int32 → Int32) := (en_walkFrom F A p1).getD (0, (fun _ => 0), (fun _ _ => 0))
theorem eR_walkFrom (F : Nat → Int32) (A : Nat → Int32 → Int32) (p1 : Int32) : R_walkFrom F A p1 = (en_walkFrom F A p1).getD (0, (fun _ => 0), (fun _ _ => 0)) := Eq.trans rfl rfl
set_option maxRecDepth 65536 in
set_option maxHeartbeats 4000000 in
theorem run_walkFrom {l : Launch} {Z : State} {a0 : Array Value} (H : OK Z a0) (F : Nat → Int32) (G : Nat → Int64) (A : Nat → Int32 → Int32) (B : Nat → Int32 → Int64) (p1 : Int32) (e1 : (en_walkFrom F A p1).isSome = true) :
    Wk l Z (MoC Z cdC) md_walkFrom 0 [.val (.ref 0), .val (.int p1), .unset, .unset, .unset, .unset] [] (10, F, G, A, B) 0 0 (fun v w' => v = some (.int (R_walkFrom F A p1).1) ∧ w' = (10, (R_walkFrom F A p1).2.1, G, (R_walkFrom F A p1).2.2, B)) := by
  obtain ⟨r, h⟩ := Option.isSome_iff_exists.mp e1
  have e : R_walkFrom F A p1 = r := (eR_walkFrom F A p1).trans (getD_some h)
  rw [e]
  rw [een_walkFrom] at h
  exact wp_walkFrom H F G A B p1 ((gd h).1) (fun q2 => (lpw_walkFrom H G B _ _ _ _ _) (ifn q2 (gd h).2)) (fun q2 => (by have e := Option.some.inj (ifp q2 (gd h).2); subst e; exact ⟨rfl, rfl⟩))
set_option maxRecDepth 65536 in
set_option maxHeartbeats 4000000 in
theorem wp_runDepthFirstAll {l : Launch} {Z : State} {a0 : Array Value} (H : OK Z a0) (F : Nat → Int32) (G : Nat → Int64) (A : Nat → Int32 → Int32) (B : Nat → Int32 → Int64) {Q : Option Value → WO → Prop} (h1 : Wk l Z (MoC Z cdC) md_runDepthFirstAll 2 [.val (.ref 0), .val (.int (0 : Int32))] [] (10, F, G, A, B) 0 0 Q) :
    Wk l Z (MoC Z cdC) md_runDepthFirstAll 0 [.val (.ref 0), .unset] [] (10, F, G, A, B) 0 0 Q := by
  refine Wk.iconst o_runDepthFirstAll_0 (z := (0 : Int32)) (by decide) ?_
  refine Wk.istoreN o_runDepthFirstAll_1 (Or.inl rfl) (L' := [.val (.ref 0), .val (.int (0 : Int32))]) rfl ?_
  exact h1

set_option maxRecDepth 65536 in
set_option maxHeartbeats 4000000 in
theorem wp_runDepthFirstAll_2 {l : Launch} {Z : State} {a0 : Array Value} (H : OK Z a0) (F : Nat → Int32) (G : Nat → Int64) (A : Nat → Int32 → Int32) (B : Nat → Int32 → Int64) (v1 : Int32) {Q : Option Value → WO → Prop} (h2 : ¬ v1 < (F 0) → Q (some (.int (1 : Int32))) (10, F, G, A, B)) (h4 : v1 < (F 0) → ¬ v1 < (16 : Int32) → Q (some (.int (1 : Int32))) (10, F, G, A, B)) (s5 : v1 < (F 0) → v1 < (16 : Int32) → ¬ v1 < 0) (h7 : v1 < (F 0) → v1 < (16 : Int32) → ((A 1) v1) = 0 → Wk l Z (MoC Z cdC) md_runDepthFirstAll 2 [.val (.ref 0), .val (.int (v1 + (1 : Int32)))] [] (10, F, G, A, B) 0 0 Q) (s8 : v1 < (F 0) → v1 < (16 : Int32) → ¬ ((A 1) v1) = 0 → (en_walkFrom F A v1).isSome = true) (h10 : v1 < (F 0) → v1 < (16 : Int32) → ¬ ((A 1) v1) = 0 → ¬ (R_walkFrom F A v1).1 = 0 → Wk l Z (MoC Z cdC) md_runDepthFirstAll 2 [.val (.ref 0), .val (.int (v1 + (1 : Int32)))] [] (10, (R_walkFrom F A v1).2.1, G, (R_walkFrom F A v1).2.2, B) 0 0 Q) (h11 : v1 < (F 0) → v1 < (16 : Int32) → ¬ ((A 1) v1) = 0 → (R_walkFrom F A v1).1 = 0 → Q (some (.int (0 : Int32))) (10, (R_walkFrom F A v1).2.1, G, (R_walkFrom F A v1).2.2, B)) :
    Wk l Z (MoC Z cdC) md_runDepthFirstAll 2 [.val (.ref 0), .val (.int v1)] [] (10, F, G, A, B) 0 0 Q := by
  refine Wk.iloadN o_runDepthFirstAll_2 rfl ?_
  refine Wk.aloadN o_runDepthFirstAll_3 rfl ?_
  refine Wk.getI (mI_maxNodes) (wf_maxNodes H) o_runDepthFirstAll_4 (x := (F 0)) rfl ?_
  refine Wk.icmp_ge o_runDepthFirstAll_7 (fun q1 => ?_) (fun q1 => ?_)
  · refine Wk.iconst o_runDepthFirstAll_41 (z := (1 : Int32)) (by decide) ?_
    exact Wk.zreturn mrC rfl o_runDepthFirstAll_42 rfl (by decide) (by decide) (y := (1 : Int32)) (by decide) (h2 q1)
  · refine Wk.iloadN o_runDepthFirstAll_10 rfl ?_
    refine Wk.bipush o_runDepthFirstAll_11 (z := (16 : Int32)) (by decide) ?_
    refine Wk.icmp_ge o_runDepthFirstAll_13 (fun q3 => ?_) (fun q3 => ?_)
    · refine Wk.iconst o_runDepthFirstAll_41 (z := (1 : Int32)) (by decide) ?_
      exact Wk.zreturn mrC rfl o_runDepthFirstAll_42 rfl (by decide) (by decide) (y := (1 : Int32)) (by decide) (h4 q1 q3)
    · refine Wk.aloadN o_runDepthFirstAll_16 rfl ?_
      refine Wk.getA (mA_seed) (by decide) (i' := 2) rfl (wf_seed H) o_runDepthFirstAll_17 ?_
      refine Wk.iloadN o_runDepthFirstAll_20 rfl ?_
      refine Wk.baload (mA_seed) (by decide) (i' := 2) rfl (s5 q1 q3) q3 o_runDepthFirstAll_21 (y := ((A 1) v1)) rfl ?_
      refine Wk.if_eq o_runDepthFirstAll_22 (fun q6 => ?_) (fun q6 => ?_)
      · refine Wk.iinc o_runDepthFirstAll_35 rfl (z := (v1 + (1 : Int32))) rfl (L' := [.val (.ref 0), .val (.int (v1 + (1 : Int32)))]) rfl ?_
        refine Wk.goto o_runDepthFirstAll_38 ?_
        exact (h7 q1 q3 q6)
      · refine Wk.aloadN o_runDepthFirstAll_25 rfl ?_
        refine Wk.iloadN o_runDepthFirstAll_26 rfl ?_
        refine Wk.callF [.int v1] [] (H.w 84 rfl) (cv_walkFrom H) o_runDepthFirstAll_27 (run_walkFrom H F G A B v1 (s8 q1 q3 q6)) (wt := 0) (cu' := 0) (su' := 0) (by decide) rfl rfl rfl rfl rfl rfl rfl ?_
        refine Wk.if_ne o_runDepthFirstAll_30 (fun q9 => ?_) (fun q9 => ?_)
        · refine Wk.iinc o_runDepthFirstAll_35 rfl (z := (v1 + (1 : Int32))) rfl (L' := [.val (.ref 0), .val (.int (v1 + (1 : Int32)))]) rfl ?_
          refine Wk.goto o_runDepthFirstAll_38 ?_
          exact (h10 q1 q3 q6 q9)
        · refine Wk.iconst o_runDepthFirstAll_33 (z := (0 : Int32)) (by decide) ?_
          exact Wk.zreturn mrC rfl o_runDepthFirstAll_34 rfl (by decide) (by decide) (y := (0 : Int32)) (by decide) (h11 q1 q3 q6 q9)

def lp_runDepthFirstAll : Nat → Nat → Int32 → (Nat → Int32) → (Nat → Int32 → Int32) → Option (Int32 × (Nat → Int32) × (Nat → Int32 → Int32))
  | 0, _, _, _, _ => none
  | n + 1, tag, v1, F, A => if tag = 2 then (if v1 < (F 0) then (if v1 < (16 : Int32) then (if (¬ v1 < 0) then (if ((A 1) v1) = 0 then lp_runDepthFirstAll n 2 (v1 + (1 : Int32)) F A else (if ((en_walkFrom F A v1).isSome = true) then (if (R_walkFrom F A v1).1 = 0 then some ((0 : Int32), (R_walkFrom F A v1).2.1, (R_walkFrom F A v1).2.2) else lp_runDepthFirstAll n 2 (v1 + (1 : Int32)) (R_walkFrom F A v1).2.1 (R_walkFrom F A v1).2.2) else none)) else none) else some ((1 : Int32), F, A)) else some ((1 : Int32), F, A)) else none
theorem lp_runDepthFirstAll_z (tag : Nat) (v1 : Int32) (F : Nat → Int32) (A : Nat → Int32 → Int32) : lp_runDepthFirstAll 0 tag v1 F A = none := Eq.trans rfl rfl
theorem lp_runDepthFirstAll_2 (n : Nat) (v1 : Int32) (F : Nat → Int32) (A : Nat → Int32 → Int32) : lp_runDepthFirstAll (n + 1) 2 v1 F A = (if v1 < (F 0) then (if v1 < (16 : Int32) then (if (¬ v1 < 0) then (if ((A 1) v1) = 0 then lp_runDepthFirstAll n 2 (v1 + (1 : Int32)) F A else (if ((en_walkFrom F A v1).isSome = true) then (if (R_walkFrom F A v1).1 = 0 then some ((0 : Int32), (R_walkFrom F A v1).2.1, (R_walkFrom F A v1).2.2) else lp_runDepthFirstAll n 2 (v1 + (1 : Int32)) (R_walkFrom F A v1).2.1 (R_walkFrom F A v1).2.2) else none)) else none) else some ((1 : Int32), F, A)) else some ((1 : Int32), F, A)) := by
  rw [lp_runDepthFirstAll, if_pos rfl]
set_option maxRecDepth 65536 in
set_option maxHeartbeats 4000000 in
theorem lpw_runDepthFirstAll {l : Launch} {Z : State} {a0 : Array Value} (H : OK Z a0) (G : Nat → Int64) (B : Nat → Int32 → Int64) : ∀ (n : Nat) (v1 : Int32) (F : Nat → Int32) (A : Nat → Int32 → Int32) (r : Int32 × (Nat → Int32) × (Nat → Int32 → Int32)), (lp_runDepthFirstAll n 2 v1 F A = some r → Wk l Z (MoC Z cdC) md_runDepthFirstAll 2 [.val (.ref 0), .val (.int v1)] [] (10, F, G, A, B) 0 0 (fun v w' => v = some (.int r.1) ∧ w' = (10, r.2.1, G, r.2.2, B))) := by
  intro n
  induction n with
  | zero =>
    intro v1 F A r
    exact (fun h => by rw [lp_runDepthFirstAll_z] at h; cases h)
  | succ n ih =>
    intro v1 F A r
    refine fun h => ?_
    · rw [lp_runDepthFirstAll_2] at h
      exact wp_runDepthFirstAll_2 H F G A B v1 (fun q1 => (by have e := Option.some.inj (ifn q1 h); subst e; exact ⟨rfl, rfl⟩)) (fun q1 q3 => (by have e := Option.some.inj (ifn q3 (ifp q1 h)); subst e; exact ⟨rfl, rfl⟩)) (fun q1 q3 => (gd (ifp q3 (ifp q1 h))).1) (fun q1 q3 q6 => (ih _ _ _ _) (ifp q6 (gd (ifp q3 (ifp q1 h))).2)) (fun q1 q3 q6 => (gd (ifn q6 (gd (ifp q3 (ifp q1 h))).2)).1) (fun q1 q3 q6 q9 => (ih _ _ _ _) (ifn q9 (gd (ifn q6 (gd (ifp q3 (ifp q1 h))).2)).2)) (fun q1 q3 q6 q9 => (by have e := Option.some.inj (ifp q9 (gd (ifn q6 (gd (ifp q3 (ifp q1 h))).2)).2); subst e; exact ⟨rfl, rfl⟩))
def en_runDepthFirstAll (F : Nat → Int32) (A : Nat → Int32 → Int32) : Option (Int32 × (Nat → Int32) × (Nat → Int32 → Int32)) := lp_runDepthFirstAll 1000 2 (0 : Int32) F A
theorem een_runDepthFirstAll (F : Nat → Int32) (A : Nat → Int32 → Int32) : en_runDepthFirstAll F A  = lp_runDepthFirstAll 1000 2 (0 : Int32) F A := Eq.trans rfl rfl
def R_runDepthFirstAll (F : Nat → Int32) (A : Nat → Int32 → Int32) : Int32 × (Nat → Int32) × (Nat → Int32 → Int32) := (en_runDepthFirstAll F A ).getD (0, (fun _ => 0), (fun _ _ => 0))
theorem eR_runDepthFirstAll (F : Nat → Int32) (A : Nat → Int32 → Int32) : R_runDepthFirstAll F A  = (en_runDepthFirstAll F A ).getD (0, (fun _ => 0), (fun _ _ => 0)) := Eq.trans rfl rfl
set_option maxRecDepth 65536 in
set_option maxHeartbeats 4000000 in
theorem run_runDepthFirstAll {l : Launch} {Z : State} {a0 : Array Value} (H : OK Z a0) (F : Nat → Int32) (G : Nat → Int64) (A : Nat → Int32 → Int32) (B : Nat → Int32 → Int64) (e1 : (en_runDepthFirstAll F A ).isSome = true) :
    Wk l Z (MoC Z cdC) md_runDepthFirstAll 0 [.val (.ref 0), .unset] [] (10, F, G, A, B) 0 0 (fun v w' => v = some (.int (R_runDepthFirstAll F A ).1) ∧ w' = (10, (R_runDepthFirstAll F A ).2.1, G, (R_runDepthFirstAll F A ).2.2, B)) := by
  obtain ⟨r, h⟩ := Option.isSome_iff_exists.mp e1
  have e : R_runDepthFirstAll F A  = r := (eR_runDepthFirstAll F A ).trans (getD_some h)
  rw [e]
  rw [een_runDepthFirstAll] at h
  exact wp_runDepthFirstAll H F G A B  ((lpw_runDepthFirstAll H G B _ _ _ _ _) h)
set_option maxRecDepth 65536 in
set_option maxHeartbeats 4000000 in
theorem wp_run {l : Launch} {Z : State} {a0 : Array Value} (H : OK Z a0) (F : Nat → Int32) (G : Nat → Int64) (A : Nat → Int32 → Int32) (B : Nat → Int32 → Int64) {Q : Option Value → WO → Prop} (h2 : ¬ (F 4) = 0 → False) (h4 : (F 4) = 0 → ¬ (F 5) = 0 → False) (s5 : (F 4) = 0 → (F 5) = 0 → (en_runDepthFirstAll (ups F 9 (0 : Int32)) A ).isSome = true) (h7 : (F 4) = 0 → (F 5) = 0 → ¬ (R_runDepthFirstAll (ups F 9 (0 : Int32)) A ).1 = 0 → Q (some (.int ((R_runDepthFirstAll (ups F 9 (0 : Int32)) A ).2.1 9))) (10, (ups (R_runDepthFirstAll (ups F 9 (0 : Int32)) A ).2.1 8 (1 : Int32)), G, (R_runDepthFirstAll (ups F 9 (0 : Int32)) A ).2.2, B)) (h8 : (F 4) = 0 → (F 5) = 0 → (R_runDepthFirstAll (ups F 9 (0 : Int32)) A ).1 = 0 → Q (some (.int (-6 : Int32))) (10, (ups (ups (R_runDepthFirstAll (ups F 9 (0 : Int32)) A ).2.1 9 (0 : Int32)) 8 (2 : Int32)), G, (R_runDepthFirstAll (ups F 9 (0 : Int32)) A ).2.2, B)) :
    Wk l Z (MoC Z cdC) md_run 0 [.val (.ref 0), .unset] [] (10, F, G, A, B) 0 0 Q := by
  refine Wk.aloadN o_run_0 rfl ?_
  refine Wk.iconst o_run_1 (z := (0 : Int32)) (by decide) ?_
  refine Wk.putI (coC H) (mI_count) (wf_count H) (Or.inl (wy_count H)) o_run_2 ?_
  refine Wk.aloadN o_run_5 rfl ?_
  refine Wk.getI (mI_kind) (wf_kind H) o_run_6 (x := (F 4)) rfl ?_
  refine Wk.if_ne o_run_9 (fun q1 => ?_) (fun q1 => ?_)
  · refine Wk.aloadN o_run_36 rfl ?_
    refine Wk.iconst o_run_37 (z := (1 : Int32)) (by decide) ?_
    exact False.elim (h2 q1)
  · refine Wk.aloadN o_run_12 rfl ?_
    refine Wk.getI (mI_search) (wf_search H) o_run_13 (x := (F 5)) rfl ?_
    refine Wk.if_ne o_run_16 (fun q3 => ?_) (fun q3 => ?_)
    · refine Wk.aloadN o_run_27 rfl ?_
      refine Wk.iconst o_run_28 (z := (0 : Int32)) (by decide) ?_
      exact False.elim (h4 q1 q3)
    · refine Wk.aloadN o_run_19 rfl ?_
      refine Wk.callF [] [] (H.w 80 rfl) (cv_runDepthFirstAll H) o_run_20 (run_runDepthFirstAll H (ups F 9 (0 : Int32)) G A B (s5 q1 q3)) (wt := 0) (cu' := 0) (su' := 0) (by decide) rfl rfl rfl rfl rfl rfl rfl ?_
      refine Wk.istoreN o_run_23 (Or.inl rfl) (L' := [.val (.ref 0), .val (.int (R_runDepthFirstAll (ups F 9 (0 : Int32)) A ).1)]) rfl ?_
      refine Wk.goto o_run_24 ?_
      refine Wk.iloadN o_run_57 rfl ?_
      refine Wk.if_ne o_run_58 (fun q6 => ?_) (fun q6 => ?_)
      · refine Wk.aloadN o_run_74 rfl ?_
        refine Wk.iconst o_run_75 (z := (1 : Int32)) (by decide) ?_
        refine Wk.putI (coC H) (mI_status) (wf_status H) (Or.inl (wy_status H)) o_run_76 ?_
        refine Wk.aloadN o_run_79 rfl ?_
        refine Wk.getI (mI_count) (wf_count H) o_run_80 (x := ((R_runDepthFirstAll (ups F 9 (0 : Int32)) A ).2.1 9)) rfl ?_
        exact Wk.ireturn mrC rfl o_run_83 rfl (by decide) (by decide) (h7 q1 q3 q6)
      · refine Wk.aloadN o_run_61 rfl ?_
        refine Wk.iconst o_run_62 (z := (0 : Int32)) (by decide) ?_
        refine Wk.putI (coC H) (mI_count) (wf_count H) (Or.inl (wy_count H)) o_run_63 ?_
        refine Wk.aloadN o_run_66 rfl ?_
        refine Wk.iconst o_run_67 (z := (2 : Int32)) (by decide) ?_
        refine Wk.putI (coC H) (mI_status) (wf_status H) (Or.inl (wy_status H)) o_run_68 ?_
        refine Wk.bipush o_run_71 (z := (-6 : Int32)) (by decide) ?_
        exact Wk.ireturn mrC rfl o_run_73 rfl (by decide) (by decide) (h8 q1 q3 q6)

def en_run (F : Nat → Int32) (A : Nat → Int32 → Int32) : Option (Int32 × (Nat → Int32) × (Nat → Int32 → Int32)) := (if (F 4) = 0 then (if (F 5) = 0 then (if ((en_runDepthFirstAll (ups F 9 (0 : Int32)) A ).isSome = true) then (if (R_runDepthFirstAll (ups F 9 (0 : Int32)) A ).1 = 0 then some ((-6 : Int32), (ups (ups (R_runDepthFirstAll (ups F 9 (0 : Int32)) A ).2.1 9 (0 : Int32)) 8 (2 : Int32)), (R_runDepthFirstAll (ups F 9 (0 : Int32)) A ).2.2) else some (((R_runDepthFirstAll (ups F 9 (0 : Int32)) A ).2.1 9), (ups (R_runDepthFirstAll (ups F 9 (0 : Int32)) A ).2.1 8 (1 : Int32)), (R_runDepthFirstAll (ups F 9 (0 : Int32)) A ).2.2)) else none) else none) else none)
theorem een_run (F : Nat → Int32) (A : Nat → Int32 → Int32) : en_run F A  = (if (F 4) = 0 then (if (F 5) = 0 then (if ((en_runDepthFirstAll (ups F 9 (0 : Int32)) A ).isSome = true) then (if (R_runDepthFirstAll (ups F 9 (0 : Int32)) A ).1 = 0 then some ((-6 : Int32), (ups (ups (R_runDepthFirstAll (ups F 9 (0 : Int32)) A ).2.1 9 (0 : Int32)) 8 (2 : Int32)), (R_runDepthFirstAll (ups F 9 (0 : Int32)) A ).2.2) else some (((R_runDepthFirstAll (ups F 9 (0 : Int32)) A ).2.1 9), (ups (R_runDepthFirstAll (ups F 9 (0 : Int32)) A ).2.1 8 (1 : Int32)), (R_runDepthFirstAll (ups F 9 (0 : Int32)) A ).2.2)) else none) else none) else none) := Eq.trans rfl rfl
def R_run (F : Nat → Int32) (A : Nat → Int32 → Int32) : Int32 × (Nat → Int32) × (Nat → Int32 → Int32) := (en_run F A ).getD (0, (fun _ => 0), (fun _ _ => 0))
theorem eR_run (F : Nat → Int32) (A : Nat → Int32 → Int32) : R_run F A  = (en_run F A ).getD (0, (fun _ => 0), (fun _ _ => 0)) := Eq.trans rfl rfl
set_option maxRecDepth 65536 in
set_option maxHeartbeats 4000000 in
theorem run_run {l : Launch} {Z : State} {a0 : Array Value} (H : OK Z a0) (F : Nat → Int32) (G : Nat → Int64) (A : Nat → Int32 → Int32) (B : Nat → Int32 → Int64) (e1 : (en_run F A ).isSome = true) :
    Wk l Z (MoC Z cdC) md_run 0 [.val (.ref 0), .unset] [] (10, F, G, A, B) 0 0 (fun v w' => v = some (.int (R_run F A ).1) ∧ w' = (10, (R_run F A ).2.1, G, (R_run F A ).2.2, B)) := by
  obtain ⟨r, h⟩ := Option.isSome_iff_exists.mp e1
  have e : R_run F A  = r := (eR_run F A ).trans (getD_some h)
  rw [e]
  rw [een_run] at h
  exact wp_run H F G A B  (fun q1 => (by have e := (ifn q1 h); cases e)) (fun q1 q3 => (by have e := (ifn q3 (ifp q1 h)); cases e)) (fun q1 q3 => (gd (ifp q3 (ifp q1 h))).1) (fun q1 q3 q6 => (by have e := Option.some.inj (ifn q6 (gd (ifp q3 (ifp q1 h))).2); subst e; exact ⟨rfl, rfl⟩)) (fun q1 q3 q6 => (by have e := Option.some.inj (ifp q6 (gd (ifp q3 (ifp q1 h))).2); subst e; exact ⟨rfl, rfl⟩))
set_option maxRecDepth 65536 in
set_option maxHeartbeats 4000000 in
theorem wp_rowCount {l : Launch} {Z : State} {a0 : Array Value} (H : OK Z a0) (F : Nat → Int32) (G : Nat → Int64) (A : Nat → Int32 → Int32) (B : Nat → Int32 → Int64) {Q : Option Value → WO → Prop} (h1 : Q (some (.int (F 9))) (10, F, G, A, B)) :
    Wk l Z (MoC Z cdC) md_rowCount 0 [.val (.ref 0)] [] (10, F, G, A, B) 0 0 Q := by
  refine Wk.aloadN o_rowCount_0 rfl ?_
  refine Wk.getI (mI_count) (wf_count H) o_rowCount_1 (x := (F 9)) rfl ?_
  exact Wk.ireturn mrC rfl o_rowCount_4 rfl (by decide) (by decide) h1

def f_rowCount (F : Nat → Int32) : Int32 := (F 9)
theorem e_rowCount (F : Nat → Int32) : f_rowCount F = (F 9) := Eq.trans rfl rfl
theorem run_rowCount {l : Launch} {Z : State} {a0 : Array Value} (H : OK Z a0) (F : Nat → Int32) (G : Nat → Int64) (A : Nat → Int32 → Int32) (B : Nat → Int32 → Int64) :
    Wk l Z (MoC Z cdC) md_rowCount 0 [.val (.ref 0)] [] (10, F, G, A, B) 0 0 (fun v w' => v = some (.int (f_rowCount F)) ∧ w' = (10, F, G, A, B)) :=
  wp_rowCount H F G A B ⟨rfl, rfl⟩
set_option maxRecDepth 65536 in
set_option maxHeartbeats 4000000 in
theorem wp_status {l : Launch} {Z : State} {a0 : Array Value} (H : OK Z a0) (F : Nat → Int32) (G : Nat → Int64) (A : Nat → Int32 → Int32) (B : Nat → Int32 → Int64) {Q : Option Value → WO → Prop} (h1 : Q (some (.int (F 8))) (10, F, G, A, B)) :
    Wk l Z (MoC Z cdC) md_status 0 [.val (.ref 0)] [] (10, F, G, A, B) 0 0 Q := by
  refine Wk.aloadN o_status_0 rfl ?_
  refine Wk.getI (mI_status) (wf_status H) o_status_1 (x := (F 8)) rfl ?_
  exact Wk.ireturn mrC rfl o_status_4 rfl (by decide) (by decide) h1

def f_status (F : Nat → Int32) : Int32 := (F 8)
theorem e_status (F : Nat → Int32) : f_status F = (F 8) := Eq.trans rfl rfl
theorem run_status {l : Launch} {Z : State} {a0 : Array Value} (H : OK Z a0) (F : Nat → Int32) (G : Nat → Int64) (A : Nat → Int32 → Int32) (B : Nat → Int32 → Int64) :
    Wk l Z (MoC Z cdC) md_status 0 [.val (.ref 0)] [] (10, F, G, A, B) 0 0 (fun v w' => v = some (.int (f_status F)) ∧ w' = (10, F, G, A, B)) :=
  wp_status H F G A B ⟨rfl, rfl⟩
set_option maxRecDepth 65536 in
set_option maxHeartbeats 4000000 in
theorem wp_validRow {l : Launch} {Z : State} {a0 : Array Value} (H : OK Z a0) (F : Nat → Int32) (G : Nat → Int64) (A : Nat → Int32 → Int32) (B : Nat → Int32 → Int64) (p1 : Int32) {Q : Option Value → WO → Prop} (h7 : Q (some (.int (nar .boolean (if p1 < 0 then (0 : Int32) else (if p1 < (F 9) then (if p1 < (64 : Int32) then (1 : Int32) else (0 : Int32)) else (0 : Int32)))))) (10, F, G, A, B)) :
    Wk l Z (MoC Z cdC) md_validRow 0 [.val (.ref 0), .val (.int p1)] [] (10, F, G, A, B) 0 0 Q := by
  refine Wk.iloadN o_validRow_0 rfl ?_
  have J6 : Wk l Z (MoC Z cdC) md_validRow 23 [.val (.ref 0), .val (.int p1)] [.int (if p1 < 0 then (0 : Int32) else (if p1 < (F 9) then (if p1 < (64 : Int32) then (1 : Int32) else (0 : Int32)) else (0 : Int32)))] (10, F, G, A, B) 0 0 Q := by
    exact Wk.zreturn mrC rfl o_validRow_23 rfl (by decide) (by decide) (y := (nar .boolean (if p1 < 0 then (0 : Int32) else (if p1 < (F 9) then (if p1 < (64 : Int32) then (1 : Int32) else (0 : Int32)) else (0 : Int32))))) rfl h7
  refine Wk.if_lt o_validRow_1 (fun q1 => ?_) (fun q1 => ?_)
  · refine Wk.iconst o_validRow_22 (z := (0 : Int32)) (by decide) ?_
    first | (rw [show ((if p1 < 0 then (0 : Int32) else (if p1 < (F 9) then (if p1 < (64 : Int32) then (1 : Int32) else (0 : Int32)) else (0 : Int32))) : Int32) = (0 : Int32) from if_pos q1] at J6; exact J6) | exact J6 | (simp only [if_pos q1] at J6 ⊢; exact J6)
  · refine Wk.iloadN o_validRow_4 rfl ?_
    refine Wk.aloadN o_validRow_5 rfl ?_
    refine Wk.getI (mI_count) (wf_count H) o_validRow_6 (x := (F 9)) rfl ?_
    refine Wk.icmp_ge o_validRow_9 (fun q2 => ?_) (fun q2 => ?_)
    · refine Wk.iconst o_validRow_22 (z := (0 : Int32)) (by decide) ?_
      first | (rw [show ((if p1 < 0 then (0 : Int32) else (if p1 < (F 9) then (if p1 < (64 : Int32) then (1 : Int32) else (0 : Int32)) else (0 : Int32))) : Int32) = (0 : Int32) from Eq.trans (if_neg q1) <| if_neg q2] at J6; exact J6) | exact J6 | (simp only [if_neg q1, if_neg q2] at J6 ⊢; exact J6)
    · refine Wk.iloadN o_validRow_12 rfl ?_
      refine Wk.bipush o_validRow_13 (z := (64 : Int32)) (by decide) ?_
      refine Wk.icmp_ge o_validRow_15 (fun q3 => ?_) (fun q3 => ?_)
      · refine Wk.iconst o_validRow_22 (z := (0 : Int32)) (by decide) ?_
        first | (rw [show ((if p1 < 0 then (0 : Int32) else (if p1 < (F 9) then (if p1 < (64 : Int32) then (1 : Int32) else (0 : Int32)) else (0 : Int32))) : Int32) = (0 : Int32) from Eq.trans (if_neg q1) <| Eq.trans (if_pos q2) <| if_neg q3] at J6; exact J6) | exact J6 | (simp only [if_neg q1, if_pos q2, if_neg q3] at J6 ⊢; exact J6)
      · refine Wk.iconst o_validRow_18 (z := (1 : Int32)) (by decide) ?_
        refine Wk.goto o_validRow_19 ?_
        first | (rw [show ((if p1 < 0 then (0 : Int32) else (if p1 < (F 9) then (if p1 < (64 : Int32) then (1 : Int32) else (0 : Int32)) else (0 : Int32))) : Int32) = (1 : Int32) from Eq.trans (if_neg q1) <| Eq.trans (if_pos q2) <| if_pos q3] at J6; exact J6) | exact J6 | (simp only [if_neg q1, if_pos q2, if_pos q3] at J6 ⊢; exact J6)

def f_validRow (F : Nat → Int32) (p1 : Int32) : Int32 := (nar .boolean (if p1 < 0 then (0 : Int32) else (if p1 < (F 9) then (if p1 < (64 : Int32) then (1 : Int32) else (0 : Int32)) else (0 : Int32))))
theorem e_validRow (F : Nat → Int32) (p1 : Int32) : f_validRow F p1 = (nar .boolean (if p1 < 0 then (0 : Int32) else (if p1 < (F 9) then (if p1 < (64 : Int32) then (1 : Int32) else (0 : Int32)) else (0 : Int32)))) := Eq.trans rfl rfl
theorem bz_validRow (F : Nat → Int32) (p1 : Int32) : nar .boolean (f_validRow F p1) = f_validRow F p1 := by
  unfold f_validRow
  (repeat' split) <;> first | rfl | exact nar_nar _
theorem run_validRow {l : Launch} {Z : State} {a0 : Array Value} (H : OK Z a0) (F : Nat → Int32) (G : Nat → Int64) (A : Nat → Int32 → Int32) (B : Nat → Int32 → Int64) (p1 : Int32) :
    Wk l Z (MoC Z cdC) md_validRow 0 [.val (.ref 0), .val (.int p1)] [] (10, F, G, A, B) 0 0 (fun v w' => v = some (.int (f_validRow F p1)) ∧ w' = (10, F, G, A, B)) :=
  wp_validRow H F G A B p1 ⟨rfl, rfl⟩
set_option maxRecDepth 65536 in
set_option maxHeartbeats 4000000 in
theorem wp_rowDepth {l : Launch} {Z : State} {a0 : Array Value} (H : OK Z a0) (F : Nat → Int32) (G : Nat → Int64) (A : Nat → Int32 → Int32) (B : Nat → Int32 → Int64) (p1 : Int32) {Q : Option Value → WO → Prop} (s2 : ¬ (f_validRow F p1) = 0 → ¬ p1 < 0) (s3 : ¬ (f_validRow F p1) = 0 → p1 < (64 : Int32)) (h4 : ¬ (f_validRow F p1) = 0 → Q (some (.int ((A 3) p1))) (10, F, G, A, B)) (h5 : (f_validRow F p1) = 0 → Q (some (.int (-1 : Int32))) (10, F, G, A, B)) :
    Wk l Z (MoC Z cdC) md_rowDepth 0 [.val (.ref 0), .val (.int p1)] [] (10, F, G, A, B) 0 0 Q := by
  refine Wk.aloadN o_rowDepth_0 rfl ?_
  refine Wk.iloadN o_rowDepth_1 rfl ?_
  refine Wk.callF [.int p1] [] (H.w 119 rfl) (cv_validRow H) o_rowDepth_2 (run_validRow H F G A B p1) (wt := 0) (cu' := 0) (su' := 0) (by decide) rfl rfl rfl rfl rfl rfl rfl ?_
  refine Wk.if_ne o_rowDepth_5 (fun q1 => ?_) (fun q1 => ?_)
  · refine Wk.aloadN o_rowDepth_10 rfl ?_
    refine Wk.getA (mA_rowDepthA) (by decide) (i' := 4) rfl (wf_rowDepthA H) o_rowDepth_11 ?_
    refine Wk.iloadN o_rowDepth_14 rfl ?_
    refine Wk.iaload (mA_rowDepthA) (by decide) (i' := 4) rfl (s2 q1) (s3 q1) o_rowDepth_15 (y := ((A 3) p1)) rfl ?_
    exact Wk.ireturn mrC rfl o_rowDepth_16 rfl (by decide) (by decide) (h4 q1)
  · refine Wk.iconst o_rowDepth_8 (z := (-1 : Int32)) (by decide) ?_
    exact Wk.ireturn mrC rfl o_rowDepth_9 rfl (by decide) (by decide) (h5 q1)

def en_rowDepth (F : Nat → Int32) (A : Nat → Int32 → Int32) (p1 : Int32) : Option (Int32) := (if (f_validRow F p1) = 0 then some ((-1 : Int32)) else (if (¬ p1 < 0) ∧ (p1 < (64 : Int32)) then some (((A 3) p1)) else none))
theorem een_rowDepth (F : Nat → Int32) (A : Nat → Int32 → Int32) (p1 : Int32) : en_rowDepth F A p1 = (if (f_validRow F p1) = 0 then some ((-1 : Int32)) else (if (¬ p1 < 0) ∧ (p1 < (64 : Int32)) then some (((A 3) p1)) else none)) := Eq.trans rfl rfl
def R_rowDepth (F : Nat → Int32) (A : Nat → Int32 → Int32) (p1 : Int32) : Int32 := (en_rowDepth F A p1).getD (0)
theorem eR_rowDepth (F : Nat → Int32) (A : Nat → Int32 → Int32) (p1 : Int32) : R_rowDepth F A p1 = (en_rowDepth F A p1).getD (0) := Eq.trans rfl rfl
set_option maxRecDepth 65536 in
set_option maxHeartbeats 4000000 in
theorem run_rowDepth {l : Launch} {Z : State} {a0 : Array Value} (H : OK Z a0) (F : Nat → Int32) (G : Nat → Int64) (A : Nat → Int32 → Int32) (B : Nat → Int32 → Int64) (p1 : Int32) (e1 : (en_rowDepth F A p1).isSome = true) :
    Wk l Z (MoC Z cdC) md_rowDepth 0 [.val (.ref 0), .val (.int p1)] [] (10, F, G, A, B) 0 0 (fun v w' => v = some (.int (R_rowDepth F A p1)) ∧ w' = (10, F, G, A, B)) := by
  obtain ⟨r, h⟩ := Option.isSome_iff_exists.mp e1
  have e : R_rowDepth F A p1 = r := (eR_rowDepth F A p1).trans (getD_some h)
  rw [e]
  rw [een_rowDepth] at h
  exact wp_rowDepth H F G A B p1 (fun q1 => (gd (ifn q1 h)).1.1) (fun q1 => (gd (ifn q1 h)).1.2) (fun q1 => (by have e := Option.some.inj (gd (ifn q1 h)).2; subst e; exact ⟨rfl, rfl⟩)) (fun q1 => (by have e := Option.some.inj (ifp q1 h); subst e; exact ⟨rfl, rfl⟩))
set_option maxRecDepth 65536 in
set_option maxHeartbeats 4000000 in
theorem wp_rowNode {l : Launch} {Z : State} {a0 : Array Value} (H : OK Z a0) (F : Nat → Int32) (G : Nat → Int64) (A : Nat → Int32 → Int32) (B : Nat → Int32 → Int64) (p1 : Int32) {Q : Option Value → WO → Prop} (s2 : ¬ (f_validRow F p1) = 0 → ¬ p1 < 0) (s3 : ¬ (f_validRow F p1) = 0 → p1 < (64 : Int32)) (h4 : ¬ (f_validRow F p1) = 0 → Q (some (.int ((A 2) p1))) (10, F, G, A, B)) (h5 : (f_validRow F p1) = 0 → Q (some (.int (-1 : Int32))) (10, F, G, A, B)) :
    Wk l Z (MoC Z cdC) md_rowNode 0 [.val (.ref 0), .val (.int p1)] [] (10, F, G, A, B) 0 0 Q := by
  refine Wk.aloadN o_rowNode_0 rfl ?_
  refine Wk.iloadN o_rowNode_1 rfl ?_
  refine Wk.callF [.int p1] [] (H.w 119 rfl) (cv_validRow H) o_rowNode_2 (run_validRow H F G A B p1) (wt := 0) (cu' := 0) (su' := 0) (by decide) rfl rfl rfl rfl rfl rfl rfl ?_
  refine Wk.if_ne o_rowNode_5 (fun q1 => ?_) (fun q1 => ?_)
  · refine Wk.aloadN o_rowNode_10 rfl ?_
    refine Wk.getA (mA_rowNodeA) (by decide) (i' := 3) rfl (wf_rowNodeA H) o_rowNode_11 ?_
    refine Wk.iloadN o_rowNode_14 rfl ?_
    refine Wk.iaload (mA_rowNodeA) (by decide) (i' := 3) rfl (s2 q1) (s3 q1) o_rowNode_15 (y := ((A 2) p1)) rfl ?_
    exact Wk.ireturn mrC rfl o_rowNode_16 rfl (by decide) (by decide) (h4 q1)
  · refine Wk.iconst o_rowNode_8 (z := (-1 : Int32)) (by decide) ?_
    exact Wk.ireturn mrC rfl o_rowNode_9 rfl (by decide) (by decide) (h5 q1)

def en_rowNode (F : Nat → Int32) (A : Nat → Int32 → Int32) (p1 : Int32) : Option (Int32) := (if (f_validRow F p1) = 0 then some ((-1 : Int32)) else (if (¬ p1 < 0) ∧ (p1 < (64 : Int32)) then some (((A 2) p1)) else none))
theorem een_rowNode (F : Nat → Int32) (A : Nat → Int32 → Int32) (p1 : Int32) : en_rowNode F A p1 = (if (f_validRow F p1) = 0 then some ((-1 : Int32)) else (if (¬ p1 < 0) ∧ (p1 < (64 : Int32)) then some (((A 2) p1)) else none)) := Eq.trans rfl rfl
def R_rowNode (F : Nat → Int32) (A : Nat → Int32 → Int32) (p1 : Int32) : Int32 := (en_rowNode F A p1).getD (0)
theorem eR_rowNode (F : Nat → Int32) (A : Nat → Int32 → Int32) (p1 : Int32) : R_rowNode F A p1 = (en_rowNode F A p1).getD (0) := Eq.trans rfl rfl
set_option maxRecDepth 65536 in
set_option maxHeartbeats 4000000 in
theorem run_rowNode {l : Launch} {Z : State} {a0 : Array Value} (H : OK Z a0) (F : Nat → Int32) (G : Nat → Int64) (A : Nat → Int32 → Int32) (B : Nat → Int32 → Int64) (p1 : Int32) (e1 : (en_rowNode F A p1).isSome = true) :
    Wk l Z (MoC Z cdC) md_rowNode 0 [.val (.ref 0), .val (.int p1)] [] (10, F, G, A, B) 0 0 (fun v w' => v = some (.int (R_rowNode F A p1)) ∧ w' = (10, F, G, A, B)) := by
  obtain ⟨r, h⟩ := Option.isSome_iff_exists.mp e1
  have e : R_rowNode F A p1 = r := (eR_rowNode F A p1).trans (getD_some h)
  rw [e]
  rw [een_rowNode] at h
  exact wp_rowNode H F G A B p1 (fun q1 => (gd (ifn q1 h)).1.1) (fun q1 => (gd (ifn q1 h)).1.2) (fun q1 => (by have e := Option.some.inj (gd (ifn q1 h)).2; subst e; exact ⟨rfl, rfl⟩)) (fun q1 => (by have e := Option.some.inj (ifp q1 h); subst e; exact ⟨rfl, rfl⟩))
set_option maxRecDepth 65536 in
set_option maxHeartbeats 4000000 in
theorem wp_rowIsCycle {l : Launch} {Z : State} {a0 : Array Value} (H : OK Z a0) (F : Nat → Int32) (G : Nat → Int64) (A : Nat → Int32 → Int32) (B : Nat → Int32 → Int64) (p1 : Int32) {Q : Option Value → WO → Prop} (s2 : ¬ (f_validRow F p1) = 0 → ¬ p1 < 0) (s3 : ¬ (f_validRow F p1) = 0 → p1 < (64 : Int32)) (h4 : ¬ (f_validRow F p1) = 0 → Q (some (.int (nar .boolean ((A 4) p1)))) (10, F, G, A, B)) (h5 : (f_validRow F p1) = 0 → Q (some (.int (0 : Int32))) (10, F, G, A, B)) :
    Wk l Z (MoC Z cdC) md_rowIsCycle 0 [.val (.ref 0), .val (.int p1)] [] (10, F, G, A, B) 0 0 Q := by
  refine Wk.aloadN o_rowIsCycle_0 rfl ?_
  refine Wk.iloadN o_rowIsCycle_1 rfl ?_
  refine Wk.callF [.int p1] [] (H.w 119 rfl) (cv_validRow H) o_rowIsCycle_2 (run_validRow H F G A B p1) (wt := 0) (cu' := 0) (su' := 0) (by decide) rfl rfl rfl rfl rfl rfl rfl ?_
  refine Wk.if_ne o_rowIsCycle_5 (fun q1 => ?_) (fun q1 => ?_)
  · refine Wk.aloadN o_rowIsCycle_10 rfl ?_
    refine Wk.getA (mA_rowCycA) (by decide) (i' := 5) rfl (wf_rowCycA H) o_rowIsCycle_11 ?_
    refine Wk.iloadN o_rowIsCycle_14 rfl ?_
    refine Wk.baload (mA_rowCycA) (by decide) (i' := 5) rfl (s2 q1) (s3 q1) o_rowIsCycle_15 (y := ((A 4) p1)) rfl ?_
    exact Wk.zreturn mrC rfl o_rowIsCycle_16 rfl (by decide) (by decide) (y := (nar .boolean ((A 4) p1))) rfl (h4 q1)
  · refine Wk.iconst o_rowIsCycle_8 (z := (0 : Int32)) (by decide) ?_
    exact Wk.zreturn mrC rfl o_rowIsCycle_9 rfl (by decide) (by decide) (y := (0 : Int32)) (by decide) (h5 q1)

def en_rowIsCycle (F : Nat → Int32) (A : Nat → Int32 → Int32) (p1 : Int32) : Option (Int32) := (if (f_validRow F p1) = 0 then some ((0 : Int32)) else (if (¬ p1 < 0) ∧ (p1 < (64 : Int32)) then some ((nar .boolean ((A 4) p1))) else none))
theorem een_rowIsCycle (F : Nat → Int32) (A : Nat → Int32 → Int32) (p1 : Int32) : en_rowIsCycle F A p1 = (if (f_validRow F p1) = 0 then some ((0 : Int32)) else (if (¬ p1 < 0) ∧ (p1 < (64 : Int32)) then some ((nar .boolean ((A 4) p1))) else none)) := Eq.trans rfl rfl
def R_rowIsCycle (F : Nat → Int32) (A : Nat → Int32 → Int32) (p1 : Int32) : Int32 := (en_rowIsCycle F A p1).getD (0)
theorem eR_rowIsCycle (F : Nat → Int32) (A : Nat → Int32 → Int32) (p1 : Int32) : R_rowIsCycle F A p1 = (en_rowIsCycle F A p1).getD (0) := Eq.trans rfl rfl
set_option maxRecDepth 65536 in
set_option maxHeartbeats 4000000 in
theorem run_rowIsCycle {l : Launch} {Z : State} {a0 : Array Value} (H : OK Z a0) (F : Nat → Int32) (G : Nat → Int64) (A : Nat → Int32 → Int32) (B : Nat → Int32 → Int64) (p1 : Int32) (e1 : (en_rowIsCycle F A p1).isSome = true) :
    Wk l Z (MoC Z cdC) md_rowIsCycle 0 [.val (.ref 0), .val (.int p1)] [] (10, F, G, A, B) 0 0 (fun v w' => v = some (.int (R_rowIsCycle F A p1)) ∧ w' = (10, F, G, A, B)) := by
  obtain ⟨r, h⟩ := Option.isSome_iff_exists.mp e1
  have e : R_rowIsCycle F A p1 = r := (eR_rowIsCycle F A p1).trans (getD_some h)
  rw [e]
  rw [een_rowIsCycle] at h
  exact wp_rowIsCycle H F G A B p1 (fun q1 => (gd (ifn q1 h)).1.1) (fun q1 => (gd (ifn q1 h)).1.2) (fun q1 => (by have e := Option.some.inj (gd (ifn q1 h)).2; subst e; exact ⟨rfl, rfl⟩)) (fun q1 => (by have e := Option.some.inj (ifp q1 h); subst e; exact ⟨rfl, rfl⟩))
set_option maxRecDepth 65536 in
set_option maxHeartbeats 4000000 in
theorem wp_rowPathNode {l : Launch} {Z : State} {a0 : Array Value} (H : OK Z a0) (F : Nat → Int32) (G : Nat → Int64) (A : Nat → Int32 → Int32) (B : Nat → Int32 → Int64) (p1 : Int32) (p2 : Int32) {Q : Option Value → WO → Prop} (h3 : ¬ (f_validRow F p1) = 0 → p2 < 0 → Q (some (.int (-1 : Int32))) (10, F, G, A, B)) (s4 : ¬ (f_validRow F p1) = 0 → ¬ p2 < 0 → ¬ p1 < 0) (s5 : ¬ (f_validRow F p1) = 0 → ¬ p2 < 0 → p1 < (64 : Int32)) (h7 : ¬ (f_validRow F p1) = 0 → ¬ p2 < 0 → ((A 3) p1) < p2 → Q (some (.int (-1 : Int32))) (10, F, G, A, B)) (s9 : ¬ (f_validRow F p1) = 0 → ¬ p2 < 0 → ¬ ((A 3) p1) < p2 → p2 < (16 : Int32) → ¬ ((p1 * (16 : Int32)) + p2) < 0) (s10 : ¬ (f_validRow F p1) = 0 → ¬ p2 < 0 → ¬ ((A 3) p1) < p2 → p2 < (16 : Int32) → ((p1 * (16 : Int32)) + p2) < (1024 : Int32)) (h11 : ¬ (f_validRow F p1) = 0 → ¬ p2 < 0 → ¬ ((A 3) p1) < p2 → p2 < (16 : Int32) → Q (some (.int ((A 5) ((p1 * (16 : Int32)) + p2)))) (10, F, G, A, B)) (h12 : ¬ (f_validRow F p1) = 0 → ¬ p2 < 0 → ¬ ((A 3) p1) < p2 → ¬ p2 < (16 : Int32) → Q (some (.int (-1 : Int32))) (10, F, G, A, B)) (h13 : (f_validRow F p1) = 0 → Q (some (.int (-1 : Int32))) (10, F, G, A, B)) :
    Wk l Z (MoC Z cdC) md_rowPathNode 0 [.val (.ref 0), .val (.int p1), .val (.int p2)] [] (10, F, G, A, B) 0 0 Q := by
  refine Wk.aloadN o_rowPathNode_0 rfl ?_
  refine Wk.iloadN o_rowPathNode_1 rfl ?_
  refine Wk.callF [.int p1] [] (H.w 119 rfl) (cv_validRow H) o_rowPathNode_2 (run_validRow H F G A B p1) (wt := 0) (cu' := 0) (su' := 0) (by decide) rfl rfl rfl rfl rfl rfl rfl ?_
  refine Wk.if_ne o_rowPathNode_5 (fun q1 => ?_) (fun q1 => ?_)
  · refine Wk.iloadN o_rowPathNode_10 rfl ?_
    refine Wk.if_lt o_rowPathNode_11 (fun q2 => ?_) (fun q2 => ?_)
    · refine Wk.iconst o_rowPathNode_30 (z := (-1 : Int32)) (by decide) ?_
      exact Wk.ireturn mrC rfl o_rowPathNode_31 rfl (by decide) (by decide) (h3 q1 q2)
    · refine Wk.iloadN o_rowPathNode_14 rfl ?_
      refine Wk.aloadN o_rowPathNode_15 rfl ?_
      refine Wk.getA (mA_rowDepthA) (by decide) (i' := 4) rfl (wf_rowDepthA H) o_rowPathNode_16 ?_
      refine Wk.iloadN o_rowPathNode_19 rfl ?_
      refine Wk.iaload (mA_rowDepthA) (by decide) (i' := 4) rfl (s4 q1 q2) (s5 q1 q2) o_rowPathNode_20 (y := ((A 3) p1)) rfl ?_
      refine Wk.icmp_gt o_rowPathNode_21 (fun q6 => ?_) (fun q6 => ?_)
      · refine Wk.iconst o_rowPathNode_30 (z := (-1 : Int32)) (by decide) ?_
        exact Wk.ireturn mrC rfl o_rowPathNode_31 rfl (by decide) (by decide) (h7 q1 q2 q6)
      · refine Wk.iloadN o_rowPathNode_24 rfl ?_
        refine Wk.bipush o_rowPathNode_25 (z := (16 : Int32)) (by decide) ?_
        refine Wk.icmp_lt o_rowPathNode_27 (fun q8 => ?_) (fun q8 => ?_)
        · refine Wk.aloadN o_rowPathNode_32 rfl ?_
          refine Wk.getA (mA_rowPathA) (by decide) (i' := 6) rfl (wf_rowPathA H) o_rowPathNode_33 ?_
          refine Wk.iloadN o_rowPathNode_36 rfl ?_
          refine Wk.bipush o_rowPathNode_37 (z := (16 : Int32)) (by decide) ?_
          refine Wk.imul o_rowPathNode_39 ?_
          refine Wk.iloadN o_rowPathNode_40 rfl ?_
          refine Wk.iadd o_rowPathNode_41 ?_
          refine Wk.iaload (mA_rowPathA) (by decide) (i' := 6) rfl (s9 q1 q2 q6 q8) (s10 q1 q2 q6 q8) o_rowPathNode_42 (y := ((A 5) ((p1 * (16 : Int32)) + p2))) rfl ?_
          exact Wk.ireturn mrC rfl o_rowPathNode_43 rfl (by decide) (by decide) (h11 q1 q2 q6 q8)
        · refine Wk.iconst o_rowPathNode_30 (z := (-1 : Int32)) (by decide) ?_
          exact Wk.ireturn mrC rfl o_rowPathNode_31 rfl (by decide) (by decide) (h12 q1 q2 q6 q8)
  · refine Wk.iconst o_rowPathNode_8 (z := (-1 : Int32)) (by decide) ?_
    exact Wk.ireturn mrC rfl o_rowPathNode_9 rfl (by decide) (by decide) (h13 q1)

def en_rowPathNode (F : Nat → Int32) (A : Nat → Int32 → Int32) (p1 : Int32) (p2 : Int32) : Option (Int32) := (if (f_validRow F p1) = 0 then some ((-1 : Int32)) else (if p2 < 0 then some ((-1 : Int32)) else (if (¬ p1 < 0) ∧ (p1 < (64 : Int32)) then (if ((A 3) p1) < p2 then some ((-1 : Int32)) else (if p2 < (16 : Int32) then (if (¬ ((p1 * (16 : Int32)) + p2) < 0) ∧ (((p1 * (16 : Int32)) + p2) < (1024 : Int32)) then some (((A 5) ((p1 * (16 : Int32)) + p2))) else none) else some ((-1 : Int32)))) else none)))
theorem een_rowPathNode (F : Nat → Int32) (A : Nat → Int32 → Int32) (p1 : Int32) (p2 : Int32) : en_rowPathNode F A p1 p2 = (if (f_validRow F p1) = 0 then some ((-1 : Int32)) else (if p2 < 0 then some ((-1 : Int32)) else (if (¬ p1 < 0) ∧ (p1 < (64 : Int32)) then (if ((A 3) p1) < p2 then some ((-1 : Int32)) else (if p2 < (16 : Int32) then (if (¬ ((p1 * (16 : Int32)) + p2) < 0) ∧ (((p1 * (16 : Int32)) + p2) < (1024 : Int32)) then some (((A 5) ((p1 * (16 : Int32)) + p2))) else none) else some ((-1 : Int32)))) else none))) := Eq.trans rfl rfl
def R_rowPathNode (F : Nat → Int32) (A : Nat → Int32 → Int32) (p1 : Int32) (p2 : Int32) : Int32 := (en_rowPathNode F A p1 p2).getD (0)
theorem eR_rowPathNode (F : Nat → Int32) (A : Nat → Int32 → Int32) (p1 : Int32) (p2 : Int32) : R_rowPathNode F A p1 p2 = (en_rowPathNode F A p1 p2).getD (0) := Eq.trans rfl rfl
set_option maxRecDepth 65536 in
set_option maxHeartbeats 4000000 in
theorem run_rowPathNode {l : Launch} {Z : State} {a0 : Array Value} (H : OK Z a0) (F : Nat → Int32) (G : Nat → Int64) (A : Nat → Int32 → Int32) (B : Nat → Int32 → Int64) (p1 : Int32) (p2 : Int32) (e1 : (en_rowPathNode F A p1 p2).isSome = true) :
    Wk l Z (MoC Z cdC) md_rowPathNode 0 [.val (.ref 0), .val (.int p1), .val (.int p2)] [] (10, F, G, A, B) 0 0 (fun v w' => v = some (.int (R_rowPathNode F A p1 p2)) ∧ w' = (10, F, G, A, B)) := by
  obtain ⟨r, h⟩ := Option.isSome_iff_exists.mp e1
  have e : R_rowPathNode F A p1 p2 = r := (eR_rowPathNode F A p1 p2).trans (getD_some h)
  rw [e]
  rw [een_rowPathNode] at h
  exact wp_rowPathNode H F G A B p1 p2 (fun q1 q2 => (by have e := Option.some.inj (ifp q2 (ifn q1 h)); subst e; exact ⟨rfl, rfl⟩)) (fun q1 q2 => (gd (ifn q2 (ifn q1 h))).1.1) (fun q1 q2 => (gd (ifn q2 (ifn q1 h))).1.2) (fun q1 q2 q6 => (by have e := Option.some.inj (ifp q6 (gd (ifn q2 (ifn q1 h))).2); subst e; exact ⟨rfl, rfl⟩)) (fun q1 q2 q6 q8 => (gd (ifp q8 (ifn q6 (gd (ifn q2 (ifn q1 h))).2))).1.1) (fun q1 q2 q6 q8 => (gd (ifp q8 (ifn q6 (gd (ifn q2 (ifn q1 h))).2))).1.2) (fun q1 q2 q6 q8 => (by have e := Option.some.inj (gd (ifp q8 (ifn q6 (gd (ifn q2 (ifn q1 h))).2))).2; subst e; exact ⟨rfl, rfl⟩)) (fun q1 q2 q6 q8 => (by have e := Option.some.inj (ifn q8 (ifn q6 (gd (ifn q2 (ifn q1 h))).2)); subst e; exact ⟨rfl, rfl⟩)) (fun q1 => (by have e := Option.some.inj (ifp q1 h); subst e; exact ⟨rfl, rfl⟩))
set_option maxRecDepth 65536 in
set_option maxHeartbeats 4000000 in
theorem wp_countNode {l : Launch} {Z : State} {a0 : Array Value} (H : OK Z a0) (F : Nat → Int32) (G : Nat → Int64) (A : Nat → Int32 → Int32) (B : Nat → Int32 → Int64) (p1 : Int32) {Q : Option Value → WO → Prop} (h2 : ¬ (f_inRange F p1) = 0 → Wk l Z (MoC Z cdC) md_countNode 14 [.val (.ref 0), .val (.int p1), .val (.int (0 : Int32)), .val (.int (0 : Int32))] [] (10, F, G, A, B) 0 0 Q) (h3 : (f_inRange F p1) = 0 → Q (some (.int (-1 : Int32))) (10, F, G, A, B)) :
    Wk l Z (MoC Z cdC) md_countNode 0 [.val (.ref 0), .val (.int p1), .unset, .unset] [] (10, F, G, A, B) 0 0 Q := by
  refine Wk.aloadN o_countNode_0 rfl ?_
  refine Wk.iloadN o_countNode_1 rfl ?_
  refine Wk.callF [.int p1] [] (H.w 62 rfl) (cv_inRange H) o_countNode_2 (run_inRange H F G A B p1) (wt := 0) (cu' := 0) (su' := 0) (by decide) rfl rfl rfl rfl rfl rfl rfl ?_
  refine Wk.if_ne o_countNode_5 (fun q1 => ?_) (fun q1 => ?_)
  · refine Wk.iconst o_countNode_10 (z := (0 : Int32)) (by decide) ?_
    refine Wk.istoreN o_countNode_11 (Or.inl rfl) (L' := [.val (.ref 0), .val (.int p1), .val (.int (0 : Int32)), .unset]) rfl ?_
    refine Wk.iconst o_countNode_12 (z := (0 : Int32)) (by decide) ?_
    refine Wk.istoreN o_countNode_13 (Or.inl rfl) (L' := [.val (.ref 0), .val (.int p1), .val (.int (0 : Int32)), .val (.int (0 : Int32))]) rfl ?_
    exact (h2 q1)
  · refine Wk.iconst o_countNode_8 (z := (-1 : Int32)) (by decide) ?_
    exact Wk.ireturn mrC rfl o_countNode_9 rfl (by decide) (by decide) (h3 q1)

set_option maxRecDepth 65536 in
set_option maxHeartbeats 4000000 in
theorem wp_countNode_14 {l : Launch} {Z : State} {a0 : Array Value} (H : OK Z a0) (F : Nat → Int32) (G : Nat → Int64) (A : Nat → Int32 → Int32) (B : Nat → Int32 → Int64) (v1 : Int32) (v2 : Int32) (v3 : Int32) {Q : Option Value → WO → Prop} (h2 : ¬ v3 < (F 9) → Q (some (.int v2)) (10, F, G, A, B)) (h4 : v3 < (F 9) → ¬ v3 < (64 : Int32) → Q (some (.int v2)) (10, F, G, A, B)) (s5 : v3 < (F 9) → v3 < (64 : Int32) → ¬ v3 < 0) (h8 : v3 < (F 9) → v3 < (64 : Int32) → Wk l Z (MoC Z cdC) md_countNode 14 [.val (.ref 0), .val (.int v1), .val (.int (if ((A 2) v3) = v1 then (v2 + (1 : Int32)) else v2)), .val (.int (v3 + (1 : Int32)))] [] (10, F, G, A, B) 0 0 Q) :
    Wk l Z (MoC Z cdC) md_countNode 14 [.val (.ref 0), .val (.int v1), .val (.int v2), .val (.int v3)] [] (10, F, G, A, B) 0 0 Q := by
  refine Wk.iloadN o_countNode_14 rfl ?_
  refine Wk.aloadN o_countNode_15 rfl ?_
  refine Wk.getI (mI_count) (wf_count H) o_countNode_16 (x := (F 9)) rfl ?_
  refine Wk.icmp_ge o_countNode_19 (fun q1 => ?_) (fun q1 => ?_)
  · refine Wk.iloadN o_countNode_47 rfl ?_
    exact Wk.ireturn mrC rfl o_countNode_48 rfl (by decide) (by decide) (h2 q1)
  · refine Wk.iloadN o_countNode_22 rfl ?_
    refine Wk.bipush o_countNode_23 (z := (64 : Int32)) (by decide) ?_
    refine Wk.icmp_ge o_countNode_25 (fun q3 => ?_) (fun q3 => ?_)
    · refine Wk.iloadN o_countNode_47 rfl ?_
      exact Wk.ireturn mrC rfl o_countNode_48 rfl (by decide) (by decide) (h4 q1 q3)
    · refine Wk.aloadN o_countNode_28 rfl ?_
      refine Wk.getA (mA_rowNodeA) (by decide) (i' := 3) rfl (wf_rowNodeA H) o_countNode_29 ?_
      refine Wk.iloadN o_countNode_32 rfl ?_
      refine Wk.iaload (mA_rowNodeA) (by decide) (i' := 3) rfl (s5 q1 q3) q3 o_countNode_33 (y := ((A 2) v3)) rfl ?_
      refine Wk.iloadN o_countNode_34 rfl ?_
      have J7 : Wk l Z (MoC Z cdC) md_countNode 41 [.val (.ref 0), .val (.int v1), .val (.int (if ((A 2) v3) = v1 then (v2 + (1 : Int32)) else v2)), .val (.int v3)] [] (10, F, G, A, B) 0 0 Q := by
        refine Wk.iinc o_countNode_41 rfl (z := (v3 + (1 : Int32))) rfl (L' := [.val (.ref 0), .val (.int v1), .val (.int (if ((A 2) v3) = v1 then (v2 + (1 : Int32)) else v2)), .val (.int (v3 + (1 : Int32)))]) rfl ?_
        refine Wk.goto o_countNode_44 ?_
        exact (h8 q1 q3)
      refine Wk.icmp_ne o_countNode_35 (fun q6 => ?_) (fun q6 => ?_)
      · first | (rw [show ((if ((A 2) v3) = v1 then (v2 + (1 : Int32)) else v2) : Int32) = v2 from if_neg q6] at J7; exact J7) | exact J7 | (simp only [if_neg q6] at J7 ⊢; exact J7)
      · refine Wk.iinc o_countNode_38 rfl (z := (v2 + (1 : Int32))) rfl (L' := [.val (.ref 0), .val (.int v1), .val (.int (v2 + (1 : Int32))), .val (.int v3)]) rfl ?_
        first | (rw [show ((if ((A 2) v3) = v1 then (v2 + (1 : Int32)) else v2) : Int32) = (v2 + (1 : Int32)) from if_pos q6] at J7; exact J7) | exact J7 | (simp only [if_pos q6] at J7 ⊢; exact J7)

def cntGo (f : Int32 → Int32) (p : Int32) : Nat → Int32 → Int32 → Int32
  | 0, _, c => c
  | n + 1, i, c => cntGo f p n (i + 1) (if f i = p then c + 1 else c)
theorem cntGo_z (f : Int32 → Int32) (p i c : Int32) : cntGo f p 0 i c = c := Eq.trans rfl rfl
theorem cntGo_s (f : Int32 → Int32) (p : Int32) (n : Nat) (i c : Int32) : cntGo f p (n + 1) i c = cntGo f p n (i + 1) (if f i = p then c + 1 else c) := Eq.trans rfl rfl
def f_countNode (F : Nat → Int32) (A : Nat → Int32 → Int32) (p1 : Int32) : Int32 := if f_inRange F p1 = 0 then -1 else cntGo (A 2) p1 (if (F 9) < 64 then (F 9) else 64).toInt.toNat 0 0
theorem e_countNode (F : Nat → Int32) (A : Nat → Int32 → Int32) (p1 : Int32) : f_countNode F A p1 = if f_inRange F p1 = 0 then -1 else cntGo (A 2) p1 (if (F 9) < 64 then (F 9) else 64).toInt.toNat 0 0 := Eq.trans rfl rfl
theorem loop_countNode {l : Launch} {Z : State} {a0 : Array Value} (H : OK Z a0) (F : Nat → Int32) (G : Nat → Int64) (A : Nat → Int32 → Int32) (B : Nat → Int32 → Int64) (p1 : Int32) : ∀ (n : Nat) (i c : Int32), ¬ i < 0 → ((if (F 9) < 64 then (F 9) else 64).toInt - i.toInt).toNat = n →
    Wk l Z (MoC Z cdC) md_countNode 14 [.val (.ref 0), .val (.int p1), .val (.int c), .val (.int i)] [] (10, F, G, A, B) 0 0 (fun v w' => v = some (.int (cntGo (A 2) p1 n i c)) ∧ w' = (10, F, G, A, B)) := by
  intro n
  induction n with
  | zero =>
    intro i c h0 hn
    have hi : ¬ i < (F 9) ∨ ¬ i < 64 := by
      by_cases q : (F 9) < 64
      · rw [if_pos q] at hn; left; intro a; have := lt_i.mp a; omega
      · rw [if_neg q] at hn; right; intro a; have := lt_i.mp a; omega
    exact wp_countNode_14 H F G A B p1 c i (fun _ => ⟨by rw [cntGo_z], rfl⟩) (fun _ _ => ⟨by rw [cntGo_z], rfl⟩) (fun _ _ => h0) (fun a b => absurd (And.intro a b) (by rintro ⟨a, b⟩; rcases hi with q | q; exact q a; exact q b))
  | succ n ih =>
    intro i c h0 hn
    have hi : i < (F 9) ∧ i < 64 := by
      by_cases q : (F 9) < 64
      · rw [if_pos q] at hn
        have a : i < (F 9) := lt_i.mpr (by omega)
        exact ⟨a, lt_i.mpr (by have := lt_i.mp q; omega)⟩
      · rw [if_neg q] at hn
        have a : i < 64 := lt_i.mpr (by omega)
        refine ⟨lt_i.mpr ?_, a⟩
        rw [lt_i] at q
        have := lt_i.mp a
        omega
    have h1 : ¬ i + 1 < 0 := by
      rw [lt_i, succ_toInt hi.2]; rw [lt_i] at h0
      have z : (0 : Int32).toInt = 0 := rfl
      omega
    refine wp_countNode_14 H F G A B p1 c i (fun q => absurd hi.1 q) (fun _ q => absurd hi.2 q) (fun _ _ => h0) (fun _ _ => ?_)
    rw [cntGo_s]
    exact ih _ _ h1 (by rw [succ_toInt hi.2]; omega)
theorem run_countNode {l : Launch} {Z : State} {a0 : Array Value} (H : OK Z a0) (F : Nat → Int32) (G : Nat → Int64) (A : Nat → Int32 → Int32) (B : Nat → Int32 → Int64) (p1 : Int32) :
    Wk l Z (MoC Z cdC) md_countNode 0 [.val (.ref 0), .val (.int p1), .unset, .unset] [] (10, F, G, A, B) 0 0 (fun v w' => v = some (.int (f_countNode F A p1)) ∧ w' = (10, F, G, A, B)) := by
  refine wp_countNode H F G A B p1 (fun q => ?_) (fun q => ⟨by rw [e_countNode, if_pos q], rfl⟩)
  rw [e_countNode, if_neg q]
  exact loop_countNode H F G A B p1 _ 0 0 (by decide) (by
    have z : (0 : Int32).toInt = 0 := rfl
    rw [z, Int.sub_zero])
set_option maxRecDepth 65536 in
set_option maxHeartbeats 4000000 in
theorem wp_L_row {l : Launch} {Z : State} {a0 : Array Value} (H : OK Z a0) (sl : Int32) (sv : Int32 → Int32) (F1 : Nat → Int32) (G1 : Nat → Int64) (A1 : Nat → Int32 → Int32) (B1 : Nat → Int32 → Int64) (p1 : Int32) (p2 : Int32) (p3 : Int32) (p4 : Int32) (p5 : Int32) (p6 : Int32) {Q : Option Value → WL → Prop} (s5 : (en_rowDepth F1 A1 p1).isSome = true) (s7 : (R_rowDepth F1 A1 p1) = p2 → (en_rowNode F1 A1 p1).isSome = true) (s9 : (R_rowDepth F1 A1 p1) = p2 → (R_rowNode F1 A1 p1) = (if p2 = 0 then p3 else (if p2 = (1 : Int32) then p4 else p5)) → (en_rowIsCycle F1 A1 p1).isSome = true) (s11 : (R_rowDepth F1 A1 p1) = p2 → (R_rowNode F1 A1 p1) = (if p2 = 0 then p3 else (if p2 = (1 : Int32) then p4 else p5)) → (R_rowIsCycle F1 A1 p1) = p6 → (en_rowPathNode F1 A1 p1 (0 : Int32)).isSome = true) (h15 : (R_rowDepth F1 A1 p1) = p2 → (R_rowNode F1 A1 p1) = (if p2 = 0 then p3 else (if p2 = (1 : Int32) then p4 else p5)) → (R_rowIsCycle F1 A1 p1) = p6 → (R_rowPathNode F1 A1 p1 (0 : Int32)) = p3 → p2 < (1 : Int32) → p2 < (2 : Int32) → Q (some (.int (1 : Int32))) (sl, sv, [(10, F1, G1, A1, B1)])) (s16 : (R_rowDepth F1 A1 p1) = p2 → (R_rowNode F1 A1 p1) = (if p2 = 0 then p3 else (if p2 = (1 : Int32) then p4 else p5)) → (R_rowIsCycle F1 A1 p1) = p6 → (R_rowPathNode F1 A1 p1 (0 : Int32)) = p3 → p2 < (1 : Int32) → ¬ p2 < (2 : Int32) → (en_rowPathNode F1 A1 p1 (2 : Int32)).isSome = true) (h18 : (R_rowDepth F1 A1 p1) = p2 → (R_rowNode F1 A1 p1) = (if p2 = 0 then p3 else (if p2 = (1 : Int32) then p4 else p5)) → (R_rowIsCycle F1 A1 p1) = p6 → (R_rowPathNode F1 A1 p1 (0 : Int32)) = p3 → p2 < (1 : Int32) → ¬ p2 < (2 : Int32) → (R_rowPathNode F1 A1 p1 (2 : Int32)) = p5 → Q (some (.int (1 : Int32))) (sl, sv, [(10, F1, G1, A1, B1)])) (h19 : (R_rowDepth F1 A1 p1) = p2 → (R_rowNode F1 A1 p1) = (if p2 = 0 then p3 else (if p2 = (1 : Int32) then p4 else p5)) → (R_rowIsCycle F1 A1 p1) = p6 → (R_rowPathNode F1 A1 p1 (0 : Int32)) = p3 → p2 < (1 : Int32) → ¬ p2 < (2 : Int32) → ¬ (R_rowPathNode F1 A1 p1 (2 : Int32)) = p5 → Q (some (.int (0 : Int32))) (sl, sv, [(10, F1, G1, A1, B1)])) (s20 : (R_rowDepth F1 A1 p1) = p2 → (R_rowNode F1 A1 p1) = (if p2 = 0 then p3 else (if p2 = (1 : Int32) then p4 else p5)) → (R_rowIsCycle F1 A1 p1) = p6 → (R_rowPathNode F1 A1 p1 (0 : Int32)) = p3 → ¬ p2 < (1 : Int32) → (en_rowPathNode F1 A1 p1 (1 : Int32)).isSome = true) (h23 : (R_rowDepth F1 A1 p1) = p2 → (R_rowNode F1 A1 p1) = (if p2 = 0 then p3 else (if p2 = (1 : Int32) then p4 else p5)) → (R_rowIsCycle F1 A1 p1) = p6 → (R_rowPathNode F1 A1 p1 (0 : Int32)) = p3 → ¬ p2 < (1 : Int32) → (R_rowPathNode F1 A1 p1 (1 : Int32)) = p4 → p2 < (2 : Int32) → Q (some (.int (1 : Int32))) (sl, sv, [(10, F1, G1, A1, B1)])) (s24 : (R_rowDepth F1 A1 p1) = p2 → (R_rowNode F1 A1 p1) = (if p2 = 0 then p3 else (if p2 = (1 : Int32) then p4 else p5)) → (R_rowIsCycle F1 A1 p1) = p6 → (R_rowPathNode F1 A1 p1 (0 : Int32)) = p3 → ¬ p2 < (1 : Int32) → (R_rowPathNode F1 A1 p1 (1 : Int32)) = p4 → ¬ p2 < (2 : Int32) → (en_rowPathNode F1 A1 p1 (2 : Int32)).isSome = true) (h26 : (R_rowDepth F1 A1 p1) = p2 → (R_rowNode F1 A1 p1) = (if p2 = 0 then p3 else (if p2 = (1 : Int32) then p4 else p5)) → (R_rowIsCycle F1 A1 p1) = p6 → (R_rowPathNode F1 A1 p1 (0 : Int32)) = p3 → ¬ p2 < (1 : Int32) → (R_rowPathNode F1 A1 p1 (1 : Int32)) = p4 → ¬ p2 < (2 : Int32) → (R_rowPathNode F1 A1 p1 (2 : Int32)) = p5 → Q (some (.int (1 : Int32))) (sl, sv, [(10, F1, G1, A1, B1)])) (h27 : (R_rowDepth F1 A1 p1) = p2 → (R_rowNode F1 A1 p1) = (if p2 = 0 then p3 else (if p2 = (1 : Int32) then p4 else p5)) → (R_rowIsCycle F1 A1 p1) = p6 → (R_rowPathNode F1 A1 p1 (0 : Int32)) = p3 → ¬ p2 < (1 : Int32) → (R_rowPathNode F1 A1 p1 (1 : Int32)) = p4 → ¬ p2 < (2 : Int32) → ¬ (R_rowPathNode F1 A1 p1 (2 : Int32)) = p5 → Q (some (.int (0 : Int32))) (sl, sv, [(10, F1, G1, A1, B1)])) (h28 : (R_rowDepth F1 A1 p1) = p2 → (R_rowNode F1 A1 p1) = (if p2 = 0 then p3 else (if p2 = (1 : Int32) then p4 else p5)) → (R_rowIsCycle F1 A1 p1) = p6 → (R_rowPathNode F1 A1 p1 (0 : Int32)) = p3 → ¬ p2 < (1 : Int32) → ¬ (R_rowPathNode F1 A1 p1 (1 : Int32)) = p4 → Q (some (.int (0 : Int32))) (sl, sv, [(10, F1, G1, A1, B1)])) (h29 : (R_rowDepth F1 A1 p1) = p2 → (R_rowNode F1 A1 p1) = (if p2 = 0 then p3 else (if p2 = (1 : Int32) then p4 else p5)) → (R_rowIsCycle F1 A1 p1) = p6 → ¬ (R_rowPathNode F1 A1 p1 (0 : Int32)) = p3 → Q (some (.int (0 : Int32))) (sl, sv, [(10, F1, G1, A1, B1)])) (h30 : (R_rowDepth F1 A1 p1) = p2 → (R_rowNode F1 A1 p1) = (if p2 = 0 then p3 else (if p2 = (1 : Int32) then p4 else p5)) → ¬ (R_rowIsCycle F1 A1 p1) = p6 → Q (some (.int (0 : Int32))) (sl, sv, [(10, F1, G1, A1, B1)])) (h31 : (R_rowDepth F1 A1 p1) = p2 → ¬ (R_rowNode F1 A1 p1) = (if p2 = 0 then p3 else (if p2 = (1 : Int32) then p4 else p5)) → Q (some (.int (0 : Int32))) (sl, sv, [(10, F1, G1, A1, B1)])) (h32 : ¬ (R_rowDepth F1 A1 p1) = p2 → Q (some (.int (0 : Int32))) (sl, sv, [(10, F1, G1, A1, B1)])) :
    Wk l Z (MoL Z cdC "RecursiveCteL3" false) md_L_row 0 [.val (.ref 1), .val (.int p1), .val (.int p2), .val (.int p3), .val (.int p4), .val (.int p5), .val (.int p6), .unset] [] (sl, sv, [(10, F1, G1, A1, B1)]) 0 0 Q := by
  refine Wk.iloadN o_L_row_0 rfl ?_
  have J4 : Wk l Z (MoL Z cdC "RecursiveCteL3" false) md_L_row 20 [.val (.ref 1), .val (.int p1), .val (.int p2), .val (.int p3), .val (.int p4), .val (.int p5), .val (.int p6), .unset] [.int (if p2 = 0 then p3 else (if p2 = (1 : Int32) then p4 else p5))] (sl, sv, [(10, F1, G1, A1, B1)]) 0 0 Q := by
    refine Wk.istore o_L_row_20 (Or.inl rfl) (L' := [.val (.ref 1), .val (.int p1), .val (.int p2), .val (.int p3), .val (.int p4), .val (.int p5), .val (.int p6), .val (.int (if p2 = 0 then p3 else (if p2 = (1 : Int32) then p4 else p5)))]) rfl ?_
    refine Wk.aloadN o_L_row_22 rfl ?_
    refine Wk.iloadN o_L_row_23 rfl ?_
    refine Wk.callLF (coC H) [.int p1] 0 [] (i' := 1) (H.w 114 rfl) (cv_rowDepth H) o_L_row_24 (run_rowDepth H F1 G1 A1 B1 p1 s5) (wt := 0) (cu' := 0) (su' := 0) (by decide) trivial rfl rfl rfl rfl rfl rfl rfl rfl rfl rfl (ws' := [(10, F1, G1, A1, B1)]) rfl ?_
    refine Wk.iloadN o_L_row_27 rfl ?_
    refine Wk.icmp_eq o_L_row_28 (fun q6 => ?_) (fun q6 => ?_)
    · refine Wk.aloadN o_L_row_33 rfl ?_
      refine Wk.iloadN o_L_row_34 rfl ?_
      refine Wk.callLF (coC H) [.int p1] 0 [] (i' := 1) (H.w 123 rfl) (cv_rowNode H) o_L_row_35 (run_rowNode H F1 G1 A1 B1 p1 (s7 q6)) (wt := 0) (cu' := 0) (su' := 0) (by decide) trivial rfl rfl rfl rfl rfl rfl rfl rfl rfl rfl (ws' := [(10, F1, G1, A1, B1)]) rfl ?_
      refine Wk.iload o_L_row_38 rfl ?_
      refine Wk.icmp_eq o_L_row_40 (fun q8 => ?_) (fun q8 => ?_)
      · refine Wk.aloadN o_L_row_45 rfl ?_
        refine Wk.iloadN o_L_row_46 rfl ?_
        refine Wk.callLF (coC H) [.int p1] 0 [] (i' := 1) (H.w 128 rfl) (cv_rowIsCycle H) o_L_row_47 (run_rowIsCycle H F1 G1 A1 B1 p1 (s9 q6 q8)) (wt := 0) (cu' := 0) (su' := 0) (by decide) trivial rfl rfl rfl rfl rfl rfl rfl rfl rfl rfl (ws' := [(10, F1, G1, A1, B1)]) rfl ?_
        refine Wk.iload o_L_row_50 rfl ?_
        refine Wk.icmp_eq o_L_row_52 (fun q10 => ?_) (fun q10 => ?_)
        · refine Wk.aloadN o_L_row_57 rfl ?_
          refine Wk.iloadN o_L_row_58 rfl ?_
          refine Wk.iconst o_L_row_59 (z := (0 : Int32)) (by decide) ?_
          refine Wk.callLF (coC H) [.int p1, .int (0 : Int32)] 0 [] (i' := 1) (H.w 133 rfl) (cv_rowPathNode H) o_L_row_60 (run_rowPathNode H F1 G1 A1 B1 p1 (0 : Int32) (s11 q6 q8 q10)) (wt := 0) (cu' := 0) (su' := 0) (by decide) trivial rfl rfl rfl rfl rfl rfl rfl rfl rfl rfl (ws' := [(10, F1, G1, A1, B1)]) rfl ?_
          refine Wk.iloadN o_L_row_63 rfl ?_
          refine Wk.icmp_eq o_L_row_64 (fun q12 => ?_) (fun q12 => ?_)
          · refine Wk.iloadN o_L_row_69 rfl ?_
            refine Wk.iconst o_L_row_70 (z := (1 : Int32)) (by decide) ?_
            refine Wk.icmp_lt o_L_row_71 (fun q13 => ?_) (fun q13 => ?_)
            · refine Wk.iloadN o_L_row_87 rfl ?_
              refine Wk.iconst o_L_row_88 (z := (2 : Int32)) (by decide) ?_
              refine Wk.icmp_lt o_L_row_89 (fun q14 => ?_) (fun q14 => ?_)
              · refine Wk.iconst o_L_row_105 (z := (1 : Int32)) (by decide) ?_
                exact Wk.zreturn mrL rfl o_L_row_106 rfl (by decide) (by decide) (y := (1 : Int32)) (by decide) (h15 q6 q8 q10 q12 q13 q14)
              · refine Wk.aloadN o_L_row_92 rfl ?_
                refine Wk.iloadN o_L_row_93 rfl ?_
                refine Wk.iconst o_L_row_94 (z := (2 : Int32)) (by decide) ?_
                refine Wk.callLF (coC H) [.int p1, .int (2 : Int32)] 0 [] (i' := 1) (H.w 133 rfl) (cv_rowPathNode H) o_L_row_95 (run_rowPathNode H F1 G1 A1 B1 p1 (2 : Int32) (s16 q6 q8 q10 q12 q13 q14)) (wt := 0) (cu' := 0) (su' := 0) (by decide) trivial rfl rfl rfl rfl rfl rfl rfl rfl rfl rfl (ws' := [(10, F1, G1, A1, B1)]) rfl ?_
                refine Wk.iload o_L_row_98 rfl ?_
                refine Wk.icmp_eq o_L_row_100 (fun q17 => ?_) (fun q17 => ?_)
                · refine Wk.iconst o_L_row_105 (z := (1 : Int32)) (by decide) ?_
                  exact Wk.zreturn mrL rfl o_L_row_106 rfl (by decide) (by decide) (y := (1 : Int32)) (by decide) (h18 q6 q8 q10 q12 q13 q14 q17)
                · refine Wk.iconst o_L_row_103 (z := (0 : Int32)) (by decide) ?_
                  exact Wk.zreturn mrL rfl o_L_row_104 rfl (by decide) (by decide) (y := (0 : Int32)) (by decide) (h19 q6 q8 q10 q12 q13 q14 q17)
            · refine Wk.aloadN o_L_row_74 rfl ?_
              refine Wk.iloadN o_L_row_75 rfl ?_
              refine Wk.iconst o_L_row_76 (z := (1 : Int32)) (by decide) ?_
              refine Wk.callLF (coC H) [.int p1, .int (1 : Int32)] 0 [] (i' := 1) (H.w 133 rfl) (cv_rowPathNode H) o_L_row_77 (run_rowPathNode H F1 G1 A1 B1 p1 (1 : Int32) (s20 q6 q8 q10 q12 q13)) (wt := 0) (cu' := 0) (su' := 0) (by decide) trivial rfl rfl rfl rfl rfl rfl rfl rfl rfl rfl (ws' := [(10, F1, G1, A1, B1)]) rfl ?_
              refine Wk.iload o_L_row_80 rfl ?_
              refine Wk.icmp_eq o_L_row_82 (fun q21 => ?_) (fun q21 => ?_)
              · refine Wk.iloadN o_L_row_87 rfl ?_
                refine Wk.iconst o_L_row_88 (z := (2 : Int32)) (by decide) ?_
                refine Wk.icmp_lt o_L_row_89 (fun q22 => ?_) (fun q22 => ?_)
                · refine Wk.iconst o_L_row_105 (z := (1 : Int32)) (by decide) ?_
                  exact Wk.zreturn mrL rfl o_L_row_106 rfl (by decide) (by decide) (y := (1 : Int32)) (by decide) (h23 q6 q8 q10 q12 q13 q21 q22)
                · refine Wk.aloadN o_L_row_92 rfl ?_
                  refine Wk.iloadN o_L_row_93 rfl ?_
                  refine Wk.iconst o_L_row_94 (z := (2 : Int32)) (by decide) ?_
                  refine Wk.callLF (coC H) [.int p1, .int (2 : Int32)] 0 [] (i' := 1) (H.w 133 rfl) (cv_rowPathNode H) o_L_row_95 (run_rowPathNode H F1 G1 A1 B1 p1 (2 : Int32) (s24 q6 q8 q10 q12 q13 q21 q22)) (wt := 0) (cu' := 0) (su' := 0) (by decide) trivial rfl rfl rfl rfl rfl rfl rfl rfl rfl rfl (ws' := [(10, F1, G1, A1, B1)]) rfl ?_
                  refine Wk.iload o_L_row_98 rfl ?_
                  refine Wk.icmp_eq o_L_row_100 (fun q25 => ?_) (fun q25 => ?_)
                  · refine Wk.iconst o_L_row_105 (z := (1 : Int32)) (by decide) ?_
                    exact Wk.zreturn mrL rfl o_L_row_106 rfl (by decide) (by decide) (y := (1 : Int32)) (by decide) (h26 q6 q8 q10 q12 q13 q21 q22 q25)
                  · refine Wk.iconst o_L_row_103 (z := (0 : Int32)) (by decide) ?_
                    exact Wk.zreturn mrL rfl o_L_row_104 rfl (by decide) (by decide) (y := (0 : Int32)) (by decide) (h27 q6 q8 q10 q12 q13 q21 q22 q25)
              · refine Wk.iconst o_L_row_85 (z := (0 : Int32)) (by decide) ?_
                exact Wk.zreturn mrL rfl o_L_row_86 rfl (by decide) (by decide) (y := (0 : Int32)) (by decide) (h28 q6 q8 q10 q12 q13 q21)
          · refine Wk.iconst o_L_row_67 (z := (0 : Int32)) (by decide) ?_
            exact Wk.zreturn mrL rfl o_L_row_68 rfl (by decide) (by decide) (y := (0 : Int32)) (by decide) (h29 q6 q8 q10 q12)
        · refine Wk.iconst o_L_row_55 (z := (0 : Int32)) (by decide) ?_
          exact Wk.zreturn mrL rfl o_L_row_56 rfl (by decide) (by decide) (y := (0 : Int32)) (by decide) (h30 q6 q8 q10)
      · refine Wk.iconst o_L_row_43 (z := (0 : Int32)) (by decide) ?_
        exact Wk.zreturn mrL rfl o_L_row_44 rfl (by decide) (by decide) (y := (0 : Int32)) (by decide) (h31 q6 q8)
    · refine Wk.iconst o_L_row_31 (z := (0 : Int32)) (by decide) ?_
      exact Wk.zreturn mrL rfl o_L_row_32 rfl (by decide) (by decide) (y := (0 : Int32)) (by decide) (h32 q6)
  refine Wk.if_ne o_L_row_1 (fun q1 => ?_) (fun q1 => ?_)
  · refine Wk.iloadN o_L_row_8 rfl ?_
    refine Wk.iconst o_L_row_9 (z := (1 : Int32)) (by decide) ?_
    refine Wk.icmp_ne o_L_row_10 (fun q2 => ?_) (fun q2 => ?_)
    · refine Wk.iload o_L_row_18 rfl ?_
      first | (rw [show ((if p2 = 0 then p3 else (if p2 = (1 : Int32) then p4 else p5)) : Int32) = p5 from Eq.trans (if_neg q1) <| if_neg q2] at J4; exact J4) | exact J4 | (simp only [if_neg q1, if_neg q2] at J4 ⊢; exact J4)
    · refine Wk.iload o_L_row_13 rfl ?_
      refine Wk.goto o_L_row_15 ?_
      first | (rw [show ((if p2 = 0 then p3 else (if p2 = (1 : Int32) then p4 else p5)) : Int32) = p4 from Eq.trans (if_neg q1) <| if_pos q2] at J4; exact J4) | exact J4 | (simp only [if_neg q1, if_pos q2] at J4 ⊢; exact J4)
  · refine Wk.iloadN o_L_row_4 rfl ?_
    refine Wk.goto o_L_row_5 ?_
    first | (rw [show ((if p2 = 0 then p3 else (if p2 = (1 : Int32) then p4 else p5)) : Int32) = p3 from if_pos q1] at J4; exact J4) | exact J4 | (simp only [if_pos q1] at J4 ⊢; exact J4)

def en_L_row (F1 : Nat → Int32) (A1 : Nat → Int32 → Int32) (p1 : Int32) (p2 : Int32) (p3 : Int32) (p4 : Int32) (p5 : Int32) (p6 : Int32) : Option (Int32) := (if ((en_rowDepth F1 A1 p1).isSome = true) then (if (R_rowDepth F1 A1 p1) = p2 then (if ((en_rowNode F1 A1 p1).isSome = true) then (if (R_rowNode F1 A1 p1) = (if p2 = 0 then p3 else (if p2 = (1 : Int32) then p4 else p5)) then (if ((en_rowIsCycle F1 A1 p1).isSome = true) then (if (R_rowIsCycle F1 A1 p1) = p6 then (if ((en_rowPathNode F1 A1 p1 (0 : Int32)).isSome = true) then (if (R_rowPathNode F1 A1 p1 (0 : Int32)) = p3 then (if p2 < (1 : Int32) then (if p2 < (2 : Int32) then some ((1 : Int32)) else (if ((en_rowPathNode F1 A1 p1 (2 : Int32)).isSome = true) then (if (R_rowPathNode F1 A1 p1 (2 : Int32)) = p5 then some ((1 : Int32)) else some ((0 : Int32))) else none)) else (if ((en_rowPathNode F1 A1 p1 (1 : Int32)).isSome = true) then (if (R_rowPathNode F1 A1 p1 (1 : Int32)) = p4 then (if p2 < (2 : Int32) then some ((1 : Int32)) else (if ((en_rowPathNode F1 A1 p1 (2 : Int32)).isSome = true) then (if (R_rowPathNode F1 A1 p1 (2 : Int32)) = p5 then some ((1 : Int32)) else some ((0 : Int32))) else none)) else some ((0 : Int32))) else none)) else some ((0 : Int32))) else none) else some ((0 : Int32))) else none) else some ((0 : Int32))) else none) else some ((0 : Int32))) else none)
theorem een_L_row (F1 : Nat → Int32) (A1 : Nat → Int32 → Int32) (p1 : Int32) (p2 : Int32) (p3 : Int32) (p4 : Int32) (p5 : Int32) (p6 : Int32) : en_L_row  F1 A1 p1 p2 p3 p4 p5 p6 = (if ((en_rowDepth F1 A1 p1).isSome = true) then (if (R_rowDepth F1 A1 p1) = p2 then (if ((en_rowNode F1 A1 p1).isSome = true) then (if (R_rowNode F1 A1 p1) = (if p2 = 0 then p3 else (if p2 = (1 : Int32) then p4 else p5)) then (if ((en_rowIsCycle F1 A1 p1).isSome = true) then (if (R_rowIsCycle F1 A1 p1) = p6 then (if ((en_rowPathNode F1 A1 p1 (0 : Int32)).isSome = true) then (if (R_rowPathNode F1 A1 p1 (0 : Int32)) = p3 then (if p2 < (1 : Int32) then (if p2 < (2 : Int32) then some ((1 : Int32)) else (if ((en_rowPathNode F1 A1 p1 (2 : Int32)).isSome = true) then (if (R_rowPathNode F1 A1 p1 (2 : Int32)) = p5 then some ((1 : Int32)) else some ((0 : Int32))) else none)) else (if ((en_rowPathNode F1 A1 p1 (1 : Int32)).isSome = true) then (if (R_rowPathNode F1 A1 p1 (1 : Int32)) = p4 then (if p2 < (2 : Int32) then some ((1 : Int32)) else (if ((en_rowPathNode F1 A1 p1 (2 : Int32)).isSome = true) then (if (R_rowPathNode F1 A1 p1 (2 : Int32)) = p5 then some ((1 : Int32)) else some ((0 : Int32))) else none)) else some ((0 : Int32))) else none)) else some ((0 : Int32))) else none) else some ((0 : Int32))) else none) else some ((0 : Int32))) else none) else some ((0 : Int32))) else none) := Eq.trans rfl rfl
def R_L_row (F1 : Nat → Int32) (A1 : Nat → Int32 → Int32) (p1 : Int32) (p2 : Int32) (p3 : Int32) (p4 : Int32) (p5 : Int32) (p6 : Int32) : Int32 := (en_L_row  F1 A1 p1 p2 p3 p4 p5 p6).getD (0)
theorem eR_L_row (F1 : Nat → Int32) (A1 : Nat → Int32 → Int32) (p1 : Int32) (p2 : Int32) (p3 : Int32) (p4 : Int32) (p5 : Int32) (p6 : Int32) : R_L_row  F1 A1 p1 p2 p3 p4 p5 p6 = (en_L_row  F1 A1 p1 p2 p3 p4 p5 p6).getD (0) := Eq.trans rfl rfl
set_option maxRecDepth 65536 in
set_option maxHeartbeats 4000000 in
theorem run_L_row {l : Launch} {Z : State} {a0 : Array Value} (H : OK Z a0) (sl : Int32) (sv : Int32 → Int32) (F1 : Nat → Int32) (G1 : Nat → Int64) (A1 : Nat → Int32 → Int32) (B1 : Nat → Int32 → Int64) (p1 : Int32) (p2 : Int32) (p3 : Int32) (p4 : Int32) (p5 : Int32) (p6 : Int32) (e1 : (en_L_row  F1 A1 p1 p2 p3 p4 p5 p6).isSome = true) :
    Wk l Z (MoL Z cdC "RecursiveCteL3" false) md_L_row 0 [.val (.ref 1), .val (.int p1), .val (.int p2), .val (.int p3), .val (.int p4), .val (.int p5), .val (.int p6), .unset] [] (sl, sv, [(10, F1, G1, A1, B1)]) 0 0 (fun v w' => v = some (.int (R_L_row  F1 A1 p1 p2 p3 p4 p5 p6)) ∧ w' = (sl, sv, [(10, F1, G1, A1, B1)])) := by
  obtain ⟨r, h⟩ := Option.isSome_iff_exists.mp e1
  have e : R_L_row  F1 A1 p1 p2 p3 p4 p5 p6 = r := (eR_L_row  F1 A1 p1 p2 p3 p4 p5 p6).trans (getD_some h)
  rw [e]
  rw [een_L_row] at h
  exact wp_L_row H sl sv F1 G1 A1 B1 p1 p2 p3 p4 p5 p6 ((gd h).1) (fun q6 => (gd (ifp q6 (gd h).2)).1) (fun q6 q8 => (gd (ifp q8 (gd (ifp q6 (gd h).2)).2)).1) (fun q6 q8 q10 => (gd (ifp q10 (gd (ifp q8 (gd (ifp q6 (gd h).2)).2)).2)).1) (fun q6 q8 q10 q12 q13 q14 => (by have e := Option.some.inj (ifp q14 (ifp q13 (ifp q12 (gd (ifp q10 (gd (ifp q8 (gd (ifp q6 (gd h).2)).2)).2)).2))); subst e; exact ⟨rfl, rfl⟩)) (fun q6 q8 q10 q12 q13 q14 => (gd (ifn q14 (ifp q13 (ifp q12 (gd (ifp q10 (gd (ifp q8 (gd (ifp q6 (gd h).2)).2)).2)).2)))).1) (fun q6 q8 q10 q12 q13 q14 q17 => (by have e := Option.some.inj (ifp q17 (gd (ifn q14 (ifp q13 (ifp q12 (gd (ifp q10 (gd (ifp q8 (gd (ifp q6 (gd h).2)).2)).2)).2)))).2); subst e; exact ⟨rfl, rfl⟩)) (fun q6 q8 q10 q12 q13 q14 q17 => (by have e := Option.some.inj (ifn q17 (gd (ifn q14 (ifp q13 (ifp q12 (gd (ifp q10 (gd (ifp q8 (gd (ifp q6 (gd h).2)).2)).2)).2)))).2); subst e; exact ⟨rfl, rfl⟩)) (fun q6 q8 q10 q12 q13 => (gd (ifn q13 (ifp q12 (gd (ifp q10 (gd (ifp q8 (gd (ifp q6 (gd h).2)).2)).2)).2))).1) (fun q6 q8 q10 q12 q13 q21 q22 => (by have e := Option.some.inj (ifp q22 (ifp q21 (gd (ifn q13 (ifp q12 (gd (ifp q10 (gd (ifp q8 (gd (ifp q6 (gd h).2)).2)).2)).2))).2)); subst e; exact ⟨rfl, rfl⟩)) (fun q6 q8 q10 q12 q13 q21 q22 => (gd (ifn q22 (ifp q21 (gd (ifn q13 (ifp q12 (gd (ifp q10 (gd (ifp q8 (gd (ifp q6 (gd h).2)).2)).2)).2))).2))).1) (fun q6 q8 q10 q12 q13 q21 q22 q25 => (by have e := Option.some.inj (ifp q25 (gd (ifn q22 (ifp q21 (gd (ifn q13 (ifp q12 (gd (ifp q10 (gd (ifp q8 (gd (ifp q6 (gd h).2)).2)).2)).2))).2))).2); subst e; exact ⟨rfl, rfl⟩)) (fun q6 q8 q10 q12 q13 q21 q22 q25 => (by have e := Option.some.inj (ifn q25 (gd (ifn q22 (ifp q21 (gd (ifn q13 (ifp q12 (gd (ifp q10 (gd (ifp q8 (gd (ifp q6 (gd h).2)).2)).2)).2))).2))).2); subst e; exact ⟨rfl, rfl⟩)) (fun q6 q8 q10 q12 q13 q21 => (by have e := Option.some.inj (ifn q21 (gd (ifn q13 (ifp q12 (gd (ifp q10 (gd (ifp q8 (gd (ifp q6 (gd h).2)).2)).2)).2))).2); subst e; exact ⟨rfl, rfl⟩)) (fun q6 q8 q10 q12 => (by have e := Option.some.inj (ifn q12 (gd (ifp q10 (gd (ifp q8 (gd (ifp q6 (gd h).2)).2)).2)).2); subst e; exact ⟨rfl, rfl⟩)) (fun q6 q8 q10 => (by have e := Option.some.inj (ifn q10 (gd (ifp q8 (gd (ifp q6 (gd h).2)).2)).2); subst e; exact ⟨rfl, rfl⟩)) (fun q6 q8 => (by have e := Option.some.inj (ifn q8 (gd (ifp q6 (gd h).2)).2); subst e; exact ⟨rfl, rfl⟩)) (fun q6 => (by have e := Option.some.inj (ifn q6 (gd h).2); subst e; exact ⟨rfl, rfl⟩))
set_option maxRecDepth 65536 in
set_option maxHeartbeats 4000000 in
theorem wp_L_law {l : Launch} {Z : State} {a0 : Array Value} (H : OK Z a0) (sl : Int32) (sv : Int32 → Int32) (p1 : Int32) (p2 : Int32) (p3 : Int32) {Q : Option Value → WL → Prop} (h1 : Wk l Z (MoL Z cdC "RecursiveCteL3" false) md_L_law 35 [.unset, .unset, .unset, .val (.int (p1 &&& (3 : Int32))), .val (.int ((4 : Int32) + (p2 &&& (7 : Int32)))), .val (.int ((4 : Int32) + (p3 &&& (7 : Int32)))), .val (.ref 1), .unset] [] (sl, sv, [(10, (F_init (16 : Int32) (32 : Int32) (64 : Int32)), (fun _ => 0), (fun _ _ => 0), (fun _ _ => 0))]) 11 1573 Q) :
    Wk l Z (MoL Z cdC "RecursiveCteL3" false) md_L_law 0 [.val (.int p1), .val (.int p2), .val (.int p3), .unset, .unset, .unset, .unset, .unset] [] (sl, sv, []) 0 0 Q := by
  refine Wk.iloadN o_L_law_0 rfl ?_
  refine Wk.iconst o_L_law_1 (z := (3 : Int32)) (by decide) ?_
  refine Wk.iand o_L_law_2 ?_
  refine Wk.istoreN o_L_law_3 (Or.inl rfl) (L' := [.val (.int p1), .val (.int p2), .val (.int p3), .val (.int (p1 &&& (3 : Int32))), .unset, .unset, .unset, .unset]) rfl ?_
  refine Wk.iconst o_L_law_4 (z := (4 : Int32)) (by decide) ?_
  refine Wk.iloadN o_L_law_5 rfl ?_
  refine Wk.bipush o_L_law_6 (z := (7 : Int32)) (by decide) ?_
  refine Wk.iand o_L_law_8 ?_
  refine Wk.iadd o_L_law_9 ?_
  refine Wk.istore o_L_law_10 (Or.inl rfl) (L' := [.val (.int p1), .val (.int p2), .val (.int p3), .val (.int (p1 &&& (3 : Int32))), .val (.int ((4 : Int32) + (p2 &&& (7 : Int32)))), .unset, .unset, .unset]) rfl ?_
  refine Wk.iconst o_L_law_12 (z := (4 : Int32)) (by decide) ?_
  refine Wk.iloadN o_L_law_13 rfl ?_
  refine Wk.bipush o_L_law_14 (z := (7 : Int32)) (by decide) ?_
  refine Wk.iand o_L_law_16 ?_
  refine Wk.iadd o_L_law_17 ?_
  refine Wk.istore o_L_law_18 (Or.inl rfl) (L' := [.val (.int p1), .val (.int p2), .val (.int p3), .val (.int (p1 &&& (3 : Int32))), .val (.int ((4 : Int32) + (p2 &&& (7 : Int32)))), .val (.int ((4 : Int32) + (p3 &&& (7 : Int32)))), .unset, .unset]) rfl ?_
  refine Wk.newL (coC H) (kk := 21) (H.w 0 rfl) (H.w 1 rfl) (wz_C H) o_L_law_20 trivial (i' := 1) rfl (ws' := [(0, (fun _ => 0), (fun _ => 0), (fun _ _ => 0), (fun _ _ => 0))]) rfl (cu' := 1) rfl (su' := 21) rfl (by decide) (by decide) ?_
  refine Wk.dup o_L_law_23 rfl ?_
  refine Wk.bipush o_L_law_24 (z := (16 : Int32)) (by decide) ?_
  refine Wk.bipush o_L_law_26 (z := (32 : Int32)) (by decide) ?_
  refine Wk.bipush o_L_law_28 (z := (64 : Int32)) (by decide) ?_
  refine Wk.ctorLU (coC H) [.int (16 : Int32), .int (32 : Int32), .int (64 : Int32)] 0 [.ref 1] (i' := 1) (H.w 3 rfl) (cv_init H) o_L_law_30 (run_init H (16 : Int32) (32 : Int32) (64 : Int32)) (wt := 1) (cu' := 11) (su' := 1573) (by decide) trivial rfl rfl rfl rfl rfl rfl rfl rfl rfl rfl (ws' := [(10, (F_init (16 : Int32) (32 : Int32) (64 : Int32)), (fun _ => 0), (fun _ _ => 0), (fun _ _ => 0))]) rfl ?_
  refine Wk.astore o_L_law_33 (Or.inl rfl) (L' := [.val (.int p1), .val (.int p2), .val (.int p3), .val (.int (p1 &&& (3 : Int32))), .val (.int ((4 : Int32) + (p2 &&& (7 : Int32)))), .val (.int ((4 : Int32) + (p3 &&& (7 : Int32)))), .val (.ref 1), .unset]) rfl ?_
  refine Wk.forget [true, true, true, false, false, false, false, false] (L' := [.unset, .unset, .unset, .val (.int (p1 &&& (3 : Int32))), .val (.int ((4 : Int32) + (p2 &&& (7 : Int32)))), .val (.int ((4 : Int32) + (p3 &&& (7 : Int32)))), .val (.ref 1), .unset]) rfl rfl ?_
  exact h1

set_option maxRecDepth 65536 in
set_option maxHeartbeats 4000000 in
theorem wp_L_law_35 {l : Launch} {Z : State} {a0 : Array Value} (H : OK Z a0) (sl : Int32) (sv : Int32 → Int32) (F1 : Nat → Int32) (G1 : Nat → Int64) (A1 : Nat → Int32 → Int32) (B1 : Nat → Int32 → Int64) (v3 : Int32) (v4 : Int32) (v5 : Int32) {Q : Option Value → WL → Prop} (s1 : (en_addEdge F1 A1 v3 v4).isSome = true) (h3 : (R_addEdge F1 A1 v3 v4).1 = 0 → Wk l Z (MoL Z cdC "RecursiveCteL3" false) md_L_law 48 [.unset, .unset, .unset, .val (.int v3), .val (.int v4), .val (.int v5), .val (.ref 1), .unset] [] (sl, sv, [(10, (R_addEdge F1 A1 v3 v4).2.1, G1, (R_addEdge F1 A1 v3 v4).2.2, B1)]) 11 1573 Q) (h4 : ¬ (R_addEdge F1 A1 v3 v4).1 = 0 → Q (some (.int (0 : Int32))) (sl, sv, [(10, (R_addEdge F1 A1 v3 v4).2.1, G1, (R_addEdge F1 A1 v3 v4).2.2, B1)])) :
    Wk l Z (MoL Z cdC "RecursiveCteL3" false) md_L_law 35 [.unset, .unset, .unset, .val (.int v3), .val (.int v4), .val (.int v5), .val (.ref 1), .unset] [] (sl, sv, [(10, F1, G1, A1, B1)]) 11 1573 Q := by
  refine Wk.aload o_L_law_35 rfl ?_
  refine Wk.iloadN o_L_law_37 rfl ?_
  refine Wk.iload o_L_law_38 rfl ?_
  refine Wk.callLF (coC H) [.int v3, .int v4] 0 [] (i' := 1) (H.w 57 rfl) (cv_addEdge H) o_L_law_40 (run_addEdge H F1 G1 A1 B1 v3 v4 s1) (wt := 0) (cu' := 11) (su' := 1573) (by decide) trivial rfl rfl rfl rfl rfl rfl rfl rfl rfl rfl (ws' := [(10, (R_addEdge F1 A1 v3 v4).2.1, G1, (R_addEdge F1 A1 v3 v4).2.2, B1)]) rfl ?_
  refine Wk.if_eq o_L_law_43 (fun q2 => ?_) (fun q2 => ?_)
  · exact (h3 q2)
  · refine Wk.iconst o_L_law_46 (z := (0 : Int32)) (by decide) ?_
    exact Wk.zreturn mrL rfl o_L_law_47 rfl (by decide) (by decide) (y := (0 : Int32)) (by decide) (h4 q2)

set_option maxRecDepth 65536 in
set_option maxHeartbeats 4000000 in
theorem wp_L_law_48 {l : Launch} {Z : State} {a0 : Array Value} (H : OK Z a0) (sl : Int32) (sv : Int32 → Int32) (F1 : Nat → Int32) (G1 : Nat → Int64) (A1 : Nat → Int32 → Int32) (B1 : Nat → Int32 → Int64) (v3 : Int32) (v4 : Int32) (v5 : Int32) {Q : Option Value → WL → Prop} (s1 : (en_addEdge F1 A1 v3 v5).isSome = true) (h5 : (R_addEdge F1 A1 v3 v5).1 = (if v4 = v5 then (-2 : Int32) else (0 : Int32)) → Wk l Z (MoL Z cdC "RecursiveCteL3" false) md_L_law 74 [.unset, .unset, .unset, .val (.int v3), .val (.int v4), .val (.int v5), .val (.ref 1), .unset] [] (sl, sv, [(10, (R_addEdge F1 A1 v3 v5).2.1, G1, (R_addEdge F1 A1 v3 v5).2.2, B1)]) 11 1573 Q) (h6 : ¬ (R_addEdge F1 A1 v3 v5).1 = (if v4 = v5 then (-2 : Int32) else (0 : Int32)) → Q (some (.int (0 : Int32))) (sl, sv, [(10, (R_addEdge F1 A1 v3 v5).2.1, G1, (R_addEdge F1 A1 v3 v5).2.2, B1)])) :
    Wk l Z (MoL Z cdC "RecursiveCteL3" false) md_L_law 48 [.unset, .unset, .unset, .val (.int v3), .val (.int v4), .val (.int v5), .val (.ref 1), .unset] [] (sl, sv, [(10, F1, G1, A1, B1)]) 11 1573 Q := by
  refine Wk.aload o_L_law_48 rfl ?_
  refine Wk.iloadN o_L_law_50 rfl ?_
  refine Wk.iload o_L_law_51 rfl ?_
  refine Wk.callLF (coC H) [.int v3, .int v5] 0 [] (i' := 1) (H.w 57 rfl) (cv_addEdge H) o_L_law_53 (run_addEdge H F1 G1 A1 B1 v3 v5 s1) (wt := 0) (cu' := 11) (su' := 1573) (by decide) trivial rfl rfl rfl rfl rfl rfl rfl rfl rfl rfl (ws' := [(10, (R_addEdge F1 A1 v3 v5).2.1, G1, (R_addEdge F1 A1 v3 v5).2.2, B1)]) rfl ?_
  refine Wk.iload o_L_law_56 rfl ?_
  refine Wk.iload o_L_law_58 rfl ?_
  have J3 : Wk l Z (MoL Z cdC "RecursiveCteL3" false) md_L_law 69 [.unset, .unset, .unset, .val (.int v3), .val (.int v4), .val (.int v5), .val (.ref 1), .unset] [.int (if v4 = v5 then (-2 : Int32) else (0 : Int32)), .int (R_addEdge F1 A1 v3 v5).1] (sl, sv, [(10, (R_addEdge F1 A1 v3 v5).2.1, G1, (R_addEdge F1 A1 v3 v5).2.2, B1)]) 11 1573 Q := by
    refine Wk.icmp_eq o_L_law_69 (fun q4 => ?_) (fun q4 => ?_)
    · exact (h5 q4)
    · refine Wk.iconst o_L_law_72 (z := (0 : Int32)) (by decide) ?_
      exact Wk.zreturn mrL rfl o_L_law_73 rfl (by decide) (by decide) (y := (0 : Int32)) (by decide) (h6 q4)
  refine Wk.icmp_ne o_L_law_60 (fun q2 => ?_) (fun q2 => ?_)
  · refine Wk.iconst o_L_law_68 (z := (0 : Int32)) (by decide) ?_
    first | (rw [show ((if v4 = v5 then (-2 : Int32) else (0 : Int32)) : Int32) = (0 : Int32) from if_neg q2] at J3; exact J3) | exact J3 | (simp only [if_neg q2] at J3 ⊢; exact J3)
  · refine Wk.bipush o_L_law_63 (z := (-2 : Int32)) (by decide) ?_
    refine Wk.goto o_L_law_65 ?_
    first | (rw [show ((if v4 = v5 then (-2 : Int32) else (0 : Int32)) : Int32) = (-2 : Int32) from if_pos q2] at J3; exact J3) | exact J3 | (simp only [if_pos q2] at J3 ⊢; exact J3)

set_option maxRecDepth 65536 in
set_option maxHeartbeats 4000000 in
theorem wp_L_law_74 {l : Launch} {Z : State} {a0 : Array Value} (H : OK Z a0) (sl : Int32) (sv : Int32 → Int32) (F1 : Nat → Int32) (G1 : Nat → Int64) (A1 : Nat → Int32 → Int32) (B1 : Nat → Int32 → Int64) (v3 : Int32) (v4 : Int32) (v5 : Int32) {Q : Option Value → WL → Prop} (s1 : (en_addEdge F1 A1 v4 v3).isSome = true) (h3 : (R_addEdge F1 A1 v4 v3).1 = 0 → Wk l Z (MoL Z cdC "RecursiveCteL3" false) md_L_law 87 [.unset, .unset, .unset, .val (.int v3), .val (.int v4), .val (.int v5), .val (.ref 1), .unset] [] (sl, sv, [(10, (R_addEdge F1 A1 v4 v3).2.1, G1, (R_addEdge F1 A1 v4 v3).2.2, B1)]) 11 1573 Q) (h4 : ¬ (R_addEdge F1 A1 v4 v3).1 = 0 → Q (some (.int (0 : Int32))) (sl, sv, [(10, (R_addEdge F1 A1 v4 v3).2.1, G1, (R_addEdge F1 A1 v4 v3).2.2, B1)])) :
    Wk l Z (MoL Z cdC "RecursiveCteL3" false) md_L_law 74 [.unset, .unset, .unset, .val (.int v3), .val (.int v4), .val (.int v5), .val (.ref 1), .unset] [] (sl, sv, [(10, F1, G1, A1, B1)]) 11 1573 Q := by
  refine Wk.aload o_L_law_74 rfl ?_
  refine Wk.iload o_L_law_76 rfl ?_
  refine Wk.iloadN o_L_law_78 rfl ?_
  refine Wk.callLF (coC H) [.int v4, .int v3] 0 [] (i' := 1) (H.w 57 rfl) (cv_addEdge H) o_L_law_79 (run_addEdge H F1 G1 A1 B1 v4 v3 s1) (wt := 0) (cu' := 11) (su' := 1573) (by decide) trivial rfl rfl rfl rfl rfl rfl rfl rfl rfl rfl (ws' := [(10, (R_addEdge F1 A1 v4 v3).2.1, G1, (R_addEdge F1 A1 v4 v3).2.2, B1)]) rfl ?_
  refine Wk.if_eq o_L_law_82 (fun q2 => ?_) (fun q2 => ?_)
  · exact (h3 q2)
  · refine Wk.iconst o_L_law_85 (z := (0 : Int32)) (by decide) ?_
    exact Wk.zreturn mrL rfl o_L_law_86 rfl (by decide) (by decide) (y := (0 : Int32)) (by decide) (h4 q2)

set_option maxRecDepth 65536 in
set_option maxHeartbeats 4000000 in
theorem wp_L_law_87 {l : Launch} {Z : State} {a0 : Array Value} (H : OK Z a0) (sl : Int32) (sv : Int32 → Int32) (F1 : Nat → Int32) (G1 : Nat → Int64) (A1 : Nat → Int32 → Int32) (B1 : Nat → Int32 → Int64) (v3 : Int32) (v4 : Int32) (v5 : Int32) {Q : Option Value → WL → Prop} (s1 : (en_addSeed F1 A1 v3).isSome = true) (h3 : (R_addSeed F1 A1 v3).1 = 0 → Wk l Z (MoL Z cdC "RecursiveCteL3" false) md_L_law 98 [.unset, .unset, .unset, .val (.int v3), .val (.int v4), .val (.int v5), .val (.ref 1), .unset] [] (sl, sv, [(10, (R_addSeed F1 A1 v3).2.1, G1, (R_addSeed F1 A1 v3).2.2, B1)]) 11 1573 Q) (h4 : ¬ (R_addSeed F1 A1 v3).1 = 0 → Q (some (.int (0 : Int32))) (sl, sv, [(10, (R_addSeed F1 A1 v3).2.1, G1, (R_addSeed F1 A1 v3).2.2, B1)])) :
    Wk l Z (MoL Z cdC "RecursiveCteL3" false) md_L_law 87 [.unset, .unset, .unset, .val (.int v3), .val (.int v4), .val (.int v5), .val (.ref 1), .unset] [] (sl, sv, [(10, F1, G1, A1, B1)]) 11 1573 Q := by
  refine Wk.aload o_L_law_87 rfl ?_
  refine Wk.iloadN o_L_law_89 rfl ?_
  refine Wk.callLF (coC H) [.int v3] 0 [] (i' := 1) (H.w 70 rfl) (cv_addSeed H) o_L_law_90 (run_addSeed H F1 G1 A1 B1 v3 s1) (wt := 0) (cu' := 11) (su' := 1573) (by decide) trivial rfl rfl rfl rfl rfl rfl rfl rfl rfl rfl (ws' := [(10, (R_addSeed F1 A1 v3).2.1, G1, (R_addSeed F1 A1 v3).2.2, B1)]) rfl ?_
  refine Wk.if_eq o_L_law_93 (fun q2 => ?_) (fun q2 => ?_)
  · exact (h3 q2)
  · refine Wk.iconst o_L_law_96 (z := (0 : Int32)) (by decide) ?_
    exact Wk.zreturn mrL rfl o_L_law_97 rfl (by decide) (by decide) (y := (0 : Int32)) (by decide) (h4 q2)

set_option maxRecDepth 65536 in
set_option maxHeartbeats 4000000 in
theorem wp_L_law_98 {l : Launch} {Z : State} {a0 : Array Value} (H : OK Z a0) (sl : Int32) (sv : Int32 → Int32) (F1 : Nat → Int32) (G1 : Nat → Int64) (A1 : Nat → Int32 → Int32) (B1 : Nat → Int32 → Int64) (v3 : Int32) (v4 : Int32) (v5 : Int32) {Q : Option Value → WL → Prop} (s3 : (en_run F1 A1 ).isSome = true) (h5 : (R_run F1 A1 ).1 = (if v4 = v5 then (3 : Int32) else (4 : Int32)) → Wk l Z (MoL Z cdC "RecursiveCteL3" false) md_L_law 124 [.unset, .unset, .unset, .val (.int v3), .val (.int v4), .val (.int v5), .val (.ref 1), .val (.int (if v4 = v5 then (3 : Int32) else (4 : Int32)))] [] (sl, sv, [(10, (R_run F1 A1 ).2.1, G1, (R_run F1 A1 ).2.2, B1)]) 11 1573 Q) (h6 : ¬ (R_run F1 A1 ).1 = (if v4 = v5 then (3 : Int32) else (4 : Int32)) → Q (some (.int (0 : Int32))) (sl, sv, [(10, (R_run F1 A1 ).2.1, G1, (R_run F1 A1 ).2.2, B1)])) :
    Wk l Z (MoL Z cdC "RecursiveCteL3" false) md_L_law 98 [.unset, .unset, .unset, .val (.int v3), .val (.int v4), .val (.int v5), .val (.ref 1), .unset] [] (sl, sv, [(10, F1, G1, A1, B1)]) 11 1573 Q := by
  refine Wk.iload o_L_law_98 rfl ?_
  refine Wk.iload o_L_law_100 rfl ?_
  have J2 : Wk l Z (MoL Z cdC "RecursiveCteL3" false) md_L_law 110 [.unset, .unset, .unset, .val (.int v3), .val (.int v4), .val (.int v5), .val (.ref 1), .unset] [.int (if v4 = v5 then (3 : Int32) else (4 : Int32))] (sl, sv, [(10, F1, G1, A1, B1)]) 11 1573 Q := by
    refine Wk.istore o_L_law_110 (Or.inl rfl) (L' := [.unset, .unset, .unset, .val (.int v3), .val (.int v4), .val (.int v5), .val (.ref 1), .val (.int (if v4 = v5 then (3 : Int32) else (4 : Int32)))]) rfl ?_
    refine Wk.aload o_L_law_112 rfl ?_
    refine Wk.callLF (coC H) [] 0 [] (i' := 1) (H.w 75 rfl) (cv_run H) o_L_law_114 (run_run H F1 G1 A1 B1 s3) (wt := 0) (cu' := 11) (su' := 1573) (by decide) trivial rfl rfl rfl rfl rfl rfl rfl rfl rfl rfl (ws' := [(10, (R_run F1 A1 ).2.1, G1, (R_run F1 A1 ).2.2, B1)]) rfl ?_
    refine Wk.iload o_L_law_117 rfl ?_
    refine Wk.icmp_eq o_L_law_119 (fun q4 => ?_) (fun q4 => ?_)
    · exact (h5 q4)
    · refine Wk.iconst o_L_law_122 (z := (0 : Int32)) (by decide) ?_
      exact Wk.zreturn mrL rfl o_L_law_123 rfl (by decide) (by decide) (y := (0 : Int32)) (by decide) (h6 q4)
  refine Wk.icmp_ne o_L_law_102 (fun q1 => ?_) (fun q1 => ?_)
  · refine Wk.iconst o_L_law_109 (z := (4 : Int32)) (by decide) ?_
    first | (rw [show ((if v4 = v5 then (3 : Int32) else (4 : Int32)) : Int32) = (4 : Int32) from if_neg q1] at J2; exact J2) | exact J2 | (simp only [if_neg q1] at J2 ⊢; exact J2)
  · refine Wk.iconst o_L_law_105 (z := (3 : Int32)) (by decide) ?_
    refine Wk.goto o_L_law_106 ?_
    first | (rw [show ((if v4 = v5 then (3 : Int32) else (4 : Int32)) : Int32) = (3 : Int32) from if_pos q1] at J2; exact J2) | exact J2 | (simp only [if_pos q1] at J2 ⊢; exact J2)

set_option maxRecDepth 65536 in
set_option maxHeartbeats 4000000 in
theorem wp_L_law_124 {l : Launch} {Z : State} {a0 : Array Value} (H : OK Z a0) (sl : Int32) (sv : Int32 → Int32) (F1 : Nat → Int32) (G1 : Nat → Int64) (A1 : Nat → Int32 → Int32) (B1 : Nat → Int32 → Int64) (v3 : Int32) (v4 : Int32) (v5 : Int32) (v7 : Int32) {Q : Option Value → WL → Prop} (s3 : (f_rowCount F1) = v7 → (f_status F1) = (1 : Int32) → (en_L_row  F1 A1 (0 : Int32) (0 : Int32) v3 (-1 : Int32) (-1 : Int32) (0 : Int32)).isSome = true) (s7 : (f_rowCount F1) = v7 → (f_status F1) = (1 : Int32) → ¬ (R_L_row  F1 A1 (0 : Int32) (0 : Int32) v3 (-1 : Int32) (-1 : Int32) (0 : Int32)) = 0 → ¬ v4 = v5 → ¬ v4 < v5 → (en_L_row  F1 A1 (1 : Int32) (1 : Int32) v3 v5 (-1 : Int32) (0 : Int32)).isSome = true) (s9 : (f_rowCount F1) = v7 → (f_status F1) = (1 : Int32) → ¬ (R_L_row  F1 A1 (0 : Int32) (0 : Int32) v3 (-1 : Int32) (-1 : Int32) (0 : Int32)) = 0 → ¬ v4 = v5 → ¬ v4 < v5 → ¬ (R_L_row  F1 A1 (1 : Int32) (1 : Int32) v3 v5 (-1 : Int32) (0 : Int32)) = 0 → (en_L_row  F1 A1 (2 : Int32) (1 : Int32) v3 v4 (-1 : Int32) (0 : Int32)).isSome = true) (s11 : (f_rowCount F1) = v7 → (f_status F1) = (1 : Int32) → ¬ (R_L_row  F1 A1 (0 : Int32) (0 : Int32) v3 (-1 : Int32) (-1 : Int32) (0 : Int32)) = 0 → ¬ v4 = v5 → ¬ v4 < v5 → ¬ (R_L_row  F1 A1 (1 : Int32) (1 : Int32) v3 v5 (-1 : Int32) (0 : Int32)) = 0 → ¬ (R_L_row  F1 A1 (2 : Int32) (1 : Int32) v3 v4 (-1 : Int32) (0 : Int32)) = 0 → (en_L_row  F1 A1 (3 : Int32) (2 : Int32) v3 v4 v3 (1 : Int32)).isSome = true) (s14 : (f_rowCount F1) = v7 → (f_status F1) = (1 : Int32) → ¬ (R_L_row  F1 A1 (0 : Int32) (0 : Int32) v3 (-1 : Int32) (-1 : Int32) (0 : Int32)) = 0 → ¬ v4 = v5 → ¬ v4 < v5 → ¬ (R_L_row  F1 A1 (1 : Int32) (1 : Int32) v3 v5 (-1 : Int32) (0 : Int32)) = 0 → ¬ (R_L_row  F1 A1 (2 : Int32) (1 : Int32) v3 v4 (-1 : Int32) (0 : Int32)) = 0 → ¬ (R_L_row  F1 A1 (3 : Int32) (2 : Int32) v3 v4 v3 (1 : Int32)) = 0 → (f_countNode F1 A1 v3) = (2 : Int32) → (en_rowNode F1 A1 v7).isSome = true) (h17 : (f_rowCount F1) = v7 → (f_status F1) = (1 : Int32) → ¬ (R_L_row  F1 A1 (0 : Int32) (0 : Int32) v3 (-1 : Int32) (-1 : Int32) (0 : Int32)) = 0 → ¬ v4 = v5 → ¬ v4 < v5 → ¬ (R_L_row  F1 A1 (1 : Int32) (1 : Int32) v3 v5 (-1 : Int32) (0 : Int32)) = 0 → ¬ (R_L_row  F1 A1 (2 : Int32) (1 : Int32) v3 v4 (-1 : Int32) (0 : Int32)) = 0 → ¬ (R_L_row  F1 A1 (3 : Int32) (2 : Int32) v3 v4 v3 (1 : Int32)) = 0 → (f_countNode F1 A1 v3) = (2 : Int32) → Q (some (.int (nar .boolean (if (R_rowNode F1 A1 v7) = (-1 : Int32) then (1 : Int32) else (0 : Int32))))) (sl, sv, [(10, F1, G1, A1, B1)])) (h18 : (f_rowCount F1) = v7 → (f_status F1) = (1 : Int32) → ¬ (R_L_row  F1 A1 (0 : Int32) (0 : Int32) v3 (-1 : Int32) (-1 : Int32) (0 : Int32)) = 0 → ¬ v4 = v5 → ¬ v4 < v5 → ¬ (R_L_row  F1 A1 (1 : Int32) (1 : Int32) v3 v5 (-1 : Int32) (0 : Int32)) = 0 → ¬ (R_L_row  F1 A1 (2 : Int32) (1 : Int32) v3 v4 (-1 : Int32) (0 : Int32)) = 0 → ¬ (R_L_row  F1 A1 (3 : Int32) (2 : Int32) v3 v4 v3 (1 : Int32)) = 0 → ¬ (f_countNode F1 A1 v3) = (2 : Int32) → Q (some (.int (0 : Int32))) (sl, sv, [(10, F1, G1, A1, B1)])) (h19 : (f_rowCount F1) = v7 → (f_status F1) = (1 : Int32) → ¬ (R_L_row  F1 A1 (0 : Int32) (0 : Int32) v3 (-1 : Int32) (-1 : Int32) (0 : Int32)) = 0 → ¬ v4 = v5 → ¬ v4 < v5 → ¬ (R_L_row  F1 A1 (1 : Int32) (1 : Int32) v3 v5 (-1 : Int32) (0 : Int32)) = 0 → ¬ (R_L_row  F1 A1 (2 : Int32) (1 : Int32) v3 v4 (-1 : Int32) (0 : Int32)) = 0 → (R_L_row  F1 A1 (3 : Int32) (2 : Int32) v3 v4 v3 (1 : Int32)) = 0 → Q (some (.int (0 : Int32))) (sl, sv, [(10, F1, G1, A1, B1)])) (h20 : (f_rowCount F1) = v7 → (f_status F1) = (1 : Int32) → ¬ (R_L_row  F1 A1 (0 : Int32) (0 : Int32) v3 (-1 : Int32) (-1 : Int32) (0 : Int32)) = 0 → ¬ v4 = v5 → ¬ v4 < v5 → ¬ (R_L_row  F1 A1 (1 : Int32) (1 : Int32) v3 v5 (-1 : Int32) (0 : Int32)) = 0 → (R_L_row  F1 A1 (2 : Int32) (1 : Int32) v3 v4 (-1 : Int32) (0 : Int32)) = 0 → Q (some (.int (0 : Int32))) (sl, sv, [(10, F1, G1, A1, B1)])) (h21 : (f_rowCount F1) = v7 → (f_status F1) = (1 : Int32) → ¬ (R_L_row  F1 A1 (0 : Int32) (0 : Int32) v3 (-1 : Int32) (-1 : Int32) (0 : Int32)) = 0 → ¬ v4 = v5 → ¬ v4 < v5 → (R_L_row  F1 A1 (1 : Int32) (1 : Int32) v3 v5 (-1 : Int32) (0 : Int32)) = 0 → Q (some (.int (0 : Int32))) (sl, sv, [(10, F1, G1, A1, B1)])) (s22 : (f_rowCount F1) = v7 → (f_status F1) = (1 : Int32) → ¬ (R_L_row  F1 A1 (0 : Int32) (0 : Int32) v3 (-1 : Int32) (-1 : Int32) (0 : Int32)) = 0 → ¬ v4 = v5 → v4 < v5 → (en_L_row  F1 A1 (1 : Int32) (1 : Int32) v3 v4 (-1 : Int32) (0 : Int32)).isSome = true) (s24 : (f_rowCount F1) = v7 → (f_status F1) = (1 : Int32) → ¬ (R_L_row  F1 A1 (0 : Int32) (0 : Int32) v3 (-1 : Int32) (-1 : Int32) (0 : Int32)) = 0 → ¬ v4 = v5 → v4 < v5 → ¬ (R_L_row  F1 A1 (1 : Int32) (1 : Int32) v3 v4 (-1 : Int32) (0 : Int32)) = 0 → (en_L_row  F1 A1 (2 : Int32) (2 : Int32) v3 v4 v3 (1 : Int32)).isSome = true) (s26 : (f_rowCount F1) = v7 → (f_status F1) = (1 : Int32) → ¬ (R_L_row  F1 A1 (0 : Int32) (0 : Int32) v3 (-1 : Int32) (-1 : Int32) (0 : Int32)) = 0 → ¬ v4 = v5 → v4 < v5 → ¬ (R_L_row  F1 A1 (1 : Int32) (1 : Int32) v3 v4 (-1 : Int32) (0 : Int32)) = 0 → ¬ (R_L_row  F1 A1 (2 : Int32) (2 : Int32) v3 v4 v3 (1 : Int32)) = 0 → (en_L_row  F1 A1 (3 : Int32) (1 : Int32) v3 v5 (-1 : Int32) (0 : Int32)).isSome = true) (s29 : (f_rowCount F1) = v7 → (f_status F1) = (1 : Int32) → ¬ (R_L_row  F1 A1 (0 : Int32) (0 : Int32) v3 (-1 : Int32) (-1 : Int32) (0 : Int32)) = 0 → ¬ v4 = v5 → v4 < v5 → ¬ (R_L_row  F1 A1 (1 : Int32) (1 : Int32) v3 v4 (-1 : Int32) (0 : Int32)) = 0 → ¬ (R_L_row  F1 A1 (2 : Int32) (2 : Int32) v3 v4 v3 (1 : Int32)) = 0 → ¬ (R_L_row  F1 A1 (3 : Int32) (1 : Int32) v3 v5 (-1 : Int32) (0 : Int32)) = 0 → (f_countNode F1 A1 v3) = (2 : Int32) → (en_rowNode F1 A1 v7).isSome = true) (h32 : (f_rowCount F1) = v7 → (f_status F1) = (1 : Int32) → ¬ (R_L_row  F1 A1 (0 : Int32) (0 : Int32) v3 (-1 : Int32) (-1 : Int32) (0 : Int32)) = 0 → ¬ v4 = v5 → v4 < v5 → ¬ (R_L_row  F1 A1 (1 : Int32) (1 : Int32) v3 v4 (-1 : Int32) (0 : Int32)) = 0 → ¬ (R_L_row  F1 A1 (2 : Int32) (2 : Int32) v3 v4 v3 (1 : Int32)) = 0 → ¬ (R_L_row  F1 A1 (3 : Int32) (1 : Int32) v3 v5 (-1 : Int32) (0 : Int32)) = 0 → (f_countNode F1 A1 v3) = (2 : Int32) → Q (some (.int (nar .boolean (if (R_rowNode F1 A1 v7) = (-1 : Int32) then (1 : Int32) else (0 : Int32))))) (sl, sv, [(10, F1, G1, A1, B1)])) (h33 : (f_rowCount F1) = v7 → (f_status F1) = (1 : Int32) → ¬ (R_L_row  F1 A1 (0 : Int32) (0 : Int32) v3 (-1 : Int32) (-1 : Int32) (0 : Int32)) = 0 → ¬ v4 = v5 → v4 < v5 → ¬ (R_L_row  F1 A1 (1 : Int32) (1 : Int32) v3 v4 (-1 : Int32) (0 : Int32)) = 0 → ¬ (R_L_row  F1 A1 (2 : Int32) (2 : Int32) v3 v4 v3 (1 : Int32)) = 0 → ¬ (R_L_row  F1 A1 (3 : Int32) (1 : Int32) v3 v5 (-1 : Int32) (0 : Int32)) = 0 → ¬ (f_countNode F1 A1 v3) = (2 : Int32) → Q (some (.int (0 : Int32))) (sl, sv, [(10, F1, G1, A1, B1)])) (h34 : (f_rowCount F1) = v7 → (f_status F1) = (1 : Int32) → ¬ (R_L_row  F1 A1 (0 : Int32) (0 : Int32) v3 (-1 : Int32) (-1 : Int32) (0 : Int32)) = 0 → ¬ v4 = v5 → v4 < v5 → ¬ (R_L_row  F1 A1 (1 : Int32) (1 : Int32) v3 v4 (-1 : Int32) (0 : Int32)) = 0 → ¬ (R_L_row  F1 A1 (2 : Int32) (2 : Int32) v3 v4 v3 (1 : Int32)) = 0 → (R_L_row  F1 A1 (3 : Int32) (1 : Int32) v3 v5 (-1 : Int32) (0 : Int32)) = 0 → Q (some (.int (0 : Int32))) (sl, sv, [(10, F1, G1, A1, B1)])) (h35 : (f_rowCount F1) = v7 → (f_status F1) = (1 : Int32) → ¬ (R_L_row  F1 A1 (0 : Int32) (0 : Int32) v3 (-1 : Int32) (-1 : Int32) (0 : Int32)) = 0 → ¬ v4 = v5 → v4 < v5 → ¬ (R_L_row  F1 A1 (1 : Int32) (1 : Int32) v3 v4 (-1 : Int32) (0 : Int32)) = 0 → (R_L_row  F1 A1 (2 : Int32) (2 : Int32) v3 v4 v3 (1 : Int32)) = 0 → Q (some (.int (0 : Int32))) (sl, sv, [(10, F1, G1, A1, B1)])) (h36 : (f_rowCount F1) = v7 → (f_status F1) = (1 : Int32) → ¬ (R_L_row  F1 A1 (0 : Int32) (0 : Int32) v3 (-1 : Int32) (-1 : Int32) (0 : Int32)) = 0 → ¬ v4 = v5 → v4 < v5 → (R_L_row  F1 A1 (1 : Int32) (1 : Int32) v3 v4 (-1 : Int32) (0 : Int32)) = 0 → Q (some (.int (0 : Int32))) (sl, sv, [(10, F1, G1, A1, B1)])) (s37 : (f_rowCount F1) = v7 → (f_status F1) = (1 : Int32) → ¬ (R_L_row  F1 A1 (0 : Int32) (0 : Int32) v3 (-1 : Int32) (-1 : Int32) (0 : Int32)) = 0 → v4 = v5 → (en_L_row  F1 A1 (1 : Int32) (1 : Int32) v3 v4 (-1 : Int32) (0 : Int32)).isSome = true) (s39 : (f_rowCount F1) = v7 → (f_status F1) = (1 : Int32) → ¬ (R_L_row  F1 A1 (0 : Int32) (0 : Int32) v3 (-1 : Int32) (-1 : Int32) (0 : Int32)) = 0 → v4 = v5 → ¬ (R_L_row  F1 A1 (1 : Int32) (1 : Int32) v3 v4 (-1 : Int32) (0 : Int32)) = 0 → (en_L_row  F1 A1 (2 : Int32) (2 : Int32) v3 v4 v3 (1 : Int32)).isSome = true) (s42 : (f_rowCount F1) = v7 → (f_status F1) = (1 : Int32) → ¬ (R_L_row  F1 A1 (0 : Int32) (0 : Int32) v3 (-1 : Int32) (-1 : Int32) (0 : Int32)) = 0 → v4 = v5 → ¬ (R_L_row  F1 A1 (1 : Int32) (1 : Int32) v3 v4 (-1 : Int32) (0 : Int32)) = 0 → ¬ (R_L_row  F1 A1 (2 : Int32) (2 : Int32) v3 v4 v3 (1 : Int32)) = 0 → (f_countNode F1 A1 v3) = (2 : Int32) → (en_rowNode F1 A1 v7).isSome = true) (h45 : (f_rowCount F1) = v7 → (f_status F1) = (1 : Int32) → ¬ (R_L_row  F1 A1 (0 : Int32) (0 : Int32) v3 (-1 : Int32) (-1 : Int32) (0 : Int32)) = 0 → v4 = v5 → ¬ (R_L_row  F1 A1 (1 : Int32) (1 : Int32) v3 v4 (-1 : Int32) (0 : Int32)) = 0 → ¬ (R_L_row  F1 A1 (2 : Int32) (2 : Int32) v3 v4 v3 (1 : Int32)) = 0 → (f_countNode F1 A1 v3) = (2 : Int32) → Q (some (.int (nar .boolean (if (R_rowNode F1 A1 v7) = (-1 : Int32) then (1 : Int32) else (0 : Int32))))) (sl, sv, [(10, F1, G1, A1, B1)])) (h46 : (f_rowCount F1) = v7 → (f_status F1) = (1 : Int32) → ¬ (R_L_row  F1 A1 (0 : Int32) (0 : Int32) v3 (-1 : Int32) (-1 : Int32) (0 : Int32)) = 0 → v4 = v5 → ¬ (R_L_row  F1 A1 (1 : Int32) (1 : Int32) v3 v4 (-1 : Int32) (0 : Int32)) = 0 → ¬ (R_L_row  F1 A1 (2 : Int32) (2 : Int32) v3 v4 v3 (1 : Int32)) = 0 → ¬ (f_countNode F1 A1 v3) = (2 : Int32) → Q (some (.int (0 : Int32))) (sl, sv, [(10, F1, G1, A1, B1)])) (h47 : (f_rowCount F1) = v7 → (f_status F1) = (1 : Int32) → ¬ (R_L_row  F1 A1 (0 : Int32) (0 : Int32) v3 (-1 : Int32) (-1 : Int32) (0 : Int32)) = 0 → v4 = v5 → ¬ (R_L_row  F1 A1 (1 : Int32) (1 : Int32) v3 v4 (-1 : Int32) (0 : Int32)) = 0 → (R_L_row  F1 A1 (2 : Int32) (2 : Int32) v3 v4 v3 (1 : Int32)) = 0 → Q (some (.int (0 : Int32))) (sl, sv, [(10, F1, G1, A1, B1)])) (h48 : (f_rowCount F1) = v7 → (f_status F1) = (1 : Int32) → ¬ (R_L_row  F1 A1 (0 : Int32) (0 : Int32) v3 (-1 : Int32) (-1 : Int32) (0 : Int32)) = 0 → v4 = v5 → (R_L_row  F1 A1 (1 : Int32) (1 : Int32) v3 v4 (-1 : Int32) (0 : Int32)) = 0 → Q (some (.int (0 : Int32))) (sl, sv, [(10, F1, G1, A1, B1)])) (h49 : (f_rowCount F1) = v7 → (f_status F1) = (1 : Int32) → (R_L_row  F1 A1 (0 : Int32) (0 : Int32) v3 (-1 : Int32) (-1 : Int32) (0 : Int32)) = 0 → Q (some (.int (0 : Int32))) (sl, sv, [(10, F1, G1, A1, B1)])) (h50 : (f_rowCount F1) = v7 → ¬ (f_status F1) = (1 : Int32) → Q (some (.int (0 : Int32))) (sl, sv, [(10, F1, G1, A1, B1)])) (h51 : ¬ (f_rowCount F1) = v7 → Q (some (.int (0 : Int32))) (sl, sv, [(10, F1, G1, A1, B1)])) :
    Wk l Z (MoL Z cdC "RecursiveCteL3" false) md_L_law 124 [.unset, .unset, .unset, .val (.int v3), .val (.int v4), .val (.int v5), .val (.ref 1), .val (.int v7)] [] (sl, sv, [(10, F1, G1, A1, B1)]) 11 1573 Q := by
  refine Wk.aload o_L_law_124 rfl ?_
  refine Wk.callLF (coC H) [] 0 [] (i' := 1) (H.w 100 rfl) (cv_rowCount H) o_L_law_126 (run_rowCount H F1 G1 A1 B1) (wt := 0) (cu' := 11) (su' := 1573) (by decide) trivial rfl rfl rfl rfl rfl rfl rfl rfl rfl rfl (ws' := [(10, F1, G1, A1, B1)]) rfl ?_
  refine Wk.iload o_L_law_129 rfl ?_
  refine Wk.icmp_eq o_L_law_131 (fun q1 => ?_) (fun q1 => ?_)
  · refine Wk.aload o_L_law_136 rfl ?_
    refine Wk.callLF (coC H) [] 0 [] (i' := 1) (H.w 105 rfl) (cv_status H) o_L_law_138 (run_status H F1 G1 A1 B1) (wt := 0) (cu' := 11) (su' := 1573) (by decide) trivial rfl rfl rfl rfl rfl rfl rfl rfl rfl rfl (ws' := [(10, F1, G1, A1, B1)]) rfl ?_
    refine Wk.iconst o_L_law_141 (z := (1 : Int32)) (by decide) ?_
    refine Wk.icmp_eq o_L_law_142 (fun q2 => ?_) (fun q2 => ?_)
    · refine Wk.aload o_L_law_147 rfl ?_
      refine Wk.iconst o_L_law_149 (z := (0 : Int32)) (by decide) ?_
      refine Wk.iconst o_L_law_150 (z := (0 : Int32)) (by decide) ?_
      refine Wk.iloadN o_L_law_151 rfl ?_
      refine Wk.iconst o_L_law_152 (z := (-1 : Int32)) (by decide) ?_
      refine Wk.iconst o_L_law_153 (z := (-1 : Int32)) (by decide) ?_
      refine Wk.iconst o_L_law_154 (z := (0 : Int32)) (by decide) ?_
      refine Wk.callSF mtL [.ref 1, .int (0 : Int32), .int (0 : Int32), .int v3, .int (-1 : Int32), .int (-1 : Int32), .int (0 : Int32)] [] (H.w 110 rfl) (cv_L_row H) o_L_law_155 (run_L_row H sl sv F1 G1 A1 B1 (0 : Int32) (0 : Int32) v3 (-1 : Int32) (-1 : Int32) (0 : Int32) (s3 q1 q2)) (wt := 0) (cu' := 11) (su' := 1573) (by decide) rfl rfl (al_L_row _ _ _ _ _ _ _) rfl rfl rfl ?_
      refine Wk.if_ne o_L_law_158 (fun q4 => ?_) (fun q4 => ?_)
      · refine Wk.iload o_L_law_163 rfl ?_
        refine Wk.iload o_L_law_165 rfl ?_
        refine Wk.icmp_ne o_L_law_167 (fun q5 => ?_) (fun q5 => ?_)
        · refine Wk.iload o_L_law_204 rfl ?_
          refine Wk.iload o_L_law_206 rfl ?_
          refine Wk.icmp_ge o_L_law_208 (fun q6 => ?_) (fun q6 => ?_)
          · refine Wk.aload o_L_law_262 rfl ?_
            refine Wk.iconst o_L_law_264 (z := (1 : Int32)) (by decide) ?_
            refine Wk.iconst o_L_law_265 (z := (1 : Int32)) (by decide) ?_
            refine Wk.iloadN o_L_law_266 rfl ?_
            refine Wk.iload o_L_law_267 rfl ?_
            refine Wk.iconst o_L_law_269 (z := (-1 : Int32)) (by decide) ?_
            refine Wk.iconst o_L_law_270 (z := (0 : Int32)) (by decide) ?_
            refine Wk.callSF mtL [.ref 1, .int (1 : Int32), .int (1 : Int32), .int v3, .int v5, .int (-1 : Int32), .int (0 : Int32)] [] (H.w 110 rfl) (cv_L_row H) o_L_law_271 (run_L_row H sl sv F1 G1 A1 B1 (1 : Int32) (1 : Int32) v3 v5 (-1 : Int32) (0 : Int32) (s7 q1 q2 q4 q5 q6)) (wt := 0) (cu' := 11) (su' := 1573) (by decide) rfl rfl (al_L_row _ _ _ _ _ _ _) rfl rfl rfl ?_
            refine Wk.if_ne o_L_law_274 (fun q8 => ?_) (fun q8 => ?_)
            · refine Wk.aload o_L_law_279 rfl ?_
              refine Wk.iconst o_L_law_281 (z := (2 : Int32)) (by decide) ?_
              refine Wk.iconst o_L_law_282 (z := (1 : Int32)) (by decide) ?_
              refine Wk.iloadN o_L_law_283 rfl ?_
              refine Wk.iload o_L_law_284 rfl ?_
              refine Wk.iconst o_L_law_286 (z := (-1 : Int32)) (by decide) ?_
              refine Wk.iconst o_L_law_287 (z := (0 : Int32)) (by decide) ?_
              refine Wk.callSF mtL [.ref 1, .int (2 : Int32), .int (1 : Int32), .int v3, .int v4, .int (-1 : Int32), .int (0 : Int32)] [] (H.w 110 rfl) (cv_L_row H) o_L_law_288 (run_L_row H sl sv F1 G1 A1 B1 (2 : Int32) (1 : Int32) v3 v4 (-1 : Int32) (0 : Int32) (s9 q1 q2 q4 q5 q6 q8)) (wt := 0) (cu' := 11) (su' := 1573) (by decide) rfl rfl (al_L_row _ _ _ _ _ _ _) rfl rfl rfl ?_
              refine Wk.if_ne o_L_law_291 (fun q10 => ?_) (fun q10 => ?_)
              · refine Wk.aload o_L_law_296 rfl ?_
                refine Wk.iconst o_L_law_298 (z := (3 : Int32)) (by decide) ?_
                refine Wk.iconst o_L_law_299 (z := (2 : Int32)) (by decide) ?_
                refine Wk.iloadN o_L_law_300 rfl ?_
                refine Wk.iload o_L_law_301 rfl ?_
                refine Wk.iloadN o_L_law_303 rfl ?_
                refine Wk.iconst o_L_law_304 (z := (1 : Int32)) (by decide) ?_
                refine Wk.callSF mtL [.ref 1, .int (3 : Int32), .int (2 : Int32), .int v3, .int v4, .int v3, .int (1 : Int32)] [] (H.w 110 rfl) (cv_L_row H) o_L_law_305 (run_L_row H sl sv F1 G1 A1 B1 (3 : Int32) (2 : Int32) v3 v4 v3 (1 : Int32) (s11 q1 q2 q4 q5 q6 q8 q10)) (wt := 0) (cu' := 11) (su' := 1573) (by decide) rfl rfl (al_L_row _ _ _ _ _ _ _) rfl rfl rfl ?_
                refine Wk.if_ne o_L_law_308 (fun q12 => ?_) (fun q12 => ?_)
                · refine Wk.aload o_L_law_313 rfl ?_
                  refine Wk.iloadN o_L_law_315 rfl ?_
                  refine Wk.callLF (coC H) [.int v3] 0 [] (i' := 1) (H.w 138 rfl) (cv_countNode H) o_L_law_316 (run_countNode H F1 G1 A1 B1 v3) (wt := 0) (cu' := 11) (su' := 1573) (by decide) trivial rfl rfl rfl rfl rfl rfl rfl rfl rfl rfl (ws' := [(10, F1, G1, A1, B1)]) rfl ?_
                  refine Wk.iconst o_L_law_319 (z := (2 : Int32)) (by decide) ?_
                  refine Wk.icmp_eq o_L_law_320 (fun q13 => ?_) (fun q13 => ?_)
                  · refine Wk.aload o_L_law_325 rfl ?_
                    refine Wk.iload o_L_law_327 rfl ?_
                    refine Wk.callLF (coC H) [.int v7] 0 [] (i' := 1) (H.w 123 rfl) (cv_rowNode H) o_L_law_329 (run_rowNode H F1 G1 A1 B1 v7 (s14 q1 q2 q4 q5 q6 q8 q10 q12 q13)) (wt := 0) (cu' := 11) (su' := 1573) (by decide) trivial rfl rfl rfl rfl rfl rfl rfl rfl rfl rfl (ws' := [(10, F1, G1, A1, B1)]) rfl ?_
                    refine Wk.iconst o_L_law_332 (z := (-1 : Int32)) (by decide) ?_
                    have J16 : Wk l Z (MoL Z cdC "RecursiveCteL3" false) md_L_law 341 [.unset, .unset, .unset, .val (.int v3), .val (.int v4), .val (.int v5), .val (.ref 1), .val (.int v7)] [.int (if (R_rowNode F1 A1 v7) = (-1 : Int32) then (1 : Int32) else (0 : Int32))] (sl, sv, [(10, F1, G1, A1, B1)]) 11 1573 Q := by
                      exact Wk.zreturn mrL rfl o_L_law_341 rfl (by decide) (by decide) (y := (nar .boolean (if (R_rowNode F1 A1 v7) = (-1 : Int32) then (1 : Int32) else (0 : Int32)))) rfl (h17 q1 q2 q4 q5 q6 q8 q10 q12 q13)
                    refine Wk.icmp_ne o_L_law_333 (fun q15 => ?_) (fun q15 => ?_)
                    · refine Wk.iconst o_L_law_340 (z := (0 : Int32)) (by decide) ?_
                      first | (rw [show ((if (R_rowNode F1 A1 v7) = (-1 : Int32) then (1 : Int32) else (0 : Int32)) : Int32) = (0 : Int32) from if_neg q15] at J16; exact J16) | exact J16 | (simp only [if_neg q15] at J16 ⊢; exact J16)
                    · refine Wk.iconst o_L_law_336 (z := (1 : Int32)) (by decide) ?_
                      refine Wk.goto o_L_law_337 ?_
                      first | (rw [show ((if (R_rowNode F1 A1 v7) = (-1 : Int32) then (1 : Int32) else (0 : Int32)) : Int32) = (1 : Int32) from if_pos q15] at J16; exact J16) | exact J16 | (simp only [if_pos q15] at J16 ⊢; exact J16)
                  · refine Wk.iconst o_L_law_323 (z := (0 : Int32)) (by decide) ?_
                    exact Wk.zreturn mrL rfl o_L_law_324 rfl (by decide) (by decide) (y := (0 : Int32)) (by decide) (h18 q1 q2 q4 q5 q6 q8 q10 q12 q13)
                · refine Wk.iconst o_L_law_311 (z := (0 : Int32)) (by decide) ?_
                  exact Wk.zreturn mrL rfl o_L_law_312 rfl (by decide) (by decide) (y := (0 : Int32)) (by decide) (h19 q1 q2 q4 q5 q6 q8 q10 q12)
              · refine Wk.iconst o_L_law_294 (z := (0 : Int32)) (by decide) ?_
                exact Wk.zreturn mrL rfl o_L_law_295 rfl (by decide) (by decide) (y := (0 : Int32)) (by decide) (h20 q1 q2 q4 q5 q6 q8 q10)
            · refine Wk.iconst o_L_law_277 (z := (0 : Int32)) (by decide) ?_
              exact Wk.zreturn mrL rfl o_L_law_278 rfl (by decide) (by decide) (y := (0 : Int32)) (by decide) (h21 q1 q2 q4 q5 q6 q8)
          · refine Wk.aload o_L_law_211 rfl ?_
            refine Wk.iconst o_L_law_213 (z := (1 : Int32)) (by decide) ?_
            refine Wk.iconst o_L_law_214 (z := (1 : Int32)) (by decide) ?_
            refine Wk.iloadN o_L_law_215 rfl ?_
            refine Wk.iload o_L_law_216 rfl ?_
            refine Wk.iconst o_L_law_218 (z := (-1 : Int32)) (by decide) ?_
            refine Wk.iconst o_L_law_219 (z := (0 : Int32)) (by decide) ?_
            refine Wk.callSF mtL [.ref 1, .int (1 : Int32), .int (1 : Int32), .int v3, .int v4, .int (-1 : Int32), .int (0 : Int32)] [] (H.w 110 rfl) (cv_L_row H) o_L_law_220 (run_L_row H sl sv F1 G1 A1 B1 (1 : Int32) (1 : Int32) v3 v4 (-1 : Int32) (0 : Int32) (s22 q1 q2 q4 q5 q6)) (wt := 0) (cu' := 11) (su' := 1573) (by decide) rfl rfl (al_L_row _ _ _ _ _ _ _) rfl rfl rfl ?_
            refine Wk.if_ne o_L_law_223 (fun q23 => ?_) (fun q23 => ?_)
            · refine Wk.aload o_L_law_228 rfl ?_
              refine Wk.iconst o_L_law_230 (z := (2 : Int32)) (by decide) ?_
              refine Wk.iconst o_L_law_231 (z := (2 : Int32)) (by decide) ?_
              refine Wk.iloadN o_L_law_232 rfl ?_
              refine Wk.iload o_L_law_233 rfl ?_
              refine Wk.iloadN o_L_law_235 rfl ?_
              refine Wk.iconst o_L_law_236 (z := (1 : Int32)) (by decide) ?_
              refine Wk.callSF mtL [.ref 1, .int (2 : Int32), .int (2 : Int32), .int v3, .int v4, .int v3, .int (1 : Int32)] [] (H.w 110 rfl) (cv_L_row H) o_L_law_237 (run_L_row H sl sv F1 G1 A1 B1 (2 : Int32) (2 : Int32) v3 v4 v3 (1 : Int32) (s24 q1 q2 q4 q5 q6 q23)) (wt := 0) (cu' := 11) (su' := 1573) (by decide) rfl rfl (al_L_row _ _ _ _ _ _ _) rfl rfl rfl ?_
              refine Wk.if_ne o_L_law_240 (fun q25 => ?_) (fun q25 => ?_)
              · refine Wk.aload o_L_law_245 rfl ?_
                refine Wk.iconst o_L_law_247 (z := (3 : Int32)) (by decide) ?_
                refine Wk.iconst o_L_law_248 (z := (1 : Int32)) (by decide) ?_
                refine Wk.iloadN o_L_law_249 rfl ?_
                refine Wk.iload o_L_law_250 rfl ?_
                refine Wk.iconst o_L_law_252 (z := (-1 : Int32)) (by decide) ?_
                refine Wk.iconst o_L_law_253 (z := (0 : Int32)) (by decide) ?_
                refine Wk.callSF mtL [.ref 1, .int (3 : Int32), .int (1 : Int32), .int v3, .int v5, .int (-1 : Int32), .int (0 : Int32)] [] (H.w 110 rfl) (cv_L_row H) o_L_law_254 (run_L_row H sl sv F1 G1 A1 B1 (3 : Int32) (1 : Int32) v3 v5 (-1 : Int32) (0 : Int32) (s26 q1 q2 q4 q5 q6 q23 q25)) (wt := 0) (cu' := 11) (su' := 1573) (by decide) rfl rfl (al_L_row _ _ _ _ _ _ _) rfl rfl rfl ?_
                refine Wk.if_ne o_L_law_257 (fun q27 => ?_) (fun q27 => ?_)
                · refine Wk.aload o_L_law_313 rfl ?_
                  refine Wk.iloadN o_L_law_315 rfl ?_
                  refine Wk.callLF (coC H) [.int v3] 0 [] (i' := 1) (H.w 138 rfl) (cv_countNode H) o_L_law_316 (run_countNode H F1 G1 A1 B1 v3) (wt := 0) (cu' := 11) (su' := 1573) (by decide) trivial rfl rfl rfl rfl rfl rfl rfl rfl rfl rfl (ws' := [(10, F1, G1, A1, B1)]) rfl ?_
                  refine Wk.iconst o_L_law_319 (z := (2 : Int32)) (by decide) ?_
                  refine Wk.icmp_eq o_L_law_320 (fun q28 => ?_) (fun q28 => ?_)
                  · refine Wk.aload o_L_law_325 rfl ?_
                    refine Wk.iload o_L_law_327 rfl ?_
                    refine Wk.callLF (coC H) [.int v7] 0 [] (i' := 1) (H.w 123 rfl) (cv_rowNode H) o_L_law_329 (run_rowNode H F1 G1 A1 B1 v7 (s29 q1 q2 q4 q5 q6 q23 q25 q27 q28)) (wt := 0) (cu' := 11) (su' := 1573) (by decide) trivial rfl rfl rfl rfl rfl rfl rfl rfl rfl rfl (ws' := [(10, F1, G1, A1, B1)]) rfl ?_
                    refine Wk.iconst o_L_law_332 (z := (-1 : Int32)) (by decide) ?_
                    have J31 : Wk l Z (MoL Z cdC "RecursiveCteL3" false) md_L_law 341 [.unset, .unset, .unset, .val (.int v3), .val (.int v4), .val (.int v5), .val (.ref 1), .val (.int v7)] [.int (if (R_rowNode F1 A1 v7) = (-1 : Int32) then (1 : Int32) else (0 : Int32))] (sl, sv, [(10, F1, G1, A1, B1)]) 11 1573 Q := by
                      exact Wk.zreturn mrL rfl o_L_law_341 rfl (by decide) (by decide) (y := (nar .boolean (if (R_rowNode F1 A1 v7) = (-1 : Int32) then (1 : Int32) else (0 : Int32)))) rfl (h32 q1 q2 q4 q5 q6 q23 q25 q27 q28)
                    refine Wk.icmp_ne o_L_law_333 (fun q30 => ?_) (fun q30 => ?_)
                    · refine Wk.iconst o_L_law_340 (z := (0 : Int32)) (by decide) ?_
                      first | (rw [show ((if (R_rowNode F1 A1 v7) = (-1 : Int32) then (1 : Int32) else (0 : Int32)) : Int32) = (0 : Int32) from if_neg q30] at J31; exact J31) | exact J31 | (simp only [if_neg q30] at J31 ⊢; exact J31)
                    · refine Wk.iconst o_L_law_336 (z := (1 : Int32)) (by decide) ?_
                      refine Wk.goto o_L_law_337 ?_
                      first | (rw [show ((if (R_rowNode F1 A1 v7) = (-1 : Int32) then (1 : Int32) else (0 : Int32)) : Int32) = (1 : Int32) from if_pos q30] at J31; exact J31) | exact J31 | (simp only [if_pos q30] at J31 ⊢; exact J31)
                  · refine Wk.iconst o_L_law_323 (z := (0 : Int32)) (by decide) ?_
                    exact Wk.zreturn mrL rfl o_L_law_324 rfl (by decide) (by decide) (y := (0 : Int32)) (by decide) (h33 q1 q2 q4 q5 q6 q23 q25 q27 q28)
                · refine Wk.iconst o_L_law_260 (z := (0 : Int32)) (by decide) ?_
                  exact Wk.zreturn mrL rfl o_L_law_261 rfl (by decide) (by decide) (y := (0 : Int32)) (by decide) (h34 q1 q2 q4 q5 q6 q23 q25 q27)
              · refine Wk.iconst o_L_law_243 (z := (0 : Int32)) (by decide) ?_
                exact Wk.zreturn mrL rfl o_L_law_244 rfl (by decide) (by decide) (y := (0 : Int32)) (by decide) (h35 q1 q2 q4 q5 q6 q23 q25)
            · refine Wk.iconst o_L_law_226 (z := (0 : Int32)) (by decide) ?_
              exact Wk.zreturn mrL rfl o_L_law_227 rfl (by decide) (by decide) (y := (0 : Int32)) (by decide) (h36 q1 q2 q4 q5 q6 q23)
        · refine Wk.aload o_L_law_170 rfl ?_
          refine Wk.iconst o_L_law_172 (z := (1 : Int32)) (by decide) ?_
          refine Wk.iconst o_L_law_173 (z := (1 : Int32)) (by decide) ?_
          refine Wk.iloadN o_L_law_174 rfl ?_
          refine Wk.iload o_L_law_175 rfl ?_
          refine Wk.iconst o_L_law_177 (z := (-1 : Int32)) (by decide) ?_
          refine Wk.iconst o_L_law_178 (z := (0 : Int32)) (by decide) ?_
          refine Wk.callSF mtL [.ref 1, .int (1 : Int32), .int (1 : Int32), .int v3, .int v4, .int (-1 : Int32), .int (0 : Int32)] [] (H.w 110 rfl) (cv_L_row H) o_L_law_179 (run_L_row H sl sv F1 G1 A1 B1 (1 : Int32) (1 : Int32) v3 v4 (-1 : Int32) (0 : Int32) (s37 q1 q2 q4 q5)) (wt := 0) (cu' := 11) (su' := 1573) (by decide) rfl rfl (al_L_row _ _ _ _ _ _ _) rfl rfl rfl ?_
          refine Wk.if_ne o_L_law_182 (fun q38 => ?_) (fun q38 => ?_)
          · refine Wk.aload o_L_law_187 rfl ?_
            refine Wk.iconst o_L_law_189 (z := (2 : Int32)) (by decide) ?_
            refine Wk.iconst o_L_law_190 (z := (2 : Int32)) (by decide) ?_
            refine Wk.iloadN o_L_law_191 rfl ?_
            refine Wk.iload o_L_law_192 rfl ?_
            refine Wk.iloadN o_L_law_194 rfl ?_
            refine Wk.iconst o_L_law_195 (z := (1 : Int32)) (by decide) ?_
            refine Wk.callSF mtL [.ref 1, .int (2 : Int32), .int (2 : Int32), .int v3, .int v4, .int v3, .int (1 : Int32)] [] (H.w 110 rfl) (cv_L_row H) o_L_law_196 (run_L_row H sl sv F1 G1 A1 B1 (2 : Int32) (2 : Int32) v3 v4 v3 (1 : Int32) (s39 q1 q2 q4 q5 q38)) (wt := 0) (cu' := 11) (su' := 1573) (by decide) rfl rfl (al_L_row _ _ _ _ _ _ _) rfl rfl rfl ?_
            refine Wk.if_ne o_L_law_199 (fun q40 => ?_) (fun q40 => ?_)
            · refine Wk.aload o_L_law_313 rfl ?_
              refine Wk.iloadN o_L_law_315 rfl ?_
              refine Wk.callLF (coC H) [.int v3] 0 [] (i' := 1) (H.w 138 rfl) (cv_countNode H) o_L_law_316 (run_countNode H F1 G1 A1 B1 v3) (wt := 0) (cu' := 11) (su' := 1573) (by decide) trivial rfl rfl rfl rfl rfl rfl rfl rfl rfl rfl (ws' := [(10, F1, G1, A1, B1)]) rfl ?_
              refine Wk.iconst o_L_law_319 (z := (2 : Int32)) (by decide) ?_
              refine Wk.icmp_eq o_L_law_320 (fun q41 => ?_) (fun q41 => ?_)
              · refine Wk.aload o_L_law_325 rfl ?_
                refine Wk.iload o_L_law_327 rfl ?_
                refine Wk.callLF (coC H) [.int v7] 0 [] (i' := 1) (H.w 123 rfl) (cv_rowNode H) o_L_law_329 (run_rowNode H F1 G1 A1 B1 v7 (s42 q1 q2 q4 q5 q38 q40 q41)) (wt := 0) (cu' := 11) (su' := 1573) (by decide) trivial rfl rfl rfl rfl rfl rfl rfl rfl rfl rfl (ws' := [(10, F1, G1, A1, B1)]) rfl ?_
                refine Wk.iconst o_L_law_332 (z := (-1 : Int32)) (by decide) ?_
                have J44 : Wk l Z (MoL Z cdC "RecursiveCteL3" false) md_L_law 341 [.unset, .unset, .unset, .val (.int v3), .val (.int v4), .val (.int v5), .val (.ref 1), .val (.int v7)] [.int (if (R_rowNode F1 A1 v7) = (-1 : Int32) then (1 : Int32) else (0 : Int32))] (sl, sv, [(10, F1, G1, A1, B1)]) 11 1573 Q := by
                  exact Wk.zreturn mrL rfl o_L_law_341 rfl (by decide) (by decide) (y := (nar .boolean (if (R_rowNode F1 A1 v7) = (-1 : Int32) then (1 : Int32) else (0 : Int32)))) rfl (h45 q1 q2 q4 q5 q38 q40 q41)
                refine Wk.icmp_ne o_L_law_333 (fun q43 => ?_) (fun q43 => ?_)
                · refine Wk.iconst o_L_law_340 (z := (0 : Int32)) (by decide) ?_
                  first | (rw [show ((if (R_rowNode F1 A1 v7) = (-1 : Int32) then (1 : Int32) else (0 : Int32)) : Int32) = (0 : Int32) from if_neg q43] at J44; exact J44) | exact J44 | (simp only [if_neg q43] at J44 ⊢; exact J44)
                · refine Wk.iconst o_L_law_336 (z := (1 : Int32)) (by decide) ?_
                  refine Wk.goto o_L_law_337 ?_
                  first | (rw [show ((if (R_rowNode F1 A1 v7) = (-1 : Int32) then (1 : Int32) else (0 : Int32)) : Int32) = (1 : Int32) from if_pos q43] at J44; exact J44) | exact J44 | (simp only [if_pos q43] at J44 ⊢; exact J44)
              · refine Wk.iconst o_L_law_323 (z := (0 : Int32)) (by decide) ?_
                exact Wk.zreturn mrL rfl o_L_law_324 rfl (by decide) (by decide) (y := (0 : Int32)) (by decide) (h46 q1 q2 q4 q5 q38 q40 q41)
            · refine Wk.iconst o_L_law_202 (z := (0 : Int32)) (by decide) ?_
              exact Wk.zreturn mrL rfl o_L_law_203 rfl (by decide) (by decide) (y := (0 : Int32)) (by decide) (h47 q1 q2 q4 q5 q38 q40)
          · refine Wk.iconst o_L_law_185 (z := (0 : Int32)) (by decide) ?_
            exact Wk.zreturn mrL rfl o_L_law_186 rfl (by decide) (by decide) (y := (0 : Int32)) (by decide) (h48 q1 q2 q4 q5 q38)
      · refine Wk.iconst o_L_law_161 (z := (0 : Int32)) (by decide) ?_
        exact Wk.zreturn mrL rfl o_L_law_162 rfl (by decide) (by decide) (y := (0 : Int32)) (by decide) (h49 q1 q2 q4)
    · refine Wk.iconst o_L_law_145 (z := (0 : Int32)) (by decide) ?_
      exact Wk.zreturn mrL rfl o_L_law_146 rfl (by decide) (by decide) (y := (0 : Int32)) (by decide) (h50 q1 q2)
  · refine Wk.iconst o_L_law_134 (z := (0 : Int32)) (by decide) ?_
    exact Wk.zreturn mrL rfl o_L_law_135 rfl (by decide) (by decide) (y := (0 : Int32)) (by decide) (h51 q1)

def lp_L_law : Nat → Nat → Int32 → Int32 → Int32 → Int32 → (Nat → Int32) → (Nat → Int32 → Int32) → Option (Int32)
  | 0, _, _, _, _, _, _, _ => none
  | n + 1, tag, v3, v4, v5, v7, F1, A1 => if tag = 35 then (if ((en_addEdge F1 A1 v3 v4).isSome = true) then (if (R_addEdge F1 A1 v3 v4).1 = 0 then lp_L_law n 48 v3 v4 v5 0 (R_addEdge F1 A1 v3 v4).2.1 (R_addEdge F1 A1 v3 v4).2.2 else some ((0 : Int32))) else none) else if tag = 48 then (if ((en_addEdge F1 A1 v3 v5).isSome = true) then (if (R_addEdge F1 A1 v3 v5).1 = (if v4 = v5 then (-2 : Int32) else (0 : Int32)) then lp_L_law n 74 v3 v4 v5 0 (R_addEdge F1 A1 v3 v5).2.1 (R_addEdge F1 A1 v3 v5).2.2 else some ((0 : Int32))) else none) else if tag = 74 then (if ((en_addEdge F1 A1 v4 v3).isSome = true) then (if (R_addEdge F1 A1 v4 v3).1 = 0 then lp_L_law n 87 v3 v4 v5 0 (R_addEdge F1 A1 v4 v3).2.1 (R_addEdge F1 A1 v4 v3).2.2 else some ((0 : Int32))) else none) else if tag = 87 then (if ((en_addSeed F1 A1 v3).isSome = true) then (if (R_addSeed F1 A1 v3).1 = 0 then lp_L_law n 98 v3 v4 v5 0 (R_addSeed F1 A1 v3).2.1 (R_addSeed F1 A1 v3).2.2 else some ((0 : Int32))) else none) else if tag = 98 then (if ((en_run F1 A1 ).isSome = true) then (if (R_run F1 A1 ).1 = (if v4 = v5 then (3 : Int32) else (4 : Int32)) then lp_L_law n 124 v3 v4 v5 (if v4 = v5 then (3 : Int32) else (4 : Int32)) (R_run F1 A1 ).2.1 (R_run F1 A1 ).2.2 else some ((0 : Int32))) else none) else if tag = 124 then (if (f_rowCount F1) = v7 then (if (f_status F1) = (1 : Int32) then (if ((en_L_row  F1 A1 (0 : Int32) (0 : Int32) v3 (-1 : Int32) (-1 : Int32) (0 : Int32)).isSome = true) then (if (R_L_row  F1 A1 (0 : Int32) (0 : Int32) v3 (-1 : Int32) (-1 : Int32) (0 : Int32)) = 0 then some ((0 : Int32)) else (if v4 = v5 then (if ((en_L_row  F1 A1 (1 : Int32) (1 : Int32) v3 v4 (-1 : Int32) (0 : Int32)).isSome = true) then (if (R_L_row  F1 A1 (1 : Int32) (1 : Int32) v3 v4 (-1 : Int32) (0 : Int32)) = 0 then some ((0 : Int32)) else (if ((en_L_row  F1 A1 (2 : Int32) (2 : Int32) v3 v4 v3 (1 : Int32)).isSome = true) then (if (R_L_row  F1 A1 (2 : Int32) (2 : Int32) v3 v4 v3 (1 : Int32)) = 0 then some ((0 : Int32)) else (if (f_countNode F1 A1 v3) = (2 : Int32) then (if ((en_rowNode F1 A1 v7).isSome = true) then some ((nar .boolean (if (R_rowNode F1 A1 v7) = (-1 : Int32) then (1 : Int32) else (0 : Int32)))) else none) else some ((0 : Int32)))) else none)) else none) else (if v4 < v5 then (if ((en_L_row  F1 A1 (1 : Int32) (1 : Int32) v3 v4 (-1 : Int32) (0 : Int32)).isSome = true) then (if (R_L_row  F1 A1 (1 : Int32) (1 : Int32) v3 v4 (-1 : Int32) (0 : Int32)) = 0 then some ((0 : Int32)) else (if ((en_L_row  F1 A1 (2 : Int32) (2 : Int32) v3 v4 v3 (1 : Int32)).isSome = true) then (if (R_L_row  F1 A1 (2 : Int32) (2 : Int32) v3 v4 v3 (1 : Int32)) = 0 then some ((0 : Int32)) else (if ((en_L_row  F1 A1 (3 : Int32) (1 : Int32) v3 v5 (-1 : Int32) (0 : Int32)).isSome = true) then (if (R_L_row  F1 A1 (3 : Int32) (1 : Int32) v3 v5 (-1 : Int32) (0 : Int32)) = 0 then some ((0 : Int32)) else (if (f_countNode F1 A1 v3) = (2 : Int32) then (if ((en_rowNode F1 A1 v7).isSome = true) then some ((nar .boolean (if (R_rowNode F1 A1 v7) = (-1 : Int32) then (1 : Int32) else (0 : Int32)))) else none) else some ((0 : Int32)))) else none)) else none)) else none) else (if ((en_L_row  F1 A1 (1 : Int32) (1 : Int32) v3 v5 (-1 : Int32) (0 : Int32)).isSome = true) then (if (R_L_row  F1 A1 (1 : Int32) (1 : Int32) v3 v5 (-1 : Int32) (0 : Int32)) = 0 then some ((0 : Int32)) else (if ((en_L_row  F1 A1 (2 : Int32) (1 : Int32) v3 v4 (-1 : Int32) (0 : Int32)).isSome = true) then (if (R_L_row  F1 A1 (2 : Int32) (1 : Int32) v3 v4 (-1 : Int32) (0 : Int32)) = 0 then some ((0 : Int32)) else (if ((en_L_row  F1 A1 (3 : Int32) (2 : Int32) v3 v4 v3 (1 : Int32)).isSome = true) then (if (R_L_row  F1 A1 (3 : Int32) (2 : Int32) v3 v4 v3 (1 : Int32)) = 0 then some ((0 : Int32)) else (if (f_countNode F1 A1 v3) = (2 : Int32) then (if ((en_rowNode F1 A1 v7).isSome = true) then some ((nar .boolean (if (R_rowNode F1 A1 v7) = (-1 : Int32) then (1 : Int32) else (0 : Int32)))) else none) else some ((0 : Int32)))) else none)) else none)) else none)))) else none) else some ((0 : Int32))) else some ((0 : Int32))) else none
theorem lp_L_law_z (tag : Nat) (v3 : Int32) (v4 : Int32) (v5 : Int32) (v7 : Int32) (F1 : Nat → Int32) (A1 : Nat → Int32 → Int32) : lp_L_law 0 tag  v3 v4 v5 v7 F1 A1 = none := Eq.trans rfl rfl
theorem lp_L_law_35 (n : Nat) (v3 : Int32) (v4 : Int32) (v5 : Int32) (v7 : Int32) (F1 : Nat → Int32) (A1 : Nat → Int32 → Int32) : lp_L_law (n + 1) 35  v3 v4 v5 v7 F1 A1 = (if ((en_addEdge F1 A1 v3 v4).isSome = true) then (if (R_addEdge F1 A1 v3 v4).1 = 0 then lp_L_law n 48 v3 v4 v5 0 (R_addEdge F1 A1 v3 v4).2.1 (R_addEdge F1 A1 v3 v4).2.2 else some ((0 : Int32))) else none) := by
  rw [lp_L_law, if_pos rfl]
theorem lp_L_law_48 (n : Nat) (v3 : Int32) (v4 : Int32) (v5 : Int32) (v7 : Int32) (F1 : Nat → Int32) (A1 : Nat → Int32 → Int32) : lp_L_law (n + 1) 48  v3 v4 v5 v7 F1 A1 = (if ((en_addEdge F1 A1 v3 v5).isSome = true) then (if (R_addEdge F1 A1 v3 v5).1 = (if v4 = v5 then (-2 : Int32) else (0 : Int32)) then lp_L_law n 74 v3 v4 v5 0 (R_addEdge F1 A1 v3 v5).2.1 (R_addEdge F1 A1 v3 v5).2.2 else some ((0 : Int32))) else none) := by
  rw [lp_L_law, if_neg (by decide), if_pos rfl]
theorem lp_L_law_74 (n : Nat) (v3 : Int32) (v4 : Int32) (v5 : Int32) (v7 : Int32) (F1 : Nat → Int32) (A1 : Nat → Int32 → Int32) : lp_L_law (n + 1) 74  v3 v4 v5 v7 F1 A1 = (if ((en_addEdge F1 A1 v4 v3).isSome = true) then (if (R_addEdge F1 A1 v4 v3).1 = 0 then lp_L_law n 87 v3 v4 v5 0 (R_addEdge F1 A1 v4 v3).2.1 (R_addEdge F1 A1 v4 v3).2.2 else some ((0 : Int32))) else none) := by
  rw [lp_L_law, if_neg (by decide), if_neg (by decide), if_pos rfl]
theorem lp_L_law_87 (n : Nat) (v3 : Int32) (v4 : Int32) (v5 : Int32) (v7 : Int32) (F1 : Nat → Int32) (A1 : Nat → Int32 → Int32) : lp_L_law (n + 1) 87  v3 v4 v5 v7 F1 A1 = (if ((en_addSeed F1 A1 v3).isSome = true) then (if (R_addSeed F1 A1 v3).1 = 0 then lp_L_law n 98 v3 v4 v5 0 (R_addSeed F1 A1 v3).2.1 (R_addSeed F1 A1 v3).2.2 else some ((0 : Int32))) else none) := by
  rw [lp_L_law, if_neg (by decide), if_neg (by decide), if_neg (by decide), if_pos rfl]
theorem lp_L_law_98 (n : Nat) (v3 : Int32) (v4 : Int32) (v5 : Int32) (v7 : Int32) (F1 : Nat → Int32) (A1 : Nat → Int32 → Int32) : lp_L_law (n + 1) 98  v3 v4 v5 v7 F1 A1 = (if ((en_run F1 A1 ).isSome = true) then (if (R_run F1 A1 ).1 = (if v4 = v5 then (3 : Int32) else (4 : Int32)) then lp_L_law n 124 v3 v4 v5 (if v4 = v5 then (3 : Int32) else (4 : Int32)) (R_run F1 A1 ).2.1 (R_run F1 A1 ).2.2 else some ((0 : Int32))) else none) := by
  rw [lp_L_law, if_neg (by decide), if_neg (by decide), if_neg (by decide), if_neg (by decide), if_pos rfl]
theorem lp_L_law_124 (n : Nat) (v3 : Int32) (v4 : Int32) (v5 : Int32) (v7 : Int32) (F1 : Nat → Int32) (A1 : Nat → Int32 → Int32) : lp_L_law (n + 1) 124  v3 v4 v5 v7 F1 A1 = (if (f_rowCount F1) = v7 then (if (f_status F1) = (1 : Int32) then (if ((en_L_row  F1 A1 (0 : Int32) (0 : Int32) v3 (-1 : Int32) (-1 : Int32) (0 : Int32)).isSome = true) then (if (R_L_row  F1 A1 (0 : Int32) (0 : Int32) v3 (-1 : Int32) (-1 : Int32) (0 : Int32)) = 0 then some ((0 : Int32)) else (if v4 = v5 then (if ((en_L_row  F1 A1 (1 : Int32) (1 : Int32) v3 v4 (-1 : Int32) (0 : Int32)).isSome = true) then (if (R_L_row  F1 A1 (1 : Int32) (1 : Int32) v3 v4 (-1 : Int32) (0 : Int32)) = 0 then some ((0 : Int32)) else (if ((en_L_row  F1 A1 (2 : Int32) (2 : Int32) v3 v4 v3 (1 : Int32)).isSome = true) then (if (R_L_row  F1 A1 (2 : Int32) (2 : Int32) v3 v4 v3 (1 : Int32)) = 0 then some ((0 : Int32)) else (if (f_countNode F1 A1 v3) = (2 : Int32) then (if ((en_rowNode F1 A1 v7).isSome = true) then some ((nar .boolean (if (R_rowNode F1 A1 v7) = (-1 : Int32) then (1 : Int32) else (0 : Int32)))) else none) else some ((0 : Int32)))) else none)) else none) else (if v4 < v5 then (if ((en_L_row  F1 A1 (1 : Int32) (1 : Int32) v3 v4 (-1 : Int32) (0 : Int32)).isSome = true) then (if (R_L_row  F1 A1 (1 : Int32) (1 : Int32) v3 v4 (-1 : Int32) (0 : Int32)) = 0 then some ((0 : Int32)) else (if ((en_L_row  F1 A1 (2 : Int32) (2 : Int32) v3 v4 v3 (1 : Int32)).isSome = true) then (if (R_L_row  F1 A1 (2 : Int32) (2 : Int32) v3 v4 v3 (1 : Int32)) = 0 then some ((0 : Int32)) else (if ((en_L_row  F1 A1 (3 : Int32) (1 : Int32) v3 v5 (-1 : Int32) (0 : Int32)).isSome = true) then (if (R_L_row  F1 A1 (3 : Int32) (1 : Int32) v3 v5 (-1 : Int32) (0 : Int32)) = 0 then some ((0 : Int32)) else (if (f_countNode F1 A1 v3) = (2 : Int32) then (if ((en_rowNode F1 A1 v7).isSome = true) then some ((nar .boolean (if (R_rowNode F1 A1 v7) = (-1 : Int32) then (1 : Int32) else (0 : Int32)))) else none) else some ((0 : Int32)))) else none)) else none)) else none) else (if ((en_L_row  F1 A1 (1 : Int32) (1 : Int32) v3 v5 (-1 : Int32) (0 : Int32)).isSome = true) then (if (R_L_row  F1 A1 (1 : Int32) (1 : Int32) v3 v5 (-1 : Int32) (0 : Int32)) = 0 then some ((0 : Int32)) else (if ((en_L_row  F1 A1 (2 : Int32) (1 : Int32) v3 v4 (-1 : Int32) (0 : Int32)).isSome = true) then (if (R_L_row  F1 A1 (2 : Int32) (1 : Int32) v3 v4 (-1 : Int32) (0 : Int32)) = 0 then some ((0 : Int32)) else (if ((en_L_row  F1 A1 (3 : Int32) (2 : Int32) v3 v4 v3 (1 : Int32)).isSome = true) then (if (R_L_row  F1 A1 (3 : Int32) (2 : Int32) v3 v4 v3 (1 : Int32)) = 0 then some ((0 : Int32)) else (if (f_countNode F1 A1 v3) = (2 : Int32) then (if ((en_rowNode F1 A1 v7).isSome = true) then some ((nar .boolean (if (R_rowNode F1 A1 v7) = (-1 : Int32) then (1 : Int32) else (0 : Int32)))) else none) else some ((0 : Int32)))) else none)) else none)) else none)))) else none) else some ((0 : Int32))) else some ((0 : Int32))) := by
  rw [lp_L_law, if_neg (by decide), if_neg (by decide), if_neg (by decide), if_neg (by decide), if_neg (by decide), if_pos rfl]
set_option maxRecDepth 65536 in
set_option maxHeartbeats 4000000 in
theorem lpw_L_law {l : Launch} {Z : State} {a0 : Array Value} (H : OK Z a0) (sl : Int32) (sv : Int32 → Int32) (G1 : Nat → Int64) (B1 : Nat → Int32 → Int64) : ∀ (n : Nat) (v3 : Int32) (v4 : Int32) (v5 : Int32) (v7 : Int32) (F1 : Nat → Int32) (A1 : Nat → Int32 → Int32) (r : Int32), (lp_L_law n 35  v3 v4 v5 v7 F1 A1 = some r → Wk l Z (MoL Z cdC "RecursiveCteL3" false) md_L_law 35 [.unset, .unset, .unset, .val (.int v3), .val (.int v4), .val (.int v5), .val (.ref 1), .unset] [] (sl, sv, [(10, F1, G1, A1, B1)]) 11 1573 (fun v _ => v = some (.int r))) ∧ (lp_L_law n 48  v3 v4 v5 v7 F1 A1 = some r → Wk l Z (MoL Z cdC "RecursiveCteL3" false) md_L_law 48 [.unset, .unset, .unset, .val (.int v3), .val (.int v4), .val (.int v5), .val (.ref 1), .unset] [] (sl, sv, [(10, F1, G1, A1, B1)]) 11 1573 (fun v _ => v = some (.int r))) ∧ (lp_L_law n 74  v3 v4 v5 v7 F1 A1 = some r → Wk l Z (MoL Z cdC "RecursiveCteL3" false) md_L_law 74 [.unset, .unset, .unset, .val (.int v3), .val (.int v4), .val (.int v5), .val (.ref 1), .unset] [] (sl, sv, [(10, F1, G1, A1, B1)]) 11 1573 (fun v _ => v = some (.int r))) ∧ (lp_L_law n 87  v3 v4 v5 v7 F1 A1 = some r → Wk l Z (MoL Z cdC "RecursiveCteL3" false) md_L_law 87 [.unset, .unset, .unset, .val (.int v3), .val (.int v4), .val (.int v5), .val (.ref 1), .unset] [] (sl, sv, [(10, F1, G1, A1, B1)]) 11 1573 (fun v _ => v = some (.int r))) ∧ (lp_L_law n 98  v3 v4 v5 v7 F1 A1 = some r → Wk l Z (MoL Z cdC "RecursiveCteL3" false) md_L_law 98 [.unset, .unset, .unset, .val (.int v3), .val (.int v4), .val (.int v5), .val (.ref 1), .unset] [] (sl, sv, [(10, F1, G1, A1, B1)]) 11 1573 (fun v _ => v = some (.int r))) ∧ (lp_L_law n 124  v3 v4 v5 v7 F1 A1 = some r → Wk l Z (MoL Z cdC "RecursiveCteL3" false) md_L_law 124 [.unset, .unset, .unset, .val (.int v3), .val (.int v4), .val (.int v5), .val (.ref 1), .val (.int v7)] [] (sl, sv, [(10, F1, G1, A1, B1)]) 11 1573 (fun v _ => v = some (.int r))) := by
  intro n
  induction n with
  | zero =>
    intro v3 v4 v5 v7 F1 A1 r
    exact ⟨(fun h => by rw [lp_L_law_z] at h; cases h), (fun h => by rw [lp_L_law_z] at h; cases h), (fun h => by rw [lp_L_law_z] at h; cases h), (fun h => by rw [lp_L_law_z] at h; cases h), (fun h => by rw [lp_L_law_z] at h; cases h), (fun h => by rw [lp_L_law_z] at h; cases h)⟩
  | succ n ih =>
    intro v3 v4 v5 v7 F1 A1 r
    refine ⟨fun h => ?_, fun h => ?_, fun h => ?_, fun h => ?_, fun h => ?_, fun h => ?_⟩
    · rw [lp_L_law_35] at h
      exact wp_L_law_35 H sl sv F1 G1 A1 B1 v3 v4 v5 ((gd h).1) (fun q2 => (ih _ _ _ _ _ _ _).2.1 (ifp q2 (gd h).2)) (fun q2 => (by have e := Option.some.inj (ifn q2 (gd h).2); subst e; exact rfl))
    · rw [lp_L_law_48] at h
      exact wp_L_law_48 H sl sv F1 G1 A1 B1 v3 v4 v5 ((gd h).1) (fun q4 => (ih _ _ _ _ _ _ _).2.2.1 (ifp q4 (gd h).2)) (fun q4 => (by have e := Option.some.inj (ifn q4 (gd h).2); subst e; exact rfl))
    · rw [lp_L_law_74] at h
      exact wp_L_law_74 H sl sv F1 G1 A1 B1 v3 v4 v5 ((gd h).1) (fun q2 => (ih _ _ _ _ _ _ _).2.2.2.1 (ifp q2 (gd h).2)) (fun q2 => (by have e := Option.some.inj (ifn q2 (gd h).2); subst e; exact rfl))
    · rw [lp_L_law_87] at h
      exact wp_L_law_87 H sl sv F1 G1 A1 B1 v3 v4 v5 ((gd h).1) (fun q2 => (ih _ _ _ _ _ _ _).2.2.2.2.1 (ifp q2 (gd h).2)) (fun q2 => (by have e := Option.some.inj (ifn q2 (gd h).2); subst e; exact rfl))
    · rw [lp_L_law_98] at h
      exact wp_L_law_98 H sl sv F1 G1 A1 B1 v3 v4 v5 ((gd h).1) (fun q4 => (ih _ _ _ _ _ _ _).2.2.2.2.2 (ifp q4 (gd h).2)) (fun q4 => (by have e := Option.some.inj (ifn q4 (gd h).2); subst e; exact rfl))
    · rw [lp_L_law_124] at h
      exact wp_L_law_124 H sl sv F1 G1 A1 B1 v3 v4 v5 v7 (fun q1 q2 => (gd (ifp q2 (ifp q1 h))).1) (fun q1 q2 q4 q5 q6 => (gd (ifn q6 (ifn q5 (ifn q4 (gd (ifp q2 (ifp q1 h))).2)))).1) (fun q1 q2 q4 q5 q6 q8 => (gd (ifn q8 (gd (ifn q6 (ifn q5 (ifn q4 (gd (ifp q2 (ifp q1 h))).2)))).2)).1) (fun q1 q2 q4 q5 q6 q8 q10 => (gd (ifn q10 (gd (ifn q8 (gd (ifn q6 (ifn q5 (ifn q4 (gd (ifp q2 (ifp q1 h))).2)))).2)).2)).1) (fun q1 q2 q4 q5 q6 q8 q10 q12 q13 => (gd (ifp q13 (ifn q12 (gd (ifn q10 (gd (ifn q8 (gd (ifn q6 (ifn q5 (ifn q4 (gd (ifp q2 (ifp q1 h))).2)))).2)).2)).2))).1) (fun q1 q2 q4 q5 q6 q8 q10 q12 q13 => (by have e := Option.some.inj (gd (ifp q13 (ifn q12 (gd (ifn q10 (gd (ifn q8 (gd (ifn q6 (ifn q5 (ifn q4 (gd (ifp q2 (ifp q1 h))).2)))).2)).2)).2))).2; subst e; exact rfl)) (fun q1 q2 q4 q5 q6 q8 q10 q12 q13 => (by have e := Option.some.inj (ifn q13 (ifn q12 (gd (ifn q10 (gd (ifn q8 (gd (ifn q6 (ifn q5 (ifn q4 (gd (ifp q2 (ifp q1 h))).2)))).2)).2)).2)); subst e; exact rfl)) (fun q1 q2 q4 q5 q6 q8 q10 q12 => (by have e := Option.some.inj (ifp q12 (gd (ifn q10 (gd (ifn q8 (gd (ifn q6 (ifn q5 (ifn q4 (gd (ifp q2 (ifp q1 h))).2)))).2)).2)).2); subst e; exact rfl)) (fun q1 q2 q4 q5 q6 q8 q10 => (by have e := Option.some.inj (ifp q10 (gd (ifn q8 (gd (ifn q6 (ifn q5 (ifn q4 (gd (ifp q2 (ifp q1 h))).2)))).2)).2); subst e; exact rfl)) (fun q1 q2 q4 q5 q6 q8 => (by have e := Option.some.inj (ifp q8 (gd (ifn q6 (ifn q5 (ifn q4 (gd (ifp q2 (ifp q1 h))).2)))).2); subst e; exact rfl)) (fun q1 q2 q4 q5 q6 => (gd (ifp q6 (ifn q5 (ifn q4 (gd (ifp q2 (ifp q1 h))).2)))).1) (fun q1 q2 q4 q5 q6 q23 => (gd (ifn q23 (gd (ifp q6 (ifn q5 (ifn q4 (gd (ifp q2 (ifp q1 h))).2)))).2)).1) (fun q1 q2 q4 q5 q6 q23 q25 => (gd (ifn q25 (gd (ifn q23 (gd (ifp q6 (ifn q5 (ifn q4 (gd (ifp q2 (ifp q1 h))).2)))).2)).2)).1) (fun q1 q2 q4 q5 q6 q23 q25 q27 q28 => (gd (ifp q28 (ifn q27 (gd (ifn q25 (gd (ifn q23 (gd (ifp q6 (ifn q5 (ifn q4 (gd (ifp q2 (ifp q1 h))).2)))).2)).2)).2))).1) (fun q1 q2 q4 q5 q6 q23 q25 q27 q28 => (by have e := Option.some.inj (gd (ifp q28 (ifn q27 (gd (ifn q25 (gd (ifn q23 (gd (ifp q6 (ifn q5 (ifn q4 (gd (ifp q2 (ifp q1 h))).2)))).2)).2)).2))).2; subst e; exact rfl)) (fun q1 q2 q4 q5 q6 q23 q25 q27 q28 => (by have e := Option.some.inj (ifn q28 (ifn q27 (gd (ifn q25 (gd (ifn q23 (gd (ifp q6 (ifn q5 (ifn q4 (gd (ifp q2 (ifp q1 h))).2)))).2)).2)).2)); subst e; exact rfl)) (fun q1 q2 q4 q5 q6 q23 q25 q27 => (by have e := Option.some.inj (ifp q27 (gd (ifn q25 (gd (ifn q23 (gd (ifp q6 (ifn q5 (ifn q4 (gd (ifp q2 (ifp q1 h))).2)))).2)).2)).2); subst e; exact rfl)) (fun q1 q2 q4 q5 q6 q23 q25 => (by have e := Option.some.inj (ifp q25 (gd (ifn q23 (gd (ifp q6 (ifn q5 (ifn q4 (gd (ifp q2 (ifp q1 h))).2)))).2)).2); subst e; exact rfl)) (fun q1 q2 q4 q5 q6 q23 => (by have e := Option.some.inj (ifp q23 (gd (ifp q6 (ifn q5 (ifn q4 (gd (ifp q2 (ifp q1 h))).2)))).2); subst e; exact rfl)) (fun q1 q2 q4 q5 => (gd (ifp q5 (ifn q4 (gd (ifp q2 (ifp q1 h))).2))).1) (fun q1 q2 q4 q5 q38 => (gd (ifn q38 (gd (ifp q5 (ifn q4 (gd (ifp q2 (ifp q1 h))).2))).2)).1) (fun q1 q2 q4 q5 q38 q40 q41 => (gd (ifp q41 (ifn q40 (gd (ifn q38 (gd (ifp q5 (ifn q4 (gd (ifp q2 (ifp q1 h))).2))).2)).2))).1) (fun q1 q2 q4 q5 q38 q40 q41 => (by have e := Option.some.inj (gd (ifp q41 (ifn q40 (gd (ifn q38 (gd (ifp q5 (ifn q4 (gd (ifp q2 (ifp q1 h))).2))).2)).2))).2; subst e; exact rfl)) (fun q1 q2 q4 q5 q38 q40 q41 => (by have e := Option.some.inj (ifn q41 (ifn q40 (gd (ifn q38 (gd (ifp q5 (ifn q4 (gd (ifp q2 (ifp q1 h))).2))).2)).2)); subst e; exact rfl)) (fun q1 q2 q4 q5 q38 q40 => (by have e := Option.some.inj (ifp q40 (gd (ifn q38 (gd (ifp q5 (ifn q4 (gd (ifp q2 (ifp q1 h))).2))).2)).2); subst e; exact rfl)) (fun q1 q2 q4 q5 q38 => (by have e := Option.some.inj (ifp q38 (gd (ifp q5 (ifn q4 (gd (ifp q2 (ifp q1 h))).2))).2); subst e; exact rfl)) (fun q1 q2 q4 => (by have e := Option.some.inj (ifp q4 (gd (ifp q2 (ifp q1 h))).2); subst e; exact rfl)) (fun q1 q2 => (by have e := Option.some.inj (ifn q2 (ifp q1 h)); subst e; exact rfl)) (fun q1 => (by have e := Option.some.inj (ifn q1 h); subst e; exact rfl))
def en_L_law (p1 : Int32) (p2 : Int32) (p3 : Int32) : Option (Int32) := lp_L_law 1000 35 (p1 &&& (3 : Int32)) ((4 : Int32) + (p2 &&& (7 : Int32))) ((4 : Int32) + (p3 &&& (7 : Int32))) 0 (F_init (16 : Int32) (32 : Int32) (64 : Int32)) (fun _ _ => 0)
theorem een_L_law (p1 : Int32) (p2 : Int32) (p3 : Int32) : en_L_law   p1 p2 p3 = lp_L_law 1000 35 (p1 &&& (3 : Int32)) ((4 : Int32) + (p2 &&& (7 : Int32))) ((4 : Int32) + (p3 &&& (7 : Int32))) 0 (F_init (16 : Int32) (32 : Int32) (64 : Int32)) (fun _ _ => 0) := Eq.trans rfl rfl
set_option maxRecDepth 65536 in
set_option maxHeartbeats 4000000 in
theorem run_law {l : Launch} {Z : State} {a0 : Array Value} (H : OK Z a0) (sl : Int32) (sv : Int32 → Int32) (p1 : Int32) (p2 : Int32) (p3 : Int32) (h : en_L_law  p1 p2 p3 = some 1) : Wk l Z (MoL Z cdC "RecursiveCteL3" false) md_L_law 0 [.val (.int p1), .val (.int p2), .val (.int p3), .unset, .unset, .unset, .unset, .unset] [] (sl, sv, []) 0 0 (fun v _ => v = some (.int (1 : Int32))) := by
  rw [een_L_law] at h
  exact wp_L_law H sl sv p1 p2 p3 ((lpw_L_law H sl sv _ _ _ _ _ _ _ _ _ _).1 h)
theorem toN (n : Nat) (h : n < 2147483648) : (Int32.ofNat n).toInt = n := Int32.toInt_ofNat_of_lt (by omega)
theorem mask_fin (p m : Int32) (k : Nat) (hk : k < 31) (hm : m.toBitVec.toNat = 2 ^ k - 1) : ∃ s : Fin (2 ^ k), p &&& m = Int32.ofNat s.1 := by
  have h := and_mask p m k hk hm
  have h3 : (2 ^ k : Nat) ≤ 2 ^ 30 := Nat.pow_le_pow_right (by decide) (by omega)
  have h4 : (2 ^ 30 : Nat) = 1073741824 := by decide
  have h5 : (0 : Int) < ((2 ^ k : Nat) : Int) := by have := Nat.two_pow_pos k; omega
  have h1 := Int.emod_nonneg p.toInt (Int.ne_of_gt h5)
  have h2 := Int.emod_lt_of_pos p.toInt h5
  refine ⟨⟨(p.toInt % ((2 ^ k : Nat) : Int)).toNat, by omega⟩, Int32.toInt_inj.mp ?_⟩
  show (p &&& m).toInt = (Int32.ofNat (p.toInt % ((2 ^ k : Nat) : Int)).toNat).toInt
  rw [h, toN _ (by omega)]; omega
theorem fin_all : ∀ (s : Fin (2 ^ 2)) (x y : Fin (2 ^ 3)), lp_L_law 1000 35 (Int32.ofNat s.1) ((4 : Int32) + Int32.ofNat x.1) ((4 : Int32) + Int32.ofNat y.1) 0 (F_init (16 : Int32) (32 : Int32) (64 : Int32)) (fun _ _ => 0) = some 1 := by decide +kernel
theorem law_ok {l : Launch} {Z : State} {a0 : Array Value} (H : OK Z a0) (p1 p2 p3 : Int32) : Wk l Z (MoL Z cdC "RecursiveCteL3" false) md_L_law 0 [.val (.int p1), .val (.int p2), .val (.int p3), .unset, .unset, .unset, .unset, .unset] [] (0, (fun _ => 0), []) 0 0 (fun v _ => v = some (.int 1)) := by
  obtain ⟨s, hs⟩ := mask_fin p1 3 2 (by decide) (by decide)
  obtain ⟨x, hx⟩ := mask_fin p2 7 3 (by decide) (by decide)
  obtain ⟨y, hy⟩ := mask_fin p3 7 3 (by decide) (by decide)
  exact run_law H 0 (fun _ => 0) p1 p2 p3 (by rw [een_L_law, hs, hx, hy]; exact fin_all s x y)
set_option maxRecDepth 65536 in
set_option maxHeartbeats 40000000 in
theorem comes_1 {Post : Tables → Env → Array Value → State → Outcome → State → Prop} (hpost : ∀ tb e args s v u, (limb_1_1.after args s (.returned v) u = true ∧ limb_1_2.after args s (.returned v) u = true ∧ True) → FrameEnd s (.returned v) u (Jvm.fieldLocs frame_1_writes args s ++ Jvm.arrayLocs frame_1_arrays args s ++ Jvm.staticLocs frame_1_statics s) room_1.cells room_1.slots → Post tb e args s (.returned v) u) :
    ArmFor flags0 classFile x code maxLocals ret World_1 tables_1 room_1 Calls_1 rest_1 Pre_1 Post := by
  intro l hfl _ _ p e ha hc hk s m args below hf hA hF happ hP
  obtain ⟨hcalls, hrest, hpre⟩ := hP
  obtain ⟨-, -, -, hnamed, -, -, -, hat⟩ := (Spec.applies_iff hf).mp happ
  obtain ⟨hg, hn⟩ := and_e (Cond.before_iff.mp (show (Jvm.Cond.and given_1 narrow_1).before args s = true from hpre))
  obtain ⟨h1, h2⟩ := and_e hg
  obtain ⟨w0, w1, w2, rfl⟩ : ∃ w0 w1 w2 : Value, args = #[w0, w1, w2] := by
    have hs : args.size = 3 := by simpa [Cond.value, given_1] using h1
    obtain ⟨L⟩ := args
    match L, hs with
    | [w0, w1, w2], _ => exact ⟨w0, w1, w2, rfl⟩
  have hw : OK s #[w0, w1, w2] := fun d (hd : d ∈ tables_1) => atoms_spec (ws := Jvm.Cond.code x code maxLocals ret :: tables_1) hat d (List.mem_cons_of_mem _ hd)
  obtain ⟨g0, r0⟩ := and_e h2
  obtain ⟨g1, r1⟩ := and_e r0
  have g2 := r1
  obtain ⟨i0, e0⟩ := is_v g0
  obtain rfl : w0 = (.int i0) := Option.some.inj e0
  obtain ⟨i1, e1⟩ := is_v g1
  obtain rfl : w1 = (.int i1) := Option.some.inj e1
  obtain ⟨i2, e2⟩ := is_v g2
  obtain rfl : w2 = (.int i2) := Option.some.inj e2
  have rel0 : relL s cdC false (s.heap.size, 0) (0, (fun _ => 0), []) s.heap := ⟨fun q => (by cases q), fun i x q => (by simp at q), (by simp)⟩
  obtain ⟨n, o, h1, h2, h3, v, L, rfl, ⟨w', hv, hrel, hfrm, N, hsz, hnr⟩, hq⟩ := (law_ok hw i0 i1 i2).met (M := MoL s cdC "RecursiveCteL3" false) (l := l) pn_RecursiveCteL3 rfl (en := (s.heap.size, 0)) rel0 [.int i0, .int i1, .int i2] rfl rfl tables_1 p e ha hc hk s m _ below hf ((Spec.applies_iff_loose hf).mp happ).1 ⟨rfl, State.Warmed39.refl s, rfl⟩ trivial
  subst hv
  exact ⟨n, _, h1, h2, h3, hpost _ _ _ _ _ _ ⟨Cond.after_iff.mpr rfl, Cond.after_iff.mpr (eq_i res_at (Term.int_eval (1)) rfl), trivial⟩ ⟨hq.1, hq.2.1, (hq.2.2.sift fun y hy => Or.inr (N y hy)).mono (Nat.le_refl _) (Nat.le_refl _)⟩⟩
theorem main_1_1 : Claimed_1_1 := comes_1 fun _ _ _ _ _ _ h hF => ⟨h.1, hF⟩
theorem main_1_2 : Claimed_1_2 := comes_1 fun _ _ _ _ _ _ h hF => ⟨h.2.1, hF⟩
end Jvm.Pilot.@@N@@
namespace Jvm.Pilot.@@N@@
open Jvm Jvm.ClassFile Sem Op Lib Jvm.Free Jvm.Stand Jvm.Pilot.@@N@@.Jvm.D
/-! MADE BY PROGRAM (witnessworld.py) out of the Statement's table words and the real class files: 11 classes; the members and pool entries that the words name. The judged class is class 1, her method 1. -/
namespace start1
open Jvm.ClassFile
def u (s : String) : CpInfo := .utf8 (stringToUtf16 s)
/-- a pool by its gaps: so many unusable entries, then the entry; so many at the end -/
def gap : Nat → List CpInfo → List CpInfo
  | 0, r => r
  | n + 1, r => .unusable :: gap n r
def poolList (es : List (Nat × CpInfo)) (last : Nat) : List CpInfo := es.foldr (fun e r => gap e.1 (e.2 :: r)) (gap last [])
def pool (es : List (Nat × CpInfo)) (last : Nat) : Array CpInfo := ⟨poolList es last⟩
def fileOf (pool : Array CpInfo) (this : Nat) (attrs : Array Attribute := #[]) (ms : Array MethodInfo := #[]) (fl : Nat := 33) (sup : Nat := 0) (ifs : Array Nat := #[]) (fds : Array FieldInfo := #[]) : ClassFile where
  minorVersion := 0
  majorVersion := 65
  constantPool := pool
  accessFlags := fl
  thisClass := this
  superClass := sup
  interfaces := ifs
  fields := fds
  methods := ms
  attributes := attrs
def plain (name : String) (sup : Option ClassId) : Class where
  name := name
  kind := .ordinary
  loader := none
  accessFlags := 33
  super := sup
  interfaces := #[]
  cf := none
  fields := #[]
  methods := #[]
  instanceTypes := #[]
  staticTypes := #[]
  resolved := #[]
  callSites := []
  init := .initialized
  statics := none
  mirror := none

def pool0 : Array CpInfo := pool [(5, u "<init>"), (0, u "()V"), (1, .class_ 10), (1, u "java/lang/Object")] 113

def k0c0 : Code := { maxStack := 0, maxLocals := 1, code := object_method_1_code, exceptionTable := #[], attributes := #[] }
def k0m0 : Method := { name := "<init>", desc := "()V", sig := { parameters := [], returnType := none }, accessFlags := 1, code := some k0c0 }
/-- java/lang/Object -/
def k0 : Class := { plain "java/lang/Object" none with
  accessFlags := 33
  interfaces := #[]
  cf := some (fileOf pool0 8 #[] #[{ accessFlags := 1, nameIndex := 5, descriptorIndex := 6, attributes := #[] }] 33 0 #[] #[])
  fields := #[]
  methods := #[k0m0]
  instanceTypes := #[]
  staticTypes := #[]
  resolved := Array.replicate 124 none
  statics := none }

def pool1 : Array CpInfo := pool [(2, .class_ 4), (1, u "java/lang/Object"), (0, u "<init>"), (0, u "()V"), (0, .class_ 8), (0, u "RecursiveCte"), (0, .methodref 7 10), (0, .nameAndType 5 11), (0, u "(III)V"), (0, .methodref 7 13), (0, .nameAndType 14 15), (0, u "addEdge"), (0, u "(II)I"), (0, .methodref 7 17), (0, .nameAndType 18 19), (0, u "addSeed"), (0, u "(I)I"), (0, .methodref 7 21), (0, .nameAndType 22 23), (0, u "run"), (0, u "()I"), (0, .methodref 7 25), (0, .nameAndType 26 23), (0, u "rowCount"), (0, .methodref 7 28), (0, .nameAndType 29 23), (0, u "status"), (0, .methodref 31 32), (0, .class_ 33), (0, .nameAndType 34 35), (0, u "RecursiveCteL3"), (0, u "row"), (0, u "(LRecursiveCte;IIIIIZ)Z"), (0, .methodref 7 37), (0, .nameAndType 38 19), (0, u "countNode"), (0, .methodref 7 40), (0, .nameAndType 41 19), (0, u "rowNode"), (0, .methodref 7 43), (0, .nameAndType 44 19), (0, u "rowDepth"), (0, .methodref 7 46), (0, .nameAndType 47 48), (0, u "rowIsCycle"), (0, u "(I)Z"), (0, .methodref 7 50), (0, .nameAndType 51 15), (0, u "rowPathNode"), (2, u "law"), (0, u "(III)Z")] 3

def k1m0 : Method := { name := "<init>", desc := "()V", sig := { parameters := [], returnType := none }, accessFlags := 1, code := none }
def k1c1 : Code := { maxStack := 7, maxLocals := 8, code := code, exceptionTable := #[], attributes := #[] }
def k1m1 : Method := { name := "law", desc := "(III)Z", sig := { parameters := [.int, .int, .int], returnType := some .boolean }, accessFlags := 9, code := some k1c1 }
def k1c2 : Code := { maxStack := 3, maxLocals := 8, code := method_3_code, exceptionTable := #[], attributes := #[] }
def k1m2 : Method := { name := "row", desc := "(LRecursiveCte;IIIIIZ)Z", sig := { parameters := [(.object "RecursiveCte"), .int, .int, .int, .int, .int, .boolean], returnType := some .boolean }, accessFlags := 10, code := some k1c2 }
/-- RecursiveCteL3 -/
def k1 : Class := { plain "RecursiveCteL3" (some 0) with
  accessFlags := 33
  interfaces := #[]
  cf := some (fileOf pool1 31 #[] #[{ accessFlags := 1, nameIndex := 5, descriptorIndex := 6, attributes := #[] }, { accessFlags := 9, nameIndex := 54, descriptorIndex := 55, attributes := #[] }, { accessFlags := 10, nameIndex := 34, descriptorIndex := 35, attributes := #[] }] 33 2 #[] #[])
  fields := #[]
  methods := #[k1m0, k1m1, k1m2]
  instanceTypes := #[]
  staticTypes := #[]
  resolved := Array.replicate 59 none
  statics := none }

def pool2 : Array CpInfo := pool [(1, .methodref 2 3), (0, .class_ 4), (0, .nameAndType 5 6), (0, u "java/lang/Object"), (0, u "<init>"), (0, u "()V"), (0, .fieldref 8 9), (0, .class_ 10), (0, .nameAndType 11 12), (0, u "RecursiveCte"), (0, u "adj"), (0, u "[Z"), (0, .fieldref 8 14), (0, .nameAndType 15 12), (0, u "seed"), (0, .fieldref 8 17), (0, .nameAndType 18 19), (0, u "rowNodeA"), (0, u "[I"), (0, .fieldref 8 21), (0, .nameAndType 22 19), (0, u "rowDepthA"), (0, .fieldref 8 24), (0, .nameAndType 25 12), (0, u "rowCycA"), (0, .fieldref 8 27), (0, .nameAndType 28 19), (0, u "rowPathA"), (0, .fieldref 8 30), (0, .nameAndType 31 19), (0, u "stkNode"), (0, .fieldref 8 33), (0, .nameAndType 34 19), (0, u "stkNext"), (0, .fieldref 8 36), (0, .nameAndType 37 12), (0, u "stkCyc"), (0, .fieldref 8 39), (0, .nameAndType 40 12), (0, u "found"), (0, .methodref 8 42), (0, .nameAndType 43 44), (0, u "clamp"), (0, u "(III)I"), (0, .fieldref 8 46), (0, .nameAndType 47 48), (0, u "maxNodes"), (0, u "I"), (0, .fieldref 8 50), (0, .nameAndType 51 48), (0, u "maxEdges"), (0, .fieldref 8 53), (0, .nameAndType 54 48), (0, u "rowLimit"), (0, .fieldref 8 56), (0, .nameAndType 57 48), (0, u "edges"), (0, .fieldref 8 59), (0, .nameAndType 60 48), (0, u "kind"), (0, .fieldref 8 62), (0, .nameAndType 63 48), (0, u "search"), (0, .fieldref 8 65), (0, .nameAndType 66 67), (0, u "cycle"), (0, u "Z"), (0, .fieldref 8 69), (0, .nameAndType 70 48), (0, u "maxDepth"), (0, .fieldref 8 72), (0, .nameAndType 73 48), (0, u "status"), (0, .fieldref 8 75), (0, .nameAndType 76 48), (0, u "count"), (0, .fieldref 8 78), (0, .nameAndType 79 48), (0, u "top"), (0, .methodref 8 81), (0, .nameAndType 82 83), (0, u "inRange"), (0, u "(I)Z"), (0, .methodref 8 85), (0, .nameAndType 86 6), (0, u "clearResult"), (0, .methodref 8 88), (0, .nameAndType 89 90), (0, u "runDepthFirstAll"), (0, u "()Z"), (7, .methodref 8 99), (0, .nameAndType 100 83), (0, u "walkFrom"), (0, .methodref 8 102), (0, .nameAndType 103 90), (0, u "emitStack"), (0, .methodref 8 105), (0, .nameAndType 106 107), (0, u "nextTarget"), (0, u "(II)I"), (0, .methodref 8 109), (0, .nameAndType 110 111), (0, u "onStack"), (0, u "(II)Z"), (21, .methodref 8 134), (0, .nameAndType 135 83), (0, u "validRow"), (0, u "OK"), (2, u "ERR_RANGE"), (1, u "ERR_DUPLICATE"), (1, u "ERR_ABSENT"), (1, u "ERR_FULL"), (1, u "ERR_ARG"), (1, u "RUN_TOO_MANY"), (1, u "UNION_ALL"), (0, u "UNION_DISTINCT"), (1, u "SEARCH_DEPTH_FIRST"), (0, u "SEARCH_BREADTH_FIRST"), (0, u "MAX_DEPTH_LIMIT"), (1, u "STATUS_NOT_RUN"), (0, u "STATUS_DONE"), (0, u "STATUS_TOO_MANY"), (1, u "(III)V"), (3, u "addEdge"), (1, u "addSeed"), (0, u "(I)I"), (3, u "run"), (0, u "()I"), (0, u "rowCount"), (0, u "rowNode"), (0, u "rowDepth"), (0, u "rowIsCycle"), (0, u "rowPathNode"), (0, u "countNode")] 5

def k2c0 : Code := { maxStack := 5, maxLocals := 4, code := prog_1_method_1_code, exceptionTable := #[], attributes := #[] }
def k2m0 : Method := { name := "<init>", desc := "(III)V", sig := { parameters := [.int, .int, .int], returnType := none }, accessFlags := 1, code := some k2c0 }
def k2c1 : Code := { maxStack := 2, maxLocals := 4, code := prog_1_method_2_code, exceptionTable := #[], attributes := #[] }
def k2m1 : Method := { name := "clamp", desc := "(III)I", sig := { parameters := [.int, .int, .int], returnType := some .int }, accessFlags := 2, code := some k2c1 }
def k2c2 : Code := { maxStack := 2, maxLocals := 2, code := prog_1_method_3_code, exceptionTable := #[], attributes := #[] }
def k2m2 : Method := { name := "inRange", desc := "(I)Z", sig := { parameters := [.int], returnType := some .boolean }, accessFlags := 2, code := some k2c2 }
def k2c3 : Code := { maxStack := 2, maxLocals := 1, code := prog_1_method_4_code, exceptionTable := #[], attributes := #[] }
def k2m3 : Method := { name := "clearResult", desc := "()V", sig := { parameters := [], returnType := none }, accessFlags := 2, code := some k2c3 }
def k2c4 : Code := { maxStack := 3, maxLocals := 3, code := prog_1_method_5_code, exceptionTable := #[], attributes := #[] }
def k2m4 : Method := { name := "addEdge", desc := "(II)I", sig := { parameters := [.int, .int], returnType := some .int }, accessFlags := 1, code := some k2c4 }
def k2c5 : Code := { maxStack := 3, maxLocals := 2, code := prog_1_method_7_code, exceptionTable := #[], attributes := #[] }
def k2m5 : Method := { name := "addSeed", desc := "(I)I", sig := { parameters := [.int], returnType := some .int }, accessFlags := 1, code := some k2c5 }
def k2c6 : Code := { maxStack := 2, maxLocals := 2, code := prog_1_method_10_code, exceptionTable := #[], attributes := #[] }
def k2m6 : Method := { name := "run", desc := "()I", sig := { parameters := [], returnType := some .int }, accessFlags := 1, code := some k2c6 }
def k2c7 : Code := { maxStack := 2, maxLocals := 2, code := prog_1_method_11_code, exceptionTable := #[], attributes := #[] }
def k2m7 : Method := { name := "runDepthFirstAll", desc := "()Z", sig := { parameters := [], returnType := some .boolean }, accessFlags := 2, code := some k2c7 }
def k2c8 : Code := { maxStack := 4, maxLocals := 6, code := prog_1_method_12_code, exceptionTable := #[], attributes := #[] }
def k2m8 : Method := { name := "walkFrom", desc := "(I)Z", sig := { parameters := [.int], returnType := some .boolean }, accessFlags := 2, code := some k2c8 }
def k2c9 : Code := { maxStack := 3, maxLocals := 5, code := prog_1_method_13_code, exceptionTable := #[], attributes := #[] }
def k2m9 : Method := { name := "nextTarget", desc := "(II)I", sig := { parameters := [.int, .int], returnType := some .int }, accessFlags := 2, code := some k2c9 }
def k2c10 : Code := { maxStack := 2, maxLocals := 4, code := prog_1_method_14_code, exceptionTable := #[], attributes := #[] }
def k2m10 : Method := { name := "onStack", desc := "(II)Z", sig := { parameters := [.int, .int], returnType := some .boolean }, accessFlags := 2, code := some k2c10 }
def k2c11 : Code := { maxStack := 4, maxLocals := 3, code := prog_1_method_15_code, exceptionTable := #[], attributes := #[] }
def k2m11 : Method := { name := "emitStack", desc := "()Z", sig := { parameters := [], returnType := some .boolean }, accessFlags := 2, code := some k2c11 }
def k2c12 : Code := { maxStack := 1, maxLocals := 1, code := prog_1_method_24_code, exceptionTable := #[], attributes := #[] }
def k2m12 : Method := { name := "status", desc := "()I", sig := { parameters := [], returnType := some .int }, accessFlags := 1, code := some k2c12 }
def k2c13 : Code := { maxStack := 1, maxLocals := 1, code := prog_1_method_25_code, exceptionTable := #[], attributes := #[] }
def k2m13 : Method := { name := "rowCount", desc := "()I", sig := { parameters := [], returnType := some .int }, accessFlags := 1, code := some k2c13 }
def k2c14 : Code := { maxStack := 2, maxLocals := 2, code := prog_1_method_26_code, exceptionTable := #[], attributes := #[] }
def k2m14 : Method := { name := "validRow", desc := "(I)Z", sig := { parameters := [.int], returnType := some .boolean }, accessFlags := 2, code := some k2c14 }
def k2c15 : Code := { maxStack := 2, maxLocals := 2, code := prog_1_method_27_code, exceptionTable := #[], attributes := #[] }
def k2m15 : Method := { name := "rowNode", desc := "(I)I", sig := { parameters := [.int], returnType := some .int }, accessFlags := 1, code := some k2c15 }
def k2c16 : Code := { maxStack := 2, maxLocals := 2, code := prog_1_method_28_code, exceptionTable := #[], attributes := #[] }
def k2m16 : Method := { name := "rowDepth", desc := "(I)I", sig := { parameters := [.int], returnType := some .int }, accessFlags := 1, code := some k2c16 }
def k2c17 : Code := { maxStack := 2, maxLocals := 2, code := prog_1_method_29_code, exceptionTable := #[], attributes := #[] }
def k2m17 : Method := { name := "rowIsCycle", desc := "(I)Z", sig := { parameters := [.int], returnType := some .boolean }, accessFlags := 1, code := some k2c17 }
def k2c18 : Code := { maxStack := 3, maxLocals := 3, code := prog_1_method_30_code, exceptionTable := #[], attributes := #[] }
def k2m18 : Method := { name := "rowPathNode", desc := "(II)I", sig := { parameters := [.int, .int], returnType := some .int }, accessFlags := 1, code := some k2c18 }
def k2c19 : Code := { maxStack := 2, maxLocals := 4, code := prog_1_method_31_code, exceptionTable := #[], attributes := #[] }
def k2m19 : Method := { name := "countNode", desc := "(I)I", sig := { parameters := [.int], returnType := some .int }, accessFlags := 1, code := some k2c19 }
/-- RecursiveCte -/
def k2 : Class := { plain "RecursiveCte" (some 0) with
  accessFlags := 49
  interfaces := #[]
  cf := some (fileOf pool2 8 #[] #[{ accessFlags := 1, nameIndex := 5, descriptorIndex := 162, attributes := #[] }, { accessFlags := 2, nameIndex := 43, descriptorIndex := 44, attributes := #[] }, { accessFlags := 2, nameIndex := 82, descriptorIndex := 83, attributes := #[] }, { accessFlags := 2, nameIndex := 86, descriptorIndex := 6, attributes := #[] }, { accessFlags := 1, nameIndex := 166, descriptorIndex := 107, attributes := #[] }, { accessFlags := 1, nameIndex := 168, descriptorIndex := 169, attributes := #[] }, { accessFlags := 1, nameIndex := 173, descriptorIndex := 174, attributes := #[] }, { accessFlags := 2, nameIndex := 89, descriptorIndex := 90, attributes := #[] }, { accessFlags := 2, nameIndex := 100, descriptorIndex := 83, attributes := #[] }, { accessFlags := 2, nameIndex := 106, descriptorIndex := 107, attributes := #[] }, { accessFlags := 2, nameIndex := 110, descriptorIndex := 111, attributes := #[] }, { accessFlags := 2, nameIndex := 103, descriptorIndex := 90, attributes := #[] }, { accessFlags := 1, nameIndex := 73, descriptorIndex := 174, attributes := #[] }, { accessFlags := 1, nameIndex := 175, descriptorIndex := 174, attributes := #[] }, { accessFlags := 2, nameIndex := 135, descriptorIndex := 83, attributes := #[] }, { accessFlags := 1, nameIndex := 176, descriptorIndex := 169, attributes := #[] }, { accessFlags := 1, nameIndex := 177, descriptorIndex := 169, attributes := #[] }, { accessFlags := 1, nameIndex := 178, descriptorIndex := 83, attributes := #[] }, { accessFlags := 1, nameIndex := 179, descriptorIndex := 107, attributes := #[] }, { accessFlags := 1, nameIndex := 180, descriptorIndex := 169, attributes := #[] }] 49 2 #[] #[{ accessFlags := 25, nameIndex := 136, descriptorIndex := 48, attributes := #[] }, { accessFlags := 25, nameIndex := 139, descriptorIndex := 48, attributes := #[] }, { accessFlags := 25, nameIndex := 141, descriptorIndex := 48, attributes := #[] }, { accessFlags := 25, nameIndex := 143, descriptorIndex := 48, attributes := #[] }, { accessFlags := 25, nameIndex := 145, descriptorIndex := 48, attributes := #[] }, { accessFlags := 25, nameIndex := 147, descriptorIndex := 48, attributes := #[] }, { accessFlags := 25, nameIndex := 149, descriptorIndex := 48, attributes := #[] }, { accessFlags := 25, nameIndex := 151, descriptorIndex := 48, attributes := #[] }, { accessFlags := 25, nameIndex := 152, descriptorIndex := 48, attributes := #[] }, { accessFlags := 25, nameIndex := 154, descriptorIndex := 48, attributes := #[] }, { accessFlags := 25, nameIndex := 155, descriptorIndex := 48, attributes := #[] }, { accessFlags := 25, nameIndex := 156, descriptorIndex := 48, attributes := #[] }, { accessFlags := 25, nameIndex := 158, descriptorIndex := 48, attributes := #[] }, { accessFlags := 25, nameIndex := 159, descriptorIndex := 48, attributes := #[] }, { accessFlags := 25, nameIndex := 160, descriptorIndex := 48, attributes := #[] }, { accessFlags := 2, nameIndex := 47, descriptorIndex := 48, attributes := #[] }, { accessFlags := 2, nameIndex := 51, descriptorIndex := 48, attributes := #[] }, { accessFlags := 2, nameIndex := 54, descriptorIndex := 48, attributes := #[] }, { accessFlags := 18, nameIndex := 11, descriptorIndex := 12, attributes := #[] }, { accessFlags := 2, nameIndex := 57, descriptorIndex := 48, attributes := #[] }, { accessFlags := 18, nameIndex := 15, descriptorIndex := 12, attributes := #[] }, { accessFlags := 2, nameIndex := 60, descriptorIndex := 48, attributes := #[] }, { accessFlags := 2, nameIndex := 63, descriptorIndex := 48, attributes := #[] }, { accessFlags := 2, nameIndex := 66, descriptorIndex := 67, attributes := #[] }, { accessFlags := 2, nameIndex := 70, descriptorIndex := 48, attributes := #[] }, { accessFlags := 2, nameIndex := 73, descriptorIndex := 48, attributes := #[] }, { accessFlags := 2, nameIndex := 76, descriptorIndex := 48, attributes := #[] }, { accessFlags := 18, nameIndex := 18, descriptorIndex := 19, attributes := #[] }, { accessFlags := 18, nameIndex := 22, descriptorIndex := 19, attributes := #[] }, { accessFlags := 18, nameIndex := 25, descriptorIndex := 12, attributes := #[] }, { accessFlags := 18, nameIndex := 28, descriptorIndex := 19, attributes := #[] }, { accessFlags := 18, nameIndex := 31, descriptorIndex := 19, attributes := #[] }, { accessFlags := 18, nameIndex := 34, descriptorIndex := 19, attributes := #[] }, { accessFlags := 18, nameIndex := 37, descriptorIndex := 12, attributes := #[] }, { accessFlags := 2, nameIndex := 79, descriptorIndex := 48, attributes := #[] }, { accessFlags := 18, nameIndex := 40, descriptorIndex := 12, attributes := #[] }])
  fields := #[{ name := "OK", type := .int, accessFlags := 25, slot := 0, constantValue := 0 }, { name := "ERR_RANGE", type := .int, accessFlags := 25, slot := 1, constantValue := 0 }, { name := "ERR_DUPLICATE", type := .int, accessFlags := 25, slot := 2, constantValue := 0 }, { name := "ERR_ABSENT", type := .int, accessFlags := 25, slot := 3, constantValue := 0 }, { name := "ERR_FULL", type := .int, accessFlags := 25, slot := 4, constantValue := 0 }, { name := "ERR_ARG", type := .int, accessFlags := 25, slot := 5, constantValue := 0 }, { name := "RUN_TOO_MANY", type := .int, accessFlags := 25, slot := 6, constantValue := 0 }, { name := "UNION_ALL", type := .int, accessFlags := 25, slot := 7, constantValue := 0 }, { name := "UNION_DISTINCT", type := .int, accessFlags := 25, slot := 8, constantValue := 0 }, { name := "SEARCH_DEPTH_FIRST", type := .int, accessFlags := 25, slot := 9, constantValue := 0 }, { name := "SEARCH_BREADTH_FIRST", type := .int, accessFlags := 25, slot := 10, constantValue := 0 }, { name := "MAX_DEPTH_LIMIT", type := .int, accessFlags := 25, slot := 11, constantValue := 0 }, { name := "STATUS_NOT_RUN", type := .int, accessFlags := 25, slot := 12, constantValue := 0 }, { name := "STATUS_DONE", type := .int, accessFlags := 25, slot := 13, constantValue := 0 }, { name := "STATUS_TOO_MANY", type := .int, accessFlags := 25, slot := 14, constantValue := 0 }, { name := "maxNodes", type := .int, accessFlags := 2, slot := 0, constantValue := 0 }, { name := "maxEdges", type := .int, accessFlags := 2, slot := 1, constantValue := 0 }, { name := "rowLimit", type := .int, accessFlags := 2, slot := 2, constantValue := 0 }, { name := "adj", type := (.array .boolean), accessFlags := 18, slot := 3, constantValue := 0 }, { name := "edges", type := .int, accessFlags := 2, slot := 4, constantValue := 0 }, { name := "seed", type := (.array .boolean), accessFlags := 18, slot := 5, constantValue := 0 }, { name := "kind", type := .int, accessFlags := 2, slot := 6, constantValue := 0 }, { name := "search", type := .int, accessFlags := 2, slot := 7, constantValue := 0 }, { name := "cycle", type := .boolean, accessFlags := 2, slot := 8, constantValue := 0 }, { name := "maxDepth", type := .int, accessFlags := 2, slot := 9, constantValue := 0 }, { name := "status", type := .int, accessFlags := 2, slot := 10, constantValue := 0 }, { name := "count", type := .int, accessFlags := 2, slot := 11, constantValue := 0 }, { name := "rowNodeA", type := (.array .int), accessFlags := 18, slot := 12, constantValue := 0 }, { name := "rowDepthA", type := (.array .int), accessFlags := 18, slot := 13, constantValue := 0 }, { name := "rowCycA", type := (.array .boolean), accessFlags := 18, slot := 14, constantValue := 0 }, { name := "rowPathA", type := (.array .int), accessFlags := 18, slot := 15, constantValue := 0 }, { name := "stkNode", type := (.array .int), accessFlags := 18, slot := 16, constantValue := 0 }, { name := "stkNext", type := (.array .int), accessFlags := 18, slot := 17, constantValue := 0 }, { name := "stkCyc", type := (.array .boolean), accessFlags := 18, slot := 18, constantValue := 0 }, { name := "top", type := .int, accessFlags := 2, slot := 19, constantValue := 0 }, { name := "found", type := (.array .boolean), accessFlags := 18, slot := 20, constantValue := 0 }]
  methods := #[k2m0, k2m1, k2m2, k2m3, k2m4, k2m5, k2m6, k2m7, k2m8, k2m9, k2m10, k2m11, k2m12, k2m13, k2m14, k2m15, k2m16, k2m17, k2m18, k2m19]
  instanceTypes := #[.int, .int, .int, (.array .boolean), .int, (.array .boolean), .int, .int, .boolean, .int, .int, .int, (.array .int), (.array .int), (.array .boolean), (.array .int), (.array .int), (.array .int), (.array .boolean), .int, (.array .boolean)]
  staticTypes := #[.int, .int, .int, .int, .int, .int, .int, .int, .int, .int, .int, .int, .int, .int, .int]
  resolved := Array.replicate 186 none
  statics := none }

def pool3 : Array CpInfo := pool [(1, u "java/lang/Cloneable"), (0, .class_ 1), (0, u "java/lang/Object"), (0, .class_ 3)] 3

/-- java/lang/Cloneable -/
def k3 : Class := { plain "java/lang/Cloneable" (some 0) with
  accessFlags := 1537
  interfaces := #[]
  cf := some (fileOf pool3 2 #[] #[] 1537 4 #[] #[])
  fields := #[]
  methods := #[]
  instanceTypes := #[]
  staticTypes := #[]
  resolved := Array.replicate 8 none
  statics := none }

def pool4 : Array CpInfo := pool [(1, u "java/io/Serializable"), (0, .class_ 1), (0, u "java/lang/Object"), (0, .class_ 3)] 3

/-- java/io/Serializable -/
def k4 : Class := { plain "java/io/Serializable" (some 0) with
  accessFlags := 1537
  interfaces := #[]
  cf := some (fileOf pool4 2 #[] #[] 1537 4 #[] #[])
  fields := #[]
  methods := #[]
  instanceTypes := #[]
  staticTypes := #[]
  resolved := Array.replicate 8 none
  statics := none }

/-- the primitive boolean -/
def k5 : Class := { plain "boolean" none with kind := .primitive 'Z', accessFlags := 0x411 }
/-- [Z -/
def k6 : Class := { plain "[Z" (some 0) with kind := .array 5 .boolean, interfaces := #[3, 4], accessFlags := 1041 }

/-- the primitive byte -/
def k7 : Class := { plain "byte" none with kind := .primitive 'B', accessFlags := 0x411 }
/-- [B -/
def k8 : Class := { plain "[B" (some 0) with kind := .array 7 .byte, interfaces := #[3, 4], accessFlags := 1041 }

/-- the primitive int -/
def k9 : Class := { plain "int" none with kind := .primitive 'I', accessFlags := 0x411 }
/-- [I -/
def k10 : Class := { plain "[I" (some 0) with kind := .array 9 .int, interfaces := #[3, 4], accessFlags := 1041 }

def heap : Heap := #[]
def classes : Array Class := #[k0, k1, k2, k3, k4, k5, k6, k7, k8, k9, k10]
def interned : List (Array UInt16 × Addr) := []
def slotsUsed : Nat := 0
def theMethod : MethodId := ⟨1, 1⟩
def args0 : Array Value := #[.int 1, .int 2, .int 3]
def aboutOver (below : List Frame) : State where
  vm := { classes := classes, interned := interned.toArray }
  heap := heap
  slotsUsed := slotsUsed
  threads := #[{ frames := .invoking theMethod args0 :: below }]
def below0 : List Frame := [.native { method := ⟨0, 0⟩, args := #[] }]
def about1 : State := aboutOver below0
def p0 : Program := .bare "" "" ""
def e0 : Env := launch0.env 0 0 0
theorem w_frames : about1.frames = Frame.invoking theMethod args0 :: below0 := rfl
set_option maxRecDepth 65536 in
theorem w_args : argsFit about1.vm theMethod args0 = true := by decide +kernel
set_option maxRecDepth 65536 in
theorem w_heap : heapFits about1 = true := by decide +kernel
set_option maxRecDepth 65536 in
theorem w_runnable : about1.curStatus? = some .runnable := by decide +kernel
set_option maxRecDepth 65536 in
theorem w_alone : about1.alone = true := by decide +kernel
set_option maxRecDepth 65536 in
theorem w_named : about1.methodNamed? x = some theMethod := by decide +kernel
set_option maxRecDepth 65536 in
theorem w_hears : about1.hears theMethod below0 = true := by decide +kernel
set_option maxRecDepth 65536 in
theorem w_ripe : about1.ripe theMethod args0 below0 = true := by decide +kernel
theorem w_running : about1.status = .running := rfl
set_option maxRecDepth 65536 in
theorem w_room : about1.hasRoom e0.platform room_1 = true :=
  launch0.hasRoom_least _ room_1 (by decide +kernel) (by decide +kernel) (by decide +kernel) (by decide +kernel) (by decide +kernel) (by decide +kernel)
theorem allAtoms_all (ts : List Jvm.Cond) (a : Array Jvm.Value) (st : Jvm.State) : (allAtoms ts).before a st = ts.all (fun c => c.before a st) := by
  induction ts with
  | nil => rfl
  | cons c t ih =>
    show (Jvm.Cond.and c (allAtoms t)).before a st = _
    rw [Jvm.Cond.before_and, ih, List.all_cons]
def words1 : List Jvm.Cond := Jvm.Cond.code x code maxLocals ret :: tables_1
/-- a 'code' word, met by the world's own term for the bytes: nothing is compared byte by byte -/
theorem code_word {y : MethodName} {bytes : ByteArray} {mx : Nat} {rt : Option FieldType} {a : Array Value} {s : State} {m : MethodId} {meth : Method} {c : Code} (h1 : s.methodNamed? y = some m) (h2 : s.vm.method? m = some meth) (h3 : meth.code = some c) (h4 : c.code = bytes)
    (h5 : (c.maxLocals == mx && c.exceptionTable.isEmpty && decide (c.maxStack ≤ mostOperands) && decide (meth.sig.returnType = rt) && !meth.locks && decide (parseMethodDescriptor y.desc = some meth.sig)) = true) : (Jvm.Cond.code y bytes mx rt).before a s = true := by
  simp only [Bool.and_eq_true, beq_iff_eq, Bool.not_eq_true', decide_eq_true_eq] at h5
  obtain ⟨⟨⟨⟨⟨g1, g2⟩, g3⟩, g4⟩, g5⟩, g6⟩ := h5
  simp [Cond.before, Cond.holds, Cond.value, h1, h2, h3, h4, g1, g2, g3, g4, g5, g6]
def isCode : Jvm.Cond → Bool
  | .code _ _ _ _ => true
  | _ => false
theorem all_split {L : List Jvm.Cond} {P : Jvm.Cond → Bool} (h1 : L.all (fun c => isCode c || P c) = true) (h2 : ∀ c ∈ L.filter isCode, P c = true) : L.all P = true := by
  refine List.all_eq_true.mpr fun c hc => ?_
  have h := List.all_eq_true.mp h1 c hc
  rcases Bool.eq_false_or_eq_true (isCode c) with hi | hi
  · exact h2 c (List.mem_filter.mpr ⟨hc, hi⟩)
  · simpa [hi] using h
set_option maxRecDepth 65536 in
theorem w_c0 : (Jvm.Cond.code x code maxLocals ret).before args0 about1 = true := code_word (m := ⟨1, 1⟩) (meth := k1m1) (c := k1c1) (by decide +kernel) rfl rfl rfl (by decide +kernel)
set_option maxRecDepth 65536 in
theorem w_c1 : (Jvm.Cond.code ({ cls := "RecursiveCte", name := "<init>", desc := "(III)V" } : Jvm.MethodName) prog_1_method_1_code (4 : Nat) (Option.none : Option Jvm.ClassFile.FieldType)).before args0 about1 = true := code_word (m := ⟨2, 0⟩) (meth := k2m0) (c := k2c0) (by decide +kernel) rfl rfl rfl (by decide +kernel)
set_option maxRecDepth 65536 in
theorem w_c2 : (Jvm.Cond.code ({ cls := "java/lang/Object", name := "<init>", desc := "()V" } : Jvm.MethodName) object_method_1_code (1 : Nat) (Option.none : Option Jvm.ClassFile.FieldType)).before args0 about1 = true := code_word (m := ⟨0, 0⟩) (meth := k0m0) (c := k0c0) (by decide +kernel) rfl rfl rfl (by decide +kernel)
set_option maxRecDepth 65536 in
theorem w_c3 : (Jvm.Cond.code ({ cls := "RecursiveCte", name := "clamp", desc := "(III)I" } : Jvm.MethodName) prog_1_method_2_code (4 : Nat) (Option.some Jvm.ClassFile.FieldType.int)).before args0 about1 = true := code_word (m := ⟨2, 1⟩) (meth := k2m1) (c := k2c1) (by decide +kernel) rfl rfl rfl (by decide +kernel)
set_option maxRecDepth 65536 in
theorem w_c4 : (Jvm.Cond.code ({ cls := "RecursiveCte", name := "addEdge", desc := "(II)I" } : Jvm.MethodName) prog_1_method_5_code (3 : Nat) (Option.some Jvm.ClassFile.FieldType.int)).before args0 about1 = true := code_word (m := ⟨2, 4⟩) (meth := k2m4) (c := k2c4) (by decide +kernel) rfl rfl rfl (by decide +kernel)
set_option maxRecDepth 65536 in
theorem w_c5 : (Jvm.Cond.code ({ cls := "RecursiveCte", name := "inRange", desc := "(I)Z" } : Jvm.MethodName) prog_1_method_3_code (2 : Nat) (Option.some Jvm.ClassFile.FieldType.boolean)).before args0 about1 = true := code_word (m := ⟨2, 2⟩) (meth := k2m2) (c := k2c2) (by decide +kernel) rfl rfl rfl (by decide +kernel)
set_option maxRecDepth 65536 in
theorem w_c6 : (Jvm.Cond.code ({ cls := "RecursiveCte", name := "clearResult", desc := "()V" } : Jvm.MethodName) prog_1_method_4_code (1 : Nat) (Option.none : Option Jvm.ClassFile.FieldType)).before args0 about1 = true := code_word (m := ⟨2, 3⟩) (meth := k2m3) (c := k2c3) (by decide +kernel) rfl rfl rfl (by decide +kernel)
set_option maxRecDepth 65536 in
theorem w_c7 : (Jvm.Cond.code ({ cls := "RecursiveCte", name := "addSeed", desc := "(I)I" } : Jvm.MethodName) prog_1_method_7_code (2 : Nat) (Option.some Jvm.ClassFile.FieldType.int)).before args0 about1 = true := code_word (m := ⟨2, 5⟩) (meth := k2m5) (c := k2c5) (by decide +kernel) rfl rfl rfl (by decide +kernel)
set_option maxRecDepth 65536 in
theorem w_c8 : (Jvm.Cond.code ({ cls := "RecursiveCte", name := "run", desc := "()I" } : Jvm.MethodName) prog_1_method_10_code (2 : Nat) (Option.some Jvm.ClassFile.FieldType.int)).before args0 about1 = true := code_word (m := ⟨2, 6⟩) (meth := k2m6) (c := k2c6) (by decide +kernel) rfl rfl rfl (by decide +kernel)
set_option maxRecDepth 65536 in
theorem w_c9 : (Jvm.Cond.code ({ cls := "RecursiveCte", name := "runDepthFirstAll", desc := "()Z" } : Jvm.MethodName) prog_1_method_11_code (2 : Nat) (Option.some Jvm.ClassFile.FieldType.boolean)).before args0 about1 = true := code_word (m := ⟨2, 7⟩) (meth := k2m7) (c := k2c7) (by decide +kernel) rfl rfl rfl (by decide +kernel)
set_option maxRecDepth 65536 in
theorem w_c10 : (Jvm.Cond.code ({ cls := "RecursiveCte", name := "walkFrom", desc := "(I)Z" } : Jvm.MethodName) prog_1_method_12_code (6 : Nat) (Option.some Jvm.ClassFile.FieldType.boolean)).before args0 about1 = true := code_word (m := ⟨2, 8⟩) (meth := k2m8) (c := k2c8) (by decide +kernel) rfl rfl rfl (by decide +kernel)
set_option maxRecDepth 65536 in
theorem w_c11 : (Jvm.Cond.code ({ cls := "RecursiveCte", name := "emitStack", desc := "()Z" } : Jvm.MethodName) prog_1_method_15_code (3 : Nat) (Option.some Jvm.ClassFile.FieldType.boolean)).before args0 about1 = true := code_word (m := ⟨2, 11⟩) (meth := k2m11) (c := k2c11) (by decide +kernel) rfl rfl rfl (by decide +kernel)
set_option maxRecDepth 65536 in
theorem w_c12 : (Jvm.Cond.code ({ cls := "RecursiveCte", name := "nextTarget", desc := "(II)I" } : Jvm.MethodName) prog_1_method_13_code (5 : Nat) (Option.some Jvm.ClassFile.FieldType.int)).before args0 about1 = true := code_word (m := ⟨2, 9⟩) (meth := k2m9) (c := k2c9) (by decide +kernel) rfl rfl rfl (by decide +kernel)
set_option maxRecDepth 65536 in
theorem w_c13 : (Jvm.Cond.code ({ cls := "RecursiveCte", name := "onStack", desc := "(II)Z" } : Jvm.MethodName) prog_1_method_14_code (4 : Nat) (Option.some Jvm.ClassFile.FieldType.boolean)).before args0 about1 = true := code_word (m := ⟨2, 10⟩) (meth := k2m10) (c := k2c10) (by decide +kernel) rfl rfl rfl (by decide +kernel)
set_option maxRecDepth 65536 in
theorem w_c14 : (Jvm.Cond.code ({ cls := "RecursiveCte", name := "rowCount", desc := "()I" } : Jvm.MethodName) prog_1_method_25_code (1 : Nat) (Option.some Jvm.ClassFile.FieldType.int)).before args0 about1 = true := code_word (m := ⟨2, 13⟩) (meth := k2m13) (c := k2c13) (by decide +kernel) rfl rfl rfl (by decide +kernel)
set_option maxRecDepth 65536 in
theorem w_c15 : (Jvm.Cond.code ({ cls := "RecursiveCte", name := "status", desc := "()I" } : Jvm.MethodName) prog_1_method_24_code (1 : Nat) (Option.some Jvm.ClassFile.FieldType.int)).before args0 about1 = true := code_word (m := ⟨2, 12⟩) (meth := k2m12) (c := k2c12) (by decide +kernel) rfl rfl rfl (by decide +kernel)
set_option maxRecDepth 65536 in
theorem w_c16 : (Jvm.Cond.code ({ cls := "RecursiveCteL3", name := "row", desc := "(LRecursiveCte;IIIIIZ)Z" } : Jvm.MethodName) method_3_code (8 : Nat) (Option.some Jvm.ClassFile.FieldType.boolean)).before args0 about1 = true := code_word (m := ⟨1, 2⟩) (meth := k1m2) (c := k1c2) (by decide +kernel) rfl rfl rfl (by decide +kernel)
set_option maxRecDepth 65536 in
theorem w_c17 : (Jvm.Cond.code ({ cls := "RecursiveCte", name := "rowDepth", desc := "(I)I" } : Jvm.MethodName) prog_1_method_28_code (2 : Nat) (Option.some Jvm.ClassFile.FieldType.int)).before args0 about1 = true := code_word (m := ⟨2, 16⟩) (meth := k2m16) (c := k2c16) (by decide +kernel) rfl rfl rfl (by decide +kernel)
set_option maxRecDepth 65536 in
theorem w_c18 : (Jvm.Cond.code ({ cls := "RecursiveCte", name := "validRow", desc := "(I)Z" } : Jvm.MethodName) prog_1_method_26_code (2 : Nat) (Option.some Jvm.ClassFile.FieldType.boolean)).before args0 about1 = true := code_word (m := ⟨2, 14⟩) (meth := k2m14) (c := k2c14) (by decide +kernel) rfl rfl rfl (by decide +kernel)
set_option maxRecDepth 65536 in
theorem w_c19 : (Jvm.Cond.code ({ cls := "RecursiveCte", name := "rowNode", desc := "(I)I" } : Jvm.MethodName) prog_1_method_27_code (2 : Nat) (Option.some Jvm.ClassFile.FieldType.int)).before args0 about1 = true := code_word (m := ⟨2, 15⟩) (meth := k2m15) (c := k2c15) (by decide +kernel) rfl rfl rfl (by decide +kernel)
set_option maxRecDepth 65536 in
theorem w_c20 : (Jvm.Cond.code ({ cls := "RecursiveCte", name := "rowIsCycle", desc := "(I)Z" } : Jvm.MethodName) prog_1_method_29_code (2 : Nat) (Option.some Jvm.ClassFile.FieldType.boolean)).before args0 about1 = true := code_word (m := ⟨2, 17⟩) (meth := k2m17) (c := k2c17) (by decide +kernel) rfl rfl rfl (by decide +kernel)
set_option maxRecDepth 65536 in
theorem w_c21 : (Jvm.Cond.code ({ cls := "RecursiveCte", name := "rowPathNode", desc := "(II)I" } : Jvm.MethodName) prog_1_method_30_code (3 : Nat) (Option.some Jvm.ClassFile.FieldType.int)).before args0 about1 = true := code_word (m := ⟨2, 18⟩) (meth := k2m18) (c := k2c18) (by decide +kernel) rfl rfl rfl (by decide +kernel)
set_option maxRecDepth 65536 in
theorem w_c22 : (Jvm.Cond.code ({ cls := "RecursiveCte", name := "countNode", desc := "(I)I" } : Jvm.MethodName) prog_1_method_31_code (4 : Nat) (Option.some Jvm.ClassFile.FieldType.int)).before args0 about1 = true := code_word (m := ⟨2, 19⟩) (meth := k2m19) (c := k2c19) (by decide +kernel) rfl rfl rfl (by decide +kernel)
def codes1 : List Jvm.Cond := [Jvm.Cond.code x code maxLocals ret, Jvm.Cond.code ({ cls := "RecursiveCte", name := "<init>", desc := "(III)V" } : Jvm.MethodName) prog_1_method_1_code (4 : Nat) (Option.none : Option Jvm.ClassFile.FieldType), Jvm.Cond.code ({ cls := "java/lang/Object", name := "<init>", desc := "()V" } : Jvm.MethodName) object_method_1_code (1 : Nat) (Option.none : Option Jvm.ClassFile.FieldType), Jvm.Cond.code ({ cls := "RecursiveCte", name := "clamp", desc := "(III)I" } : Jvm.MethodName) prog_1_method_2_code (4 : Nat) (Option.some Jvm.ClassFile.FieldType.int), Jvm.Cond.code ({ cls := "RecursiveCte", name := "addEdge", desc := "(II)I" } : Jvm.MethodName) prog_1_method_5_code (3 : Nat) (Option.some Jvm.ClassFile.FieldType.int), Jvm.Cond.code ({ cls := "RecursiveCte", name := "inRange", desc := "(I)Z" } : Jvm.MethodName) prog_1_method_3_code (2 : Nat) (Option.some Jvm.ClassFile.FieldType.boolean), Jvm.Cond.code ({ cls := "RecursiveCte", name := "clearResult", desc := "()V" } : Jvm.MethodName) prog_1_method_4_code (1 : Nat) (Option.none : Option Jvm.ClassFile.FieldType), Jvm.Cond.code ({ cls := "RecursiveCte", name := "addSeed", desc := "(I)I" } : Jvm.MethodName) prog_1_method_7_code (2 : Nat) (Option.some Jvm.ClassFile.FieldType.int), Jvm.Cond.code ({ cls := "RecursiveCte", name := "run", desc := "()I" } : Jvm.MethodName) prog_1_method_10_code (2 : Nat) (Option.some Jvm.ClassFile.FieldType.int), Jvm.Cond.code ({ cls := "RecursiveCte", name := "runDepthFirstAll", desc := "()Z" } : Jvm.MethodName) prog_1_method_11_code (2 : Nat) (Option.some Jvm.ClassFile.FieldType.boolean), Jvm.Cond.code ({ cls := "RecursiveCte", name := "walkFrom", desc := "(I)Z" } : Jvm.MethodName) prog_1_method_12_code (6 : Nat) (Option.some Jvm.ClassFile.FieldType.boolean), Jvm.Cond.code ({ cls := "RecursiveCte", name := "emitStack", desc := "()Z" } : Jvm.MethodName) prog_1_method_15_code (3 : Nat) (Option.some Jvm.ClassFile.FieldType.boolean), Jvm.Cond.code ({ cls := "RecursiveCte", name := "nextTarget", desc := "(II)I" } : Jvm.MethodName) prog_1_method_13_code (5 : Nat) (Option.some Jvm.ClassFile.FieldType.int), Jvm.Cond.code ({ cls := "RecursiveCte", name := "onStack", desc := "(II)Z" } : Jvm.MethodName) prog_1_method_14_code (4 : Nat) (Option.some Jvm.ClassFile.FieldType.boolean), Jvm.Cond.code ({ cls := "RecursiveCte", name := "rowCount", desc := "()I" } : Jvm.MethodName) prog_1_method_25_code (1 : Nat) (Option.some Jvm.ClassFile.FieldType.int), Jvm.Cond.code ({ cls := "RecursiveCte", name := "status", desc := "()I" } : Jvm.MethodName) prog_1_method_24_code (1 : Nat) (Option.some Jvm.ClassFile.FieldType.int), Jvm.Cond.code ({ cls := "RecursiveCteL3", name := "row", desc := "(LRecursiveCte;IIIIIZ)Z" } : Jvm.MethodName) method_3_code (8 : Nat) (Option.some Jvm.ClassFile.FieldType.boolean), Jvm.Cond.code ({ cls := "RecursiveCte", name := "rowDepth", desc := "(I)I" } : Jvm.MethodName) prog_1_method_28_code (2 : Nat) (Option.some Jvm.ClassFile.FieldType.int), Jvm.Cond.code ({ cls := "RecursiveCte", name := "validRow", desc := "(I)Z" } : Jvm.MethodName) prog_1_method_26_code (2 : Nat) (Option.some Jvm.ClassFile.FieldType.boolean), Jvm.Cond.code ({ cls := "RecursiveCte", name := "rowNode", desc := "(I)I" } : Jvm.MethodName) prog_1_method_27_code (2 : Nat) (Option.some Jvm.ClassFile.FieldType.int), Jvm.Cond.code ({ cls := "RecursiveCte", name := "rowIsCycle", desc := "(I)Z" } : Jvm.MethodName) prog_1_method_29_code (2 : Nat) (Option.some Jvm.ClassFile.FieldType.boolean), Jvm.Cond.code ({ cls := "RecursiveCte", name := "rowPathNode", desc := "(II)I" } : Jvm.MethodName) prog_1_method_30_code (3 : Nat) (Option.some Jvm.ClassFile.FieldType.int), Jvm.Cond.code ({ cls := "RecursiveCte", name := "countNode", desc := "(I)I" } : Jvm.MethodName) prog_1_method_31_code (4 : Nat) (Option.some Jvm.ClassFile.FieldType.int)]
set_option maxRecDepth 65536 in
theorem codes_eq : words1.filter isCode = codes1 := rfl
theorem w_codes : ∀ c ∈ words1.filter isCode, c.before args0 about1 = true := by
  rw [codes_eq]
  intro c hc
  simp only [codes1, List.mem_cons, List.not_mem_nil, or_false] at hc
  rcases hc with rfl | rfl | rfl | rfl | rfl | rfl | rfl | rfl | rfl | rfl | rfl | rfl | rfl | rfl | rfl | rfl | rfl | rfl | rfl | rfl | rfl | rfl | rfl
  · exact w_c0
  · exact w_c1
  · exact w_c2
  · exact w_c3
  · exact w_c4
  · exact w_c5
  · exact w_c6
  · exact w_c7
  · exact w_c8
  · exact w_c9
  · exact w_c10
  · exact w_c11
  · exact w_c12
  · exact w_c13
  · exact w_c14
  · exact w_c15
  · exact w_c16
  · exact w_c17
  · exact w_c18
  · exact w_c19
  · exact w_c20
  · exact w_c21
  · exact w_c22
set_option maxRecDepth 65536 in
theorem w_t1 : (words1.take 24).all (fun c => isCode c || c.before args0 about1) = true := by decide +kernel
set_option maxRecDepth 65536 in
theorem w_t2 : ((words1.drop 24).take 24).all (fun c => isCode c || c.before args0 about1) = true := by decide +kernel
set_option maxRecDepth 65536 in
theorem w_t3 : (((words1.drop 24).drop 24).take 24).all (fun c => isCode c || c.before args0 about1) = true := by decide +kernel
set_option maxRecDepth 65536 in
theorem w_t4 : ((((words1.drop 24).drop 24).drop 24).take 24).all (fun c => isCode c || c.before args0 about1) = true := by decide +kernel
set_option maxRecDepth 65536 in
theorem w_t5 : (((((words1.drop 24).drop 24).drop 24).drop 24).take 24).all (fun c => isCode c || c.before args0 about1) = true := by decide +kernel
set_option maxRecDepth 65536 in
theorem w_t6 : (((((words1.drop 24).drop 24).drop 24).drop 24).drop 24).all (fun c => isCode c || c.before args0 about1) = true := by decide +kernel
theorem w_tables : (allAtoms (Jvm.Cond.code x code maxLocals ret :: tables_1)).before args0 about1 = true := by
  rw [allAtoms_all]
  show words1.all (fun c => c.before args0 about1) = true
  refine all_split ?_ w_codes
  rw [← List.take_append_drop 24 words1, List.all_append, w_t1, ← List.take_append_drop 24 (words1.drop 24), List.all_append, w_t2, ← List.take_append_drop 24 ((words1.drop 24).drop 24), List.all_append, w_t3, ← List.take_append_drop 24 (((words1.drop 24).drop 24).drop 24), List.all_append, w_t4, ← List.take_append_drop 24 ((((words1.drop 24).drop 24).drop 24).drop 24), List.all_append, w_t5, w_t6]
  rfl
set_option maxRecDepth 65536 in
theorem w_case : (Jvm.Cond.and given_1 narrow_1).before args0 about1 = true := by decide +kernel
theorem w_applies : (headSpec (Jvm.Cond.code x code maxLocals ret :: tables_1) room_1).applies x e0.platform about1 = true :=
  (Spec.applies_iff w_frames).mpr ⟨w_running, w_runnable, w_alone, w_named, w_hears, w_ripe, w_room, w_tables⟩
theorem atStart : AtStart classFile x code maxLocals ret World_1 tables_1 room_1 Calls_1 rest_1 Pre_1 launch0 p0 e0 about1 theMethod args0 below0 :=
  ⟨lists_1, trivial, launch0.admits_env _ _ _, launch0.least_env, fairChoices_fair.cas, fairChoices_fair.clock, w_frames, w_args, w_heap, w_applies, trivial, trivial, w_case⟩
end start1
theorem witness_1 : WitnessClaimed_1 := ⟨start1.p0, start1.e0, start1.about1, start1.theMethod, start1.args0, start1.below0, start1.atStart⟩
end Jvm.Pilot.@@N@@
